import PyProof.Rows.All
import Wide.All
import OpenK.AllK
import Wide.FinOn
import HandS.ForMost
import HandS.Exc
import HandS.TryOnly
import HandS.ExcOwn
import HandS.WordsExc
import HandS.CallSlots
import HandS.Wide
import HandS.Walk
import HandS.TupAny
import HandS.TupMul
import HandS.IsInst
import HandS.Lambda
import HandS.Style
import KE.GoesEnum
import HandS.HeadHook4
import HandS.WrittenGet
import HandS.Deep
import HandS.ExcIs
import PyProof.ReprRoads
import PyProof.Rows.RegFStrParts
import HandS.HeadEnd
import HandS.HeadWalk
import PyProof.Rows.ReprShort
import HandS.Head0
import HandS.Head1
import HandS.Head2
import PySem.Challenge.RW_waterheads_k53_leaks_refused
set_option Elab.async false
set_option linter.all false
set_option maxRecDepth 100000
set_option maxHeartbeats 4000000
/-! DL: values at any depth over the hand layer; what a piece of text does as a function of the slots' deep values. -/
namespace DL
open PySem PySem.Spec PyProof.Rows L2

/-! ### deep values -/
def kD : Key → PyData
  | .inl i => .int i
  | .inr x => .str x
mutual
inductive Rp (K : PySem.W.Frag) (F : Hp) : V → PyData → Prop
  | non : Rp K F .non .none
  | bl (b : Bool) : Rp K F (.bl b) (.bool b)
  | int (i : Int) : Rp K F (.int i) (.int i)
  | str (x : Str) : Rp K F (.str x) (.str x)
  | lst {a : Addr} {xs : List V} {ds : List PyData} : Rd F a (.lst xs) → RpL K F xs ds → Rp K F (.ref a) (.list ds)
  | tup {a : Addr} {xs : List V} {ds : List PyData} : SqT K F a xs → RpL K F xs ds → Rp K F (.ref a) (.tuple ds)
  | dct {a : Addr} {ys : List (Key × V)} {es : List (PyData × PyData)} : F a = some (.dK ys) → RpK K F ys es → Rp K F (.ref a) (.dict es)
inductive RpL (K : PySem.W.Frag) (F : Hp) : List V → List PyData → Prop
  | nil : RpL K F [] []
  | cons {v : V} {vs : List V} {d : PyData} {ds : List PyData} : Rp K F v d → RpL K F vs ds → RpL K F (v :: vs) (d :: ds)
inductive RpK (K : PySem.W.Frag) (F : Hp) : List (Key × V) → List (PyData × PyData) → Prop
  | nil : RpK K F [] []
  | cons {k : Key} {v : V} {ys : List (Key × V)} {d : PyData} {es : List (PyData × PyData)} : Rp K F v d → RpK K F ys es → RpK K F ((k, v) :: ys) ((kD k, d) :: es)
end
theorem same_rd {H H' : Hp} {a : Addr} {u : HO} (e : Same H H') (h : Rd H a u) : Rd H' a u := by
  rcases h with h | ⟨o, h⟩
  · exact .inl (e _ _ h)
  · exact .inr ⟨o, e _ _ h⟩
theorem same_sqT {K : PySem.W.Frag} {H H' : Hp} {a : Addr} {xs : List V} (e : Same H H') (h : SqT K H a xs) : SqT K H' a xs := by
  rcases h with (h | ⟨o, h⟩) | h
  · exact .inl (.inl (e _ _ h))
  · exact .inl (.inr ⟨o, e _ _ h⟩)
  · exact .inr h
section
variable {K : PySem.W.Frag} {F F' H : Hp}
mutual
theorem Rp.mono (e : Same F F') : ∀ (d : PyData) (v : V), Rp K F v d → Rp K F' v d
  | .none, _, h => by cases h; exact .non
  | .bool b, _, h => by cases h; exact .bl b
  | .int i, _, h => by cases h; exact .int i
  | .str x, _, h => by cases h; exact .str x
  | .list ds, _, h => by
    cases h with
    | lst h1 h2 => exact .lst (same_rd e h1) (RpL.mono e ds _ h2)
  | .tuple ds, _, h => by
    cases h with
    | tup h1 h2 => exact .tup (same_sqT e h1) (RpL.mono e ds _ h2)
  | .dict es, _, h => by
    cases h with
    | dct h1 h2 => exact .dct (e _ _ h1) (RpK.mono e es _ h2)
theorem RpL.mono (e : Same F F') : ∀ (ds : List PyData) (vs : List V), RpL K F vs ds → RpL K F' vs ds
  | [], _, h => by cases h; exact .nil
  | d :: ds, _, h => by
    cases h with
    | cons h1 h2 => exact .cons (Rp.mono e d _ h1) (RpL.mono e ds _ h2)
theorem RpK.mono (e : Same F F') : ∀ (es : List (PyData × PyData)) (ys : List (Key × V)), RpK K F ys es → RpK K F' ys es
  | [], _, h => by cases h; exact .nil
  | (k, d) :: es, _, h => by
    cases h with
    | cons h1 h2 => exact .cons (Rp.mono e d _ h1) (RpK.mono e es _ h2)
end
theorem RpL.length : ∀ {vs : List V} {ds : List PyData}, RpL K F vs ds → vs.length = ds.length
  | [], _, h => by cases h; rfl
  | _ :: vs, _, h => by
    cases h with
    | cons h1 h2 => simp [RpL.length h2]
theorem RpL.get : ∀ {vs : List V} {ds : List PyData} {i : Nat} {d : PyData}, RpL K F vs ds → ds[i]? = some d → ∃ v, vs[i]? = some v ∧ Rp K F v d
  | [], _, i, d, h, e => by cases h; simp at e
  | v :: vs, _, 0, d, h, e => by
    cases h with
    | cons h1 h2 => simp at e; subst e; exact ⟨v, rfl, h1⟩
  | v :: vs, _, i + 1, d, h, e => by
    cases h with
    | cons h1 h2 =>
      obtain ⟨u, e1, e2⟩ := RpL.get (i := i) h2 (by simpa using e)
      exact ⟨u, by simpa using e1, e2⟩
theorem RpL.getV : ∀ {vs : List V} {ds : List PyData} {i : Nat} {v : V}, RpL K F vs ds → vs[i]? = some v → ∃ d, ds[i]? = some d ∧ Rp K F v d
  | [], _, i, v, h, e => by simp at e
  | v :: vs, _, 0, u, h, e => by
    cases h with
    | cons h1 h2 => simp at e; subst e; exact ⟨_, rfl, h1⟩
  | v :: vs, _, i + 1, u, h, e => by
    cases h with
    | cons h1 h2 =>
      obtain ⟨d, e1, e2⟩ := RpL.getV (i := i) h2 (by simpa using e)
      exact ⟨d, by simpa using e1, e2⟩
theorem RpL.app : ∀ {vs ws : List V} {ds es : List PyData}, RpL K F vs ds → RpL K F ws es → RpL K F (vs ++ ws) (ds ++ es)
  | [], _, _, _, h, g => by cases h; exact g
  | _ :: _, _, _, _, h, g => by
    cases h with
    | cons h1 h2 => exact .cons h1 (h2.app g)
theorem RpL.take : ∀ {vs : List V} {ds : List PyData} (n : Nat), RpL K F vs ds → RpL K F (vs.take n) (ds.take n)
  | _, _, 0, _ => by simp; exact .nil
  | [], _, _ + 1, h => by cases h; exact .nil
  | _ :: _, _, n + 1, h => by
    cases h with
    | cons h1 h2 => exact .cons h1 (h2.take n)
theorem RpL.drop : ∀ {vs : List V} {ds : List PyData} (n : Nat), RpL K F vs ds → RpL K F (vs.drop n) (ds.drop n)
  | _, _, 0, h => h
  | [], _, _ + 1, h => by cases h; exact .nil
  | _ :: _, _, n + 1, h => by
    cases h with
    | cons h1 h2 => exact h2.drop n
theorem RpL.set : ∀ {vs : List V} {ds : List PyData} {v : V} {d : PyData} (n : Nat), RpL K F vs ds → Rp K F v d → RpL K F (vs.set n v) (ds.set n d)
  | [], _, _, _, _, h, _ => by cases h; exact .nil
  | _ :: _, _, _, _, 0, h, r => by
    cases h with
    | cons h1 h2 => exact .cons r h2
  | _ :: _, _, _, _, n + 1, h, r => by
    cases h with
    | cons h1 h2 => exact .cons h1 (h2.set n r)
theorem RpL.reps {vs : List V} {ds : List PyData} (h : RpL K F vs ds) : ∀ n : Nat, RpL K F (List.replicate n vs).flatten (List.replicate n ds).flatten
  | 0 => .nil
  | n + 1 => by
    rw [List.replicate_succ, List.replicate_succ, List.flatten_cons, List.flatten_cons]
    exact h.app (h.reps n)
end

/-! ### what a slot holds -/
inductive Own where
  | lst (ds : List PyData) | dct (kvs : List (Key × PyData))
/-- a deep value that stays; a list or dict of the def's own; one that it got from its caller to change; another name of a slot's own -/
inductive Sl where
  | val (d : PyData) | own (o : Own) | pen (o : Own) | al (i : Nat)
abbrev EnvD := List (Option Sl)
def Own.d : Own → PyData
  | .lst ds => .list ds
  | .dct kvs => .dict (kvs.map fun p => (kD p.1, p.2))
def Sl.owns : Sl → Prop
  | .own _ => True
  | .pen _ => True
  | _ => False
def fz : Sl → Sl
  | .own o => .val o.d
  | s => s
/-- a list, a dict -/
def Soft : HO → Prop
  | .lst _ => True
  | .dK _ => True
  | _ => False
theorem Soft.nt {u : HO} (h : Soft u) (ps : Array Value) : u ≠ .tbl ps := fun z => by subst z; exact h
theorem Soft.nc {u : HO} (h : Soft u) (c : Addr) (q : Str) : u ≠ LamX.CodeO c q := fun z => by subst z; exact h
/-- no table of code objects -/
def NoT (F : Hp) : Prop := ∀ b ps, F b ≠ some (.tbl ps)
/-- the defs of a law's text that make lambdas -/
def lamDefs : List Str := ["law", "_law_words"]
/-- their tables, and the name that a lambda's code object bears -/
def TabK (K : PySem.W.Frag) : List (Addr × Str) := lamDefs.filterMap fun x => match PySem.W.nsIn K mainGlobals x with
  | some (some (.ref f)) => (match K.lookup f with
    | some ⟨_, _, .func fd, _⟩ => (match fd.code with
      | .ref c => (match K.lookup c with
        | some ⟨_, _, .fields vs, _⟩ => (match vs.getD 11 .none with
          | .ref P => some (P, x ++ ".<locals>." ++ "<lambda>")
          | _ => none)
        | _ => none)
      | _ => none)
    | _ => none)
  | _ => none
/-- what others own stays; the tables of code objects are such -/
structure SameO (K : PySem.W.Frag) (O H : Hp) : Prop where
  val : Same O H
  nt : NoT O
  tb : LamX.Tabs (TabK K) H
section
variable {K : PySem.W.Frag} {O F H : Hp} {a p : Addr} {u u0 : HO}
theorem SameO.free (h : SameO K O H) (n : H p = none) : O p = none := h.val.free n
theorem SameO.new (h : SameO K O H) (n : H p = none) : SameO K O (upd H p u) :=
  ⟨fun b x q => by rw [upd_ne (ne_of_none (h.val b x q) n)]; exact h.val b x q, h.nt, h.tb.ext fun c x e => by rw [upd_ne (ne_of_none e n)]; exact e⟩
/-- a change elsewhere -/
theorem tabs_chg {T : List (Addr × Str)} (h : LamX.Tabs T H) (ha : H a = some u0) (s0 : Soft u0) : LamX.Tabs T (upd H a u) := fun r hr => by
  obtain ⟨ps', h1, h2, h3⟩ := h r hr
  have na : ∀ {c : Addr} {x : HO}, H c = some x → (∀ q, u0 ≠ q ∨ q ≠ x) → c ≠ a := fun {c x} e q z => by
    subst z
    rw [ha] at e
    cases e
    rcases q u0 with y | y <;> exact y rfl
  refine ⟨ps', by rw [upd_ne (na h1 fun q => (Classical.em (u0 = q)).elim (fun z => .inr (z ▸ s0.nt _)) .inl)]; exact h1, h2, fun pos cv hc => ?_⟩
  obtain ⟨c, e1, e2⟩ := h3 pos cv hc
  exact ⟨c, e1, by rw [upd_ne (na e2 fun q => (Classical.em (u0 = q)).elim (fun z => .inr (z ▸ s0.nc _ _)) .inl)]; exact e2⟩
theorem SameO.chg (h : SameO K O H) (nO : O a = none) (ha : H a = some u0) (s0 : Soft u0) : SameO K O (upd H a u) :=
  ⟨fun b x q => by rw [upd_ne (ne_of_none q nO)]; exact h.val b x q, h.nt, tabs_chg h.tb ha s0⟩
theorem NoT.new (h : NoT F) (nu : ∀ ps, u ≠ .tbl ps) : NoT (upd F p u) := fun b ps q => by
  by_cases hb : b = p
  · subst hb; rw [upd_same] at q; cases q; exact nu ps rfl
  · rw [upd_ne hb] at q; exact h b ps q
/-- more is others' -/
theorem SameO.more (h : SameO K O H) (ha : H a = some u) (nu : ∀ ps, u ≠ .tbl ps) : SameO K (upd O a u) H :=
  ⟨fun b x q => by
    by_cases hb : b = a
    · subst hb; rw [upd_same] at q; cases q; exact ha
    · rw [upd_ne hb] at q; exact h.val b x q, h.nt.new nu, h.tb⟩
theorem SameO.sub {O' : Hp} (h : SameO K O H) (s : ∀ b x, O' b = some x → O b = some x) : SameO K O' H := ⟨fun b x q => h.val b x (s b x q), fun b ps q => h.nt b ps (s b _ q), h.tb⟩
/-- a lambda was made -/
theorem SameO.lam {H1 : Hp} (h : SameO K O H) (e : LamX.ExtN H H1) (t : LamX.Tabs (TabK K) H1) : SameO K O H1 := ⟨fun b x q => e b x (h.val b x q) fun ps z => h.nt b ps (z ▸ q), h.nt, t⟩
end
inductive RpV (K : PySem.W.Frag) (F : Hp) : List (Key × V) → List (Key × PyData) → Prop
  | nil : RpV K F [] []
  | cons {k : Key} {v : V} {ys : List (Key × V)} {d : PyData} {es : List (Key × PyData)} : Rp K F v d → RpV K F ys es → RpV K F ((k, v) :: ys) ((k, d) :: es)
def OwnAt (K : PySem.W.Frag) (F H : Hp) (a : Addr) : Own → Prop
  | .lst ds => ∃ xs, H a = some (.lst xs) ∧ RpL K F xs ds
  | .dct kvs => ∃ ys, H a = some (.dK ys) ∧ RpV K F ys kvs
section
variable {K : PySem.W.Frag} {F F' H H' : Hp} {a : Addr} {o : Own}
theorem RpV.mono (e : Same F F') : ∀ {ys : List (Key × V)} {es : List (Key × PyData)}, RpV K F ys es → RpV K F' ys es
  | _, _, .nil => .nil
  | _, _, .cons h r => .cons (Rp.mono e _ _ h) (r.mono e)
theorem RpV.rpK : ∀ {ys : List (Key × V)} {es : List (Key × PyData)}, RpV K F ys es → RpK K F ys (es.map fun p => (kD p.1, p.2))
  | _, _, .nil => .nil
  | _, _, .cons h r => .cons h r.rpK
theorem OwnAt.mono (e : Same F F') (g : H' a = H a) (h : OwnAt K F H a o) : OwnAt K F' H' a o := by
  cases o with
  | lst ds =>
    obtain ⟨xs, h1, h2⟩ := h
    exact ⟨xs, g.trans h1, RpL.mono e _ _ h2⟩
  | dct kvs =>
    obtain ⟨ys, h1, h2⟩ := h
    exact ⟨ys, g.trans h1, h2.mono e⟩
theorem OwnAt.soft (h : OwnAt K F H a o) : ∃ u, H a = some u ∧ Soft u := by
  cases o with
  | lst ds => obtain ⟨xs, h1, _⟩ := h; exact ⟨_, h1, trivial⟩
  | dct kvs => obtain ⟨ys, h1, _⟩ := h; exact ⟨_, h1, trivial⟩
theorem OwnAt.there (h : OwnAt K F H a o) : ∃ u, H a = some u := by
  cases o with
  | lst ds => obtain ⟨xs, h1, _⟩ := h; exact ⟨_, h1⟩
  | dct kvs => obtain ⟨ys, h1, _⟩ := h; exact ⟨_, h1⟩
/-- frozen, it is a deep value -/
theorem OwnAt.rp {u : HO} (h : OwnAt K F H a o) (e : H a = some u) (n : F a = none) : Rp K (upd F a u) (.ref a) o.d := by
  have s : Same F (upd F a u) := fun b x q => by rw [upd_ne (ne_of_none q n)]; exact q
  cases o with
  | lst ds =>
    obtain ⟨xs, h1, h2⟩ := h
    rw [h1] at e; cases e
    exact .lst (.inl upd_same) (RpL.mono s _ _ h2)
  | dct kvs =>
    obtain ⟨ys, h1, h2⟩ := h
    rw [h1] at e; cases e
    exact .dct upd_same (RpK.mono s _ _ h2.rpK)
end
def SlotOk (K : PySem.W.Frag) (F H O : Hp) (P : Nat → Option Addr) (i : Nat) (s : Sl) (v : V) : Prop :=
  match s with
  | .val d => Rp K F v d
  | .own o => ∃ a, v = .ref a ∧ F a = none ∧ O a = none ∧ OwnAt K F H a o
  | .pen o => ∃ a, v = .ref a ∧ P i = some a ∧ F a = none ∧ O a = none ∧ OwnAt K F H a o
  | .al j => v = .ref j
def TmpOk (K : PySem.W.Frag) (F : Hp) (env : EnvD) (σ : L2.St) (s : Sl) (v : V) : Prop :=
  match s with
  | .val d => Rp K F v d
  | .al i => σ[i]? = some (some v)
  | _ => False
/-- what a def's state is: G what stayed when it began, F what stays now (a part of the heap H), O what others own, P where the lists lie that it got to change -/
structure SR (K : PySem.W.Frag) (G O : Hp) (P : Nat → Option Addr) (ts : List (Sl × V)) (env : EnvD) (σ : L2.St) (F H : Hp) : Prop where
  gf : Same G F
  fh : Same F H
  oh : SameO K O H
  dj : ∀ a o, O a = some o → F a = none
  len : env.length = σ.length
  slot : ∀ i s, env[i]? = some (some s) → ∃ v, σ[i]? = some (some v) ∧ SlotOk K F H O P i s v
  tmp : ∀ p ∈ ts, TmpOk K F env σ p.1 p.2
  sep : ∀ (i j : Nat) (s t : Sl) (a : Addr), env[i]? = some (some s) → env[j]? = some (some t) → s.owns → t.owns → σ[i]? = some (some (.ref a)) → σ[j]? = some (some (.ref a)) → i = j
  nt : NoT F
/-- what an expression's value is -/
def RsOk (K : PySem.W.Frag) (F H O : Hp) (env : EnvD) (σ : L2.St) (s : Sl) (v : V) : Prop :=
  match s with
  | .val d => Rp K F v d
  | .own o => ∃ a, v = .ref a ∧ F a = none ∧ O a = none ∧ OwnAt K F H a o ∧ ∀ (i : Nat) (s' : Sl), env[i]? = some (some s') → s'.owns → σ[i]? ≠ some (some (.ref a))
  | .pen _ => False
  | .al i => σ[i]? = some (some v)

section
variable {K : PySem.W.Frag} {G O F H : Hp} {P : Nat → Option Addr} {ts : List (Sl × V)} {env : EnvD} {σ : L2.St} {s : Sl} {v : V} {p : Addr} {u : HO}
theorem same_new (n : H p = none) : Same H (upd H p u) := fun b x q => by rw [upd_ne (ne_of_none q n)]; exact q
theorem SR.sub (h : SR K G O P ts env σ F H) {ts' : List (Sl × V)} (q : ∀ p ∈ ts', p ∈ ts) : SR K G O P ts' env σ F H :=
  ⟨h.gf, h.fh, h.oh, h.dj, h.len, h.slot, fun p hp => h.tmp p (q p hp), h.sep, h.nt⟩
theorem SR.pop {t : Sl × V} (h : SR K G O P (t :: ts) env σ F H) : SR K G O P ts env σ F H := h.sub fun _ hp => List.mem_cons_of_mem _ hp
theorem SR.push (h : SR K G O P ts env σ F H) (t : TmpOk K F env σ s v) : SR K G O P ((s, v) :: ts) env σ F H :=
  ⟨h.gf, h.fh, h.oh, h.dj, h.len, h.slot, fun p hp => by
    rcases List.mem_cons.mp hp with rfl | hp
    · exact t
    · exact h.tmp p hp, h.sep, h.nt⟩
theorem SR.ofree (h : SR K G O P ts env σ F H) (n : H p = none) : F p = none ∧ O p = none := ⟨h.fh.free n, h.oh.free n⟩
theorem SlotOk.mono {F' H' : Hp} {i : Nat} (e : Same F F') (g : ∀ a, F a = none → O a = none → (∃ u, H a = some u) → F' a = none ∧ H' a = H a) (h : SlotOk K F H O P i s v) : SlotOk K F' H' O P i s v := by
  cases s with
  | val d => exact Rp.mono e _ _ h
  | own o =>
    obtain ⟨a, rfl, h1, h2, h3⟩ := h
    have g' := g a h1 h2 h3.there
    exact ⟨a, rfl, g'.1, h2, h3.mono e g'.2⟩
  | pen o =>
    obtain ⟨a, rfl, h0, h1, h2, h3⟩ := h
    have g' := g a h1 h2 h3.there
    exact ⟨a, rfl, h0, g'.1, h2, h3.mono e g'.2⟩
  | al i => exact h
theorem TmpOk.mono {F' : Hp} (e : Same F F') (h : TmpOk K F env σ s v) : TmpOk K F' env σ s v := by
  cases s with
  | val d => exact Rp.mono e _ _ h
  | own o => exact h
  | pen o => exact h
  | al i => exact h
/-- a new object, that stays -/
theorem SR.newF (h : SR K G O P ts env σ F H) (n : H p = none) (nu : ∀ ps, u ≠ .tbl ps) : SR K G O P ts env σ (upd F p u) (upd H p u) := by
  have nF := (h.ofree n).1
  have nO := (h.ofree n).2
  refine ⟨h.gf.trans (same_new nF), fun b x q => ?_, h.oh.new n, fun a o q => ?_, h.len, fun i s e => ?_, fun p hp => (h.tmp p hp).mono (same_new nF), h.sep, h.nt.new nu⟩
  · by_cases hb : b = p
    · subst hb; rw [upd_same] at q ⊢; exact q
    · rw [upd_ne hb] at q ⊢; exact h.fh _ _ q
  · rw [upd_ne (ne_of_none q nO)]; exact h.dj a o q
  · obtain ⟨v, e1, e2⟩ := h.slot i s e
    refine ⟨v, e1, e2.mono (same_new nF) fun a h1 h2 ⟨w, h3⟩ => ?_⟩
    have ne : a ≠ p := ne_of_none h3 n
    rw [upd_ne ne, upd_ne ne]
    exact ⟨h1, rfl⟩
/-- a new object, the def's own -/
theorem SR.newH (h : SR K G O P ts env σ F H) (n : H p = none) : SR K G O P ts env σ F (upd H p u) := by
  refine ⟨h.gf, h.fh.trans (same_new n), h.oh.new n, h.dj, h.len, fun i s e => ?_, h.tmp, h.sep, h.nt⟩
  obtain ⟨v, e1, e2⟩ := h.slot i s e
  refine ⟨v, e1, e2.mono (Same.refl _) fun a h1 h2 ⟨w, h3⟩ => ⟨h1, ?_⟩⟩
  rw [upd_ne (ne_of_none h3 n)]
theorem SR.fresh (h : SR K G O P ts env σ F H) (n : H p = none) {i : Nat} {s' : Sl} (e : env[i]? = some (some s')) (w : s'.owns) : σ[i]? ≠ some (some (.ref p)) := fun z => by
  obtain ⟨v, e1, e2⟩ := h.slot i s' e
  rw [z] at e1
  cases e1
  cases s' with
  | val d => exact w
  | own o =>
    obtain ⟨a, q, _, _, h3⟩ := e2
    cases q
    obtain ⟨u, h4⟩ := h3.there
    rw [n] at h4; cases h4
  | pen o =>
    obtain ⟨a, q, _, _, _, h3⟩ := e2
    cases q
    obtain ⟨u, h4⟩ := h3.there
    rw [n] at h4; cases h4
  | al i => exact w
/-- a new list is a value of its own -/
theorem SR.ownL (h : SR K G O P ts env σ F H) (n : H p = none) {xs : List V} {ds : List PyData} (r : RpL K F xs ds) : SR K G O P ts env σ F (upd H p (.lst xs)) ∧ RsOk K F (upd H p (.lst xs)) O env σ (.own (.lst ds)) (.ref p) :=
  ⟨h.newH n, p, rfl, (h.ofree n).1, (h.ofree n).2, ⟨xs, upd_same, r⟩, fun _ _ e w => h.fresh n e w⟩
theorem SR.ownD (h : SR K G O P ts env σ F H) (n : H p = none) {ys : List (Key × V)} {ds : List (Key × PyData)} (r : RpV K F ys ds) : SR K G O P ts env σ F (upd H p (.dK ys)) ∧ RsOk K F (upd H p (.dK ys)) O env σ (.own (.dct ds)) (.ref p) :=
  ⟨h.newH n, p, rfl, (h.ofree n).1, (h.ofree n).2, ⟨ys, upd_same, r⟩, fun _ _ e w => h.fresh n e w⟩
/-- a new tuple -/
theorem SR.valT (h : SR K G O P ts env σ F H) (n : H p = none) {xs : List V} {ds : List PyData} (r : RpL K F xs ds) : SR K G O P ts env σ (upd F p (.tup xs)) (upd H p (.tup xs)) ∧ RsOk K (upd F p (.tup xs)) (upd H p (.tup xs)) O env σ (.val (.tuple ds)) (.ref p) :=
  ⟨h.newF n (fun _ z => by cases z), .tup (.inl (.inl upd_same)) (RpL.mono (same_new (h.ofree n).1) _ _ r)⟩
/-- what is to be kept stays from now on -/
theorem SR.keep (h : SR K G O P ts env σ F H) (r : RsOk K F H O env σ s v) : ∃ F', Same F F' ∧ SR K G O P ((fz s, v) :: ts) env σ F' H := by
  cases s with
  | val d => exact ⟨F, Same.refl _, h.push r⟩
  | pen o => exact r.elim
  | al i => exact ⟨F, Same.refl _, h.push r⟩
  | own o =>
    obtain ⟨a, rfl, nF, nO, ow, ns⟩ := r
    obtain ⟨u, hu, su⟩ := ow.soft
    refine ⟨upd F a u, same_new nF, ?_⟩
    have e : Same F (upd F a u) := same_new nF
    refine ⟨h.gf.trans e, fun b x q => ?_, h.oh, fun b x q => ?_, h.len, fun i s q => ?_, fun p hp => ?_, h.sep, h.nt.new su.nt⟩
    · by_cases hb : b = a
      · subst hb; rw [upd_same] at q; rw [hu]; exact q
      · rw [upd_ne hb] at q; exact h.fh _ _ q
    · rw [upd_ne (ne_of_none q nO)]; exact h.dj b x q
    · obtain ⟨v, e1, e2⟩ := h.slot i s q
      refine ⟨v, e1, ?_⟩
      cases s with
      | val d => exact Rp.mono e _ _ e2
      | own o' =>
        obtain ⟨b, rfl, h1, h2, h3⟩ := e2
        have ne : b ≠ a := fun z => ns i _ q trivial (by rw [e1, z])
        exact ⟨b, rfl, by rw [upd_ne ne]; exact h1, h2, h3.mono e rfl⟩
      | pen o' =>
        obtain ⟨b, rfl, h0, h1, h2, h3⟩ := e2
        have ne : b ≠ a := fun z => ns i _ q trivial (by rw [e1, z])
        exact ⟨b, rfl, h0, by rw [upd_ne ne]; exact h1, h2, h3.mono e rfl⟩
      | al j => exact e2
    · rcases List.mem_cons.mp hp with rfl | hp
      · exact ow.rp hu nF
      · exact (h.tmp p hp).mono e
end

/-! ### what is told: nothing, a value, or an exception of the class of a name -/
inductive Out (α : Type) where
  | ok (a : α) | err (c : Str) (env : EnvD)
abbrev M (α : Type) := Option (Out α)
@[reducible] def M.ok {α : Type} (a : α) : M α := some (.ok a)
def M.bind {α β : Type} (m : M α) (f : α → M β) : M β :=
  match m with
  | none => none
  | some (.err c e) => some (.err c e)
  | some (.ok a) => f a
abbrev FE := EnvD → M (Sl × EnvD)
abbrev FA := EnvD → M (List Sl × EnvD)
abbrev FT := EnvD → M (Bool × EnvD)
/-- what a temporary is now -/
def rd (s : Sl) (env : EnvD) : Option PyData :=
  match s with
  | .val d => some d
  | .al i => match env[i]? with
    | some (some (.val d)) => some d
    | some (some (.own o)) => some o.d
    | some (some (.pen o)) => some o.d
    | _ => none
  | _ => none
def PErr (K : PySem.W.Frag) (mg : Str → Option Value) (W : WX) (G O : Hp) (P : Nat → Option Addr) (σ : L2.St) (c : Str) (env' : EnvD) : Prop :=
  ∀ C F' H', mg c = some (.ref C) → SR K G O P [] env' σ F' H' → W (.ref C) none σ H'
def PostE (K : PySem.W.Frag) (mg : Str → Option Value) (W : WX) (G O : Hp) (P : Nat → Option Addr) (ts : List (Sl × V)) (σ : L2.St) (Q : VK) : M (Sl × EnvD) → Prop
  | none => False
  | some (.ok (s, env')) => ∀ v F' H', SR K G O P ts env' σ F' H' → RsOk K F' H' O env' σ s v → Q v H'
  | some (.err c env') => PErr K mg W G O P σ c env'
def PostT (K : PySem.W.Frag) (mg : Str → Option Value) (W : WX) (G O : Hp) (P : Nat → Option Addr) (ts : List (Sl × V)) (σ : L2.St) (Q : Bool → Hp → Prop) : M (Bool × EnvD) → Prop
  | none => False
  | some (.ok (b, env')) => ∀ F' H', SR K G O P ts env' σ F' H' → Q b H'
  | some (.err c env') => PErr K mg W G O P σ c env'
def PostA (K : PySem.W.Frag) (mg : Str → Option Value) (W : WX) (G O : Hp) (P : Nat → Option Addr) (ts : List (Sl × V)) (σ : L2.St) (Q : List V → Hp → Prop) : M (List Sl × EnvD) → Prop
  | none => False
  | some (.ok (ss, env')) => ∀ vs F' H', ss.length = vs.length → SR K G O P (ss.zip vs ++ ts) env' σ F' H' → Q vs H'
  | some (.err c env') => PErr K mg W G O P σ c env'
def SndE (K : PySem.W.Frag) (mg : Str → Option Value) (W : WX) (t : TE) (f : FE) : Prop :=
  ∀ G O P ts env σ F H Q, SR K G O P ts env σ F H → PostE K mg W G O P ts σ Q (f env) → t σ H Q
def SndT (K : PySem.W.Frag) (mg : Str → Option Value) (W : WX) (t : TT) (f : FT) : Prop :=
  ∀ G O P ts env σ F H Q, SR K G O P ts env σ F H → PostT K mg W G O P ts σ Q (f env) → t σ H Q
def SndA (K : PySem.W.Frag) (mg : Str → Option Value) (W : WX) (t : TA) (f : FA) : Prop :=
  ∀ G O P ts env σ F H Q, SR K G O P ts env σ F H → PostA K mg W G O P ts σ Q (f env) → t σ H Q
structure DE (X : Cx) (W : WX) (e : Expr) (f : FE) : Prop where
  ex : ∃ t, PE X e t ∧ SndE X.K X.mg W t f
structure DT (X : Cx) (W : WX) (e : Expr) (f : FT) : Prop where
  ex : ∃ t, PT X e t ∧ SndT X.K X.mg W t f
structure DW (X : Cx) (W : WX) (e : Expr) (f : FT) : Prop where
  ex : ∃ t, PW X e t ∧ SndT X.K X.mg W t f
structure DA (X : Cx) (W : WX) (es : List Expr) (f : FA) : Prop where
  ex : ∃ t, PA X es t ∧ SndA X.K X.mg W t f

/-! ### one value behind another -/
section
variable {K : PySem.W.Frag} {mg : Str → Option Value} {W : WX} {G O F H : Hp} {P : Nat → Option Addr} {ts : List (Sl × V)} {env : EnvD} {σ : L2.St}
theorem PostE.imp {Q Q' : VK} : ∀ {m : M (Sl × EnvD)}, PostE K mg W G O P ts σ Q m → (∀ v H', Q v H' → Q' v H') → PostE K mg W G O P ts σ Q' m
  | none, h, _ => h
  | some (.ok _), h, f => fun v F' H' a b => f v H' (h v F' H' a b)
  | some (.err _ _), h, _ => h
/-- first a, kept; then what goes on -/
theorem SndE.thn {t0 : List (Sl × V)} {t : TE} {f : FE} (h : SndE K mg W t f) {R : VK} {k : Sl → EnvD → M (Sl × EnvD)} {Q : VK} (S : SR K G O P ts env σ F H)
    (hp : PostE K mg W G O P t0 σ Q (M.bind (f env) fun p => k (fz p.1) p.2))
    (hk : ∀ s env' v F' H', SR K G O P ((s, v) :: ts) env' σ F' H' → PostE K mg W G O P t0 σ Q (k s env') → R v H') : t σ H R := by
  refine h G O P ts env σ F H R S ?_
  cases e : f env with
  | none => rw [e] at hp; exact hp
  | some o =>
    rw [e] at hp
    cases o with
    | err c env' => exact hp
    | ok p =>
      intro v F' H' S' r
      obtain ⟨F2, _, S2⟩ := S'.keep r
      exact hk _ _ v F2 H' S2 hp
theorem SndE.thnT {t0 : List (Sl × V)} {t : TE} {f : FE} (h : SndE K mg W t f) {R : VK} {k : Sl → EnvD → M (Bool × EnvD)} {Q : Bool → Hp → Prop} (S : SR K G O P ts env σ F H)
    (hp : PostT K mg W G O P t0 σ Q (M.bind (f env) fun p => k (fz p.1) p.2))
    (hk : ∀ s env' v F' H', SR K G O P ((s, v) :: ts) env' σ F' H' → PostT K mg W G O P t0 σ Q (k s env') → R v H') : t σ H R := by
  refine h G O P ts env σ F H R S ?_
  cases e : f env with
  | none => rw [e] at hp; exact hp
  | some o =>
    rw [e] at hp
    cases o with
    | err c env' => exact hp
    | ok p =>
      intro v F' H' S' r
      obtain ⟨F2, _, S2⟩ := S'.keep r
      exact hk _ _ v F2 H' S2 hp
/-- a test, then what goes on -/
theorem SndT.thn {t0 : List (Sl × V)} {t : TT} {f : FT} (h : SndT K mg W t f) {R : Bool → Hp → Prop} {k : Bool → EnvD → M (Sl × EnvD)} {Q : VK} (S : SR K G O P ts env σ F H)
    (hp : PostE K mg W G O P t0 σ Q (M.bind (f env) fun p => k p.1 p.2))
    (hk : ∀ b env' F' H', SR K G O P ts env' σ F' H' → PostE K mg W G O P t0 σ Q (k b env') → R b H') : t σ H R := by
  refine h G O P ts env σ F H R S ?_
  cases e : f env with
  | none => rw [e] at hp; exact hp
  | some o =>
    rw [e] at hp
    cases o with
    | err c env' => exact hp
    | ok p =>
      intro F' H' S'
      exact hk _ _ F' H' S' hp
theorem SndT.thnT {t0 : List (Sl × V)} {t : TT} {f : FT} (h : SndT K mg W t f) {R : Bool → Hp → Prop} {k : Bool → EnvD → M (Bool × EnvD)} {Q : Bool → Hp → Prop} (S : SR K G O P ts env σ F H)
    (hp : PostT K mg W G O P t0 σ Q (M.bind (f env) fun p => k p.1 p.2))
    (hk : ∀ b env' F' H', SR K G O P ts env' σ F' H' → PostT K mg W G O P t0 σ Q (k b env') → R b H') : t σ H R := by
  refine h G O P ts env σ F H R S ?_
  cases e : f env with
  | none => rw [e] at hp; exact hp
  | some o =>
    rw [e] at hp
    cases o with
    | err c env' => exact hp
    | ok p =>
      intro F' H' S'
      exact hk _ _ F' H' S' hp
theorem SndA.thn {t0 : List (Sl × V)} {t : TA} {f : FA} (h : SndA K mg W t f) {R : List V → Hp → Prop} {k : List Sl → EnvD → M (Sl × EnvD)} {Q : VK} (S : SR K G O P ts env σ F H)
    (hp : PostE K mg W G O P t0 σ Q (M.bind (f env) fun p => k p.1 p.2))
    (hk : ∀ ss env' vs F' H', ss.length = vs.length → SR K G O P (ss.zip vs ++ ts) env' σ F' H' → PostE K mg W G O P t0 σ Q (k ss env') → R vs H') : t σ H R := by
  refine h G O P ts env σ F H R S ?_
  cases e : f env with
  | none => rw [e] at hp; exact hp
  | some o =>
    rw [e] at hp
    cases o with
    | err c env' => exact hp
    | ok p =>
      intro vs F' H' hl S'
      exact hk _ _ vs F' H' hl S' hp
end
end DL
set_option Elab.async false
set_option linter.all false
set_option maxRecDepth 100000
set_option maxHeartbeats 4000000
namespace DL
open PySem PySem.Spec PyProof.Rows L2

/-! ### values that are read -/
/-- v shows d now: a list or dict as it stands, its parts deep values -/
def Sh (K : PySem.W.Frag) (F H : Hp) (v : V) (d : PyData) : Prop :=
  match d with
  | .list ds => ∃ a xs, v = .ref a ∧ Rd H a (.lst xs) ∧ RpL K F xs ds
  | .dict es => ∃ a ys, v = .ref a ∧ H a = some (.dK ys) ∧ RpK K F ys es
  | d => Rp K F v d
section
variable {K : PySem.W.Frag} {G O F H : Hp} {P : Nat → Option Addr} {ts : List (Sl × V)} {env : EnvD} {σ : L2.St} {s : Sl} {v : V} {d : PyData} {a : Addr} {o : Own}
theorem Rp.sh (e : Same F H) (h : Rp K F v d) : Sh K F H v d := by
  cases d with
  | list ds =>
    cases h with
    | lst h1 h2 => exact ⟨_, _, rfl, same_rd e h1, h2⟩
  | dict es =>
    cases h with
    | dct h1 h2 => exact ⟨_, _, rfl, e _ _ h1, h2⟩
  | none => exact h
  | bool b => exact h
  | int i => exact h
  | str x => exact h
  | tuple ds => exact h
theorem OwnAt.sh (h : OwnAt K F H a o) : Sh K F H (.ref a) o.d := by
  cases o with
  | lst ds =>
    obtain ⟨xs, h1, h2⟩ := h
    exact ⟨a, xs, rfl, .inl h1, h2⟩
  | dct kvs =>
    obtain ⟨ys, h1, h2⟩ := h
    exact ⟨a, ys, rfl, h1, h2.rpK⟩
theorem SR.sh (h : SR K G O P ts env σ F H) (m : (s, v) ∈ ts) (e : rd s env = some d) : Sh K F H v d := by
  have q : TmpOk K F env σ s v := h.tmp _ m
  cases s with
  | val x =>
    cases e
    exact Rp.sh h.fh q
  | own o => cases e
  | pen o => cases e
  | al i =>
    have q1 : σ[i]? = some (some v) := q
    unfold rd at e
    cases q2 : env[i]? with
    | none => simp only [q2] at e; cases e
    | some o2 =>
    cases o2 with
    | none => simp only [q2] at e; cases e
    | some s' =>
    obtain ⟨u, e1, e2⟩ := h.slot i s' q2
    rw [q1] at e1
    cases e1
    simp only [q2] at e
    cases s' with
    | val x =>
      cases e
      exact Rp.sh h.fh e2
    | own o =>
      cases e
      obtain ⟨b, rfl, _, _, z⟩ := e2
      exact z.sh
    | pen o =>
      cases e
      obtain ⟨b, rfl, _, _, _, z⟩ := e2
      exact z.sh
    | al j => cases e
/-- .. as data of the layer (no dict within) -/
def noDict : PyData → Bool
  | .dict _ => false
  | .list ds => noDictAll ds
  | .tuple ds => noDictAll ds
  | _ => true
where noDictAll : List PyData → Bool
  | [] => true
  | d :: ds => noDict d && noDictAll ds
end

/-! ### forms of the functions -/
def eC (d : PyData) : FE := fun env => M.ok (.val d, env)
def eVar (i : Nat) : FE := fun env =>
  match env[i]? with
  | some (some (.val d)) => M.ok (.val d, env)
  | some (some (.own _)) => M.ok (.al i, env)
  | some (some (.pen _)) => M.ok (.al i, env)
  | _ => none
def fin (o : Option Sl) (env : EnvD) : M (Sl × EnvD) :=
  match o with
  | some s => M.ok (s, env)
  | none => none
def g1 (g : PyData → Option Sl) (a : Option PyData) : Option Sl :=
  match a with
  | some d => g d
  | none => none
def g2 (g : PyData → PyData → Option Sl) (a b : Option PyData) : Option Sl :=
  match a with
  | some d => match b with
    | some e => g d e
    | none => none
  | none => none
def e1 (g : PyData → Option Sl) (fa : FE) : FE := fun env => M.bind (fa env) fun p => fin (g1 g (rd (fz p.1) p.2)) p.2
def e2 (g : PyData → PyData → Option Sl) (fa fb : FE) : FE := fun env => M.bind (fa env) fun p => M.bind (fb p.2) fun q => fin (g2 g (rd (fz p.1) q.2) (rd (fz q.1) q.2)) q.2
def asB (s : Sl) : Option Bool :=
  match s with
  | .val (.bool b) => some b
  | _ => none
def eT (f : FE) : FT := fun env => M.bind (f env) fun p => match asB p.1 with
  | some b => M.ok (b, p.2)
  | none => none
def eAnd (fa fb : FE) : FE := fun env => M.bind (fa env) fun p => match asB p.1 with
  | some true => fb p.2
  | some false => M.ok (.val (.bool false), p.2)
  | none => none
def eOr (fa fb : FE) : FE := fun env => M.bind (fa env) fun p => match asB p.1 with
  | some true => M.ok (.val (.bool true), p.2)
  | some false => fb p.2
  | none => none
def eNot (fa : FE) : FE := fun env => M.bind (fa env) fun p => match asB p.1 with
  | some b => M.ok (.val (.bool (!b)), p.2)
  | none => none
def tAndF (fa fb : FT) : FT := fun env => M.bind (fa env) fun p => match p.1 with
  | true => fb p.2
  | false => M.ok (false, p.2)
def tOrF (fa fb : FT) : FT := fun env => M.bind (fa env) fun p => match p.1 with
  | true => M.ok (true, p.2)
  | false => fb p.2
def tNotF (fa : FT) : FT := fun env => M.bind (fa env) fun p => M.ok (!p.1, p.2)
def eIf (fc : FT) (fa fb : FE) : FE := fun env => M.bind (fc env) fun p => match p.1 with
  | true => fa p.2
  | false => fb p.2
def aNil : FA := fun env => M.ok ([], env)
def aCons (fa : FE) (fr : FA) : FA := fun env => M.bind (fa env) fun p => M.bind (fr p.2) fun q => M.ok (fz p.1 :: q.1, q.2)

section
variable {X : Cx} {W : WX} {e a b c : Expr} {es rest : List Expr} {f fa fb fc : FE} {pos : Pos}

/-! ### names and constants -/
theorem de_var (i : Nat) {x : Str} {pos : Pos} (hN : X.N[i]? = some x := by rfl) (hv : Vis X.env.scope x := by first | exact Or.inl rfl | exact Or.inr (Or.inl rfl) | exact Or.inr (Or.inr rfl)) (hd : (x == ("__debug__" : Str)) = false := by decide)
    (hcd : (x == ("__classdict__" : Str)) = false := by decide) : DE X W (.Name x pos) (eVar i) := by
  refine ⟨_, pe_var hN hv hd hcd, fun G O P ts env σ F H Q S hp => ?_⟩
  unfold eVar at hp
  cases q : env[i]? with
  | none => rw [q] at hp; exact hp.elim
  | some o =>
    cases o with
    | none => rw [q] at hp; exact hp.elim
    | some s =>
      rw [q] at hp
      obtain ⟨v, e1, e2⟩ := S.slot i s q
      refine ⟨v, e1, ?_⟩
      cases s with
      | val d => exact hp v F H S e2
      | own o => exact hp v F H S e1
      | pen o => exact hp v F H S e1
      | al j => exact hp.elim
theorem de_const {v : V} {d : PyData} (h : PE X e (tC v)) (r : ∀ F, Rp X.K F v d) : DE X W e (eC d) :=
  ⟨_, h, fun _ _ _ _ _ _ F H _ S hp => hp v F H S (r F)⟩
theorem de_int {i : Int} {j : Nat} {pos : Pos} : DE X W (.Constant (.int i) j pos) (eC (.int i)) := de_const pe_int fun _ => .int i
theorem de_bl {i : Bool} {j : Nat} {pos : Pos} : DE X W (.Constant (.bool i) j pos) (eC (.bool i)) := de_const pe_bl fun _ => .bl i
theorem de_non {j : Nat} {pos : Pos} : DE X W (.Constant .none j pos) (eC .none) := de_const pe_non fun _ => .non
theorem de_str {x : Str} {j : Nat} {pos : Pos} : DE X W (.Constant (.str x) j pos) (eC (.str x)) := de_const pe_str fun _ => .str x

/-! ### operators -/
/-- an operator by deep values -/
def OpD (X : Cx) (r : R2) (g : PyData → PyData → Option Sl) : Prop := ∀ (G O : Hp) (P : Nat → Option Addr) (ts : List (Sl × V)) (env : EnvD) (σ : L2.St) (F H : Hp) (x y : V) (d1 d2 : PyData) (s : Sl) (Q : VK),
  SR X.K G O P ts env σ F H → Sh X.K F H x d1 → Sh X.K F H y d2 → g d1 d2 = some s → (∀ v F' H', SR X.K G O P ts env σ F' H' → RsOk X.K F' H' O env σ s v → Q v H') → r x y H Q
def UnD (X : Cx) (r : V → Hp → VK → Prop) (g : PyData → Option Sl) : Prop := ∀ (G O : Hp) (P : Nat → Option Addr) (ts : List (Sl × V)) (env : EnvD) (σ : L2.St) (F H : Hp) (x : V) (d1 : PyData) (s : Sl) (Q : VK),
  SR X.K G O P ts env σ F H → Sh X.K F H x d1 → g d1 = some s → (∀ v F' H', SR X.K G O P ts env σ F' H' → RsOk X.K F' H' O env σ s v → Q v H') → r x H Q
theorem fin_ok {K : PySem.W.Frag} {mg : Str → Option Value} {G O : Hp} {P : Nat → Option Addr} {ts : List (Sl × V)} {σ : L2.St} {Q : VK} {o : Option Sl} {env : EnvD} (h : PostE K mg W G O P ts σ Q (fin o env)) :
    ∃ s, o = some s ∧ ∀ v F' H', SR K G O P ts env σ F' H' → RsOk K F' H' O env σ s v → Q v H' := by
  cases o with
  | none => exact h.elim
  | some s => exact ⟨s, rfl, h⟩
theorem g1_ok {g : PyData → Option Sl} {a : Option PyData} {s : Sl} (h : g1 g a = some s) : ∃ d, a = some d ∧ g d = some s := by
  cases a with
  | none => cases h
  | some d => exact ⟨d, rfl, h⟩
theorem g2_ok {g : PyData → PyData → Option Sl} {a b : Option PyData} {s : Sl} (h : g2 g a b = some s) : ∃ d e, a = some d ∧ b = some e ∧ g d e = some s := by
  cases a with
  | none => cases h
  | some d =>
    cases b with
    | none => cases h
    | some e => exact ⟨d, e, rfl, rfl, h⟩
theorem snd_op {K : PySem.W.Frag} {r : R2} {g : PyData → PyData → Option Sl} {ta tb : TE} (hg : OpD X r g) (ha : SndE X.K X.mg W ta fa) (hb : SndE X.K X.mg W tb fb) : SndE X.K X.mg W (tOp r ta tb) (e2 g fa fb) := by
  intro G O P ts env σ F H Q S hp
  refine ha.thn (k := fun s env' => M.bind (fb env') fun q => fin (g2 g (rd s q.2) (rd (fz q.1) q.2)) q.2) S hp fun s env' v F' H' S' hp' => ?_
  refine hb.thn (k := fun s2 env2 => fin (g2 g (rd s env2) (rd s2 env2)) env2) S' hp' fun s2 env2 v2 F2 H2 S2 hp2 => ?_
  obtain ⟨z, e0, q⟩ := fin_ok hp2
  obtain ⟨d1, d2, e1, e2, e3⟩ := g2_ok e0
  exact hg G O P ts env2 σ F2 H2 v v2 d1 d2 z Q S2.pop.pop (S2.sh (by simp) e1) (S2.sh (by simp) e2) e3 q
theorem de_op {op : Operator} {r : R2} {g : PyData → PyData → Option Sl} (ho : OpR X (binaryOp op) r) (hg : OpD X r g) (ha : DE X W a fa) (hb : DE X W b fb) : DE X W (.BinOp a op b pos) (e2 g fa fb) := by
  obtain ⟨ta, pa, sa⟩ := ha.ex
  obtain ⟨tb, pb, sb⟩ := hb.ex
  exact ⟨_, pe_op ho pa pb, snd_op (K := X.K) hg sa sb⟩
theorem de_cmp {op : CmpOp} {r : R2} {g : PyData → PyData → Option Sl} (ho : OpR X (compareOp op) r) (hg : OpD X r g) (ha : DE X W a fa) (hb : DE X W b fb) (hm : behindInMarks op b = false := by first | rfl | exact nomark _) : DE X W (.Compare a [op] [b] pos) (e2 g fa fb) := by
  obtain ⟨ta, pa, sa⟩ := ha.ex
  obtain ⟨tb, pb, sb⟩ := hb.ex
  exact ⟨_, pe_cmpR ho pa pb hm, snd_op (K := X.K) hg sa sb⟩
theorem asB_ok {K : PySem.W.Frag} {F H O : Hp} {env : EnvD} {σ : L2.St} {s : Sl} {v : V} {b : Bool} (h : asB s = some b) (r : RsOk K F H O env σ s v) : v = .bl b := by
  unfold asB at h
  split at h
  · cases h
    cases r
    rfl
  · cases h
theorem snd_test {K : PySem.W.Frag} {mg : Str → Option Value} {t : TE} (h : SndE K mg W t f) : SndT K mg W (tTest t) (eT f) := by
  intro G O P ts env σ F H Q S hp
  refine h G O P ts env σ F H _ S ?_
  unfold eT at hp
  cases q : f env with
  | none => rw [q] at hp; exact hp
  | some o =>
    rw [q] at hp
    cases o with
    | err c env' => exact hp
    | ok p =>
      intro v F' H' S' r
      change PostT K mg W G O P ts σ Q (match asB p.1 with | some b => M.ok (b, p.2) | none => none) at hp
      cases z : asB p.1 with
      | none => rw [z] at hp; exact hp.elim
      | some b =>
        rw [z] at hp
        exact ⟨b, asB_ok z r, hp F' H' S'⟩
theorem dt_cmp {op : CmpOp} {r : R2} {g : PyData → PyData → Option Sl} (ho : OpR X (compareOp op) r) (hg : OpD X r g) (ha : DE X W a fa) (hb : DE X W b fb) (hm : behindInMarks op b = false := by first | rfl | exact nomark _) : DT X W (.Compare a [op] [b] pos) (eT (e2 g fa fb)) := by
  obtain ⟨ta, pa, sa⟩ := ha.ex
  obtain ⟨tb, pb, sb⟩ := hb.ex
  exact ⟨_, pt_cmpR ho pa pb hm, snd_test (snd_op (K := X.K) hg sa sb)⟩
theorem dt_val (h : DE X W e f) (he : ∀ whole, isTrue e X.env whole = (do let v ← whole; standAt e.pos; holding [v] (truthy v)) := by intro _; rfl) : DT X W e (eT f) := by
  obtain ⟨t, p, s⟩ := h.ex
  exact ⟨_, pt_val p he, snd_test s⟩
theorem de_un {op : UnaryOp} {r : V → Hp → VK → Prop} {g : PyData → Option Sl} (ho : UnR X (unaryOp op) r) (hg : UnD X r g) (ha : DE X W a fa) : DE X W (.UnaryOp op a pos) (e1 g fa) := by
  obtain ⟨ta, pa, sa⟩ := ha.ex
  refine ⟨_, pe_un ho pa, fun G O P ts env σ F H Q S hp => ?_⟩
  refine sa.thn (k := fun s env' => fin (g1 g (rd s env')) env') S hp fun s env' v F' H' S' hp' => ?_
  obtain ⟨z, e0, q⟩ := fin_ok hp'
  obtain ⟨d1, e1, e3⟩ := g1_ok e0
  exact hg G O P ts env' σ F' H' v d1 z Q S'.pop (S'.sh (by simp) e1) e3 q

/-! ### and, or, not, a if t else b -/
theorem de_one {op : BoolOp} (ha : DE X W a fa) : DE X W (.BoolOp op [a] pos) fa := by
  obtain ⟨ta, pa, sa⟩ := ha.ex
  exact ⟨_, pe_one pa, sa⟩
theorem snd_bool {K : PySem.W.Frag} {mg : Str → Option Value} {t : TE} {k : Bool → EnvD → M (Sl × EnvD)} {T : Bool → Hp → VK → L2.St → Prop} (h : SndE K mg W t f)
    (hk : ∀ (b : Bool) G O P ts env σ F H Q, SR K G O P ts env σ F H → PostE K mg W G O P ts σ Q (k b env) → T b H Q σ) :
    SndE K mg W (fun σ H Q => t σ H fun x H1 => ∃ c, x = .bl c ∧ T c H1 Q σ) (fun env => M.bind (f env) fun p => match asB p.1 with | some b => k b p.2 | none => none) := by
  intro G O P ts env σ F H Q S hp
  refine h G O P ts env σ F H _ S ?_
  dsimp only at hp
  cases q : f env with
  | none => rw [q] at hp; exact hp
  | some o =>
    rw [q] at hp
    cases o with
    | err c env' => exact hp
    | ok p =>
      intro v F' H' S' r
      change PostE K mg W G O P ts σ Q (match asB p.1 with | some b => k b p.2 | none => none) at hp
      cases z : asB p.1 with
      | none => rw [z] at hp; exact hp.elim
      | some b =>
        rw [z] at hp
        exact ⟨b, asB_ok z r, hk b G O P ts p.2 σ F' H' Q S' hp⟩
theorem de_and (ha : DE X W a fa) (hb : DE X W (.BoolOp .And (b :: rest) pos) fb) : DE X W (.BoolOp .And (a :: b :: rest) pos) (eAnd fa fb) := by
  obtain ⟨ta, pa, sa⟩ := ha.ex
  obtain ⟨tb, pb, sb⟩ := hb.ex
  refine ⟨_, pe_and pa pb, ?_⟩
  have z := snd_bool (k := fun c env => match c with | true => fb env | false => M.ok (.val (.bool false), env)) (T := fun c H Q σ => if c = true then tb σ H Q else Q (.bl false) H) sa (fun c G O P ts env σ F H Q S hp => by
    cases c with
    | true => exact sb G O P ts env σ F H Q S hp
    | false => exact hp _ F H S (.bl false))
  intro G O P ts env σ F H Q S hp
  refine z G O P ts env σ F H Q S ?_
  have e : (fun p : Sl × EnvD => match asB p.1 with | some true => fb p.2 | some false => M.ok (.val (.bool false), p.2) | none => none) = fun p : Sl × EnvD => match asB p.1 with | some c => (match c with | true => fb p.2 | false => M.ok (.val (.bool false), p.2)) | none => none := by
    funext p
    cases asB p.1 with
    | none => rfl
    | some c => cases c <;> rfl
  unfold eAnd at hp
  rw [e] at hp
  exact hp
theorem de_or (ha : DE X W a fa) (hb : DE X W (.BoolOp .Or (b :: rest) pos) fb) : DE X W (.BoolOp .Or (a :: b :: rest) pos) (eOr fa fb) := by
  obtain ⟨ta, pa, sa⟩ := ha.ex
  obtain ⟨tb, pb, sb⟩ := hb.ex
  refine ⟨_, pe_or pa pb, ?_⟩
  have z := snd_bool (k := fun c env => match c with | false => fb env | true => M.ok (.val (.bool true), env)) (T := fun c H Q σ => if c = true then Q (.bl true) H else tb σ H Q) sa (fun c G O P ts env σ F H Q S hp => by
    cases c with
    | false => exact sb G O P ts env σ F H Q S hp
    | true => exact hp _ F H S (.bl true))
  intro G O P ts env σ F H Q S hp
  refine z G O P ts env σ F H Q S ?_
  have e : (fun p : Sl × EnvD => match asB p.1 with | some true => M.ok (.val (.bool true), p.2) | some false => fb p.2 | none => none) = fun p : Sl × EnvD => match asB p.1 with | some c => (match c with | false => fb p.2 | true => M.ok (.val (.bool true), p.2)) | none => none := by
    funext p
    cases asB p.1 with
    | none => rfl
    | some c => cases c <;> rfl
  unfold eOr at hp
  rw [e] at hp
  exact hp
theorem de_not (ha : DE X W a fa) : DE X W (.UnaryOp .Not a pos) (eNot fa) := by
  obtain ⟨ta, pa, sa⟩ := ha.ex
  exact ⟨_, pe_not pa, snd_bool (k := fun c env => M.ok (.val (.bool (!c)), env)) (T := fun c H Q _ => Q (.bl (!c)) H) sa fun c G O P ts env σ F H Q S hp => hp _ F H S (.bl (!c))⟩
theorem dt_w {f : FT} (h : DW X W e f) : DT X W e f := by
  obtain ⟨t, p, s⟩ := h.ex
  exact ⟨_, p.pt, s⟩
theorem dw_and1 {f : FT} (h : DT X W a f) : DW X W (.BoolOp .And [a] pos) f := by
  obtain ⟨t, p, s⟩ := h.ex
  exact ⟨_, pw_and1 p, s⟩
theorem dw_or1 {f : FT} (h : DT X W a f) : DW X W (.BoolOp .Or [a] pos) f := by
  obtain ⟨t, p, s⟩ := h.ex
  exact ⟨_, pw_or1 p, s⟩
theorem dw_and {f g : FT} (ha : DT X W a f) (hb : DW X W (.BoolOp .And (b :: rest) pos) g) : DW X W (.BoolOp .And (a :: b :: rest) pos) (tAndF f g) := by
  obtain ⟨ta, pa, sa⟩ := ha.ex
  obtain ⟨tb, pb, sb⟩ := hb.ex
  refine ⟨_, pw_and pa pb, fun G O P ts env σ F H Q S hp => ?_⟩
  refine sa.thnT (k := fun c env' => match c with | true => g env' | false => M.ok (false, env')) S hp fun c env' F' H' S' hp' => ?_
  cases c with
  | true => exact sb G O P ts env' σ F' H' Q S' hp'
  | false => exact hp' F' H' S'
theorem dw_or {f g : FT} (ha : DT X W a f) (hb : DW X W (.BoolOp .Or (b :: rest) pos) g) : DW X W (.BoolOp .Or (a :: b :: rest) pos) (tOrF f g) := by
  obtain ⟨ta, pa, sa⟩ := ha.ex
  obtain ⟨tb, pb, sb⟩ := hb.ex
  refine ⟨_, pw_or pa pb, fun G O P ts env σ F H Q S hp => ?_⟩
  refine sa.thnT (k := fun c env' => match c with | true => M.ok (true, env') | false => g env') S hp fun c env' F' H' S' hp' => ?_
  cases c with
  | false => exact sb G O P ts env' σ F' H' Q S' hp'
  | true => exact hp' F' H' S'
theorem dt_not {f : FT} (ha : DT X W a f) : DT X W (.UnaryOp .Not a pos) (tNotF f) := by
  obtain ⟨ta, pa, sa⟩ := ha.ex
  refine ⟨_, pt_not pa, fun G O P ts env σ F H Q S hp => ?_⟩
  exact sa.thnT (k := fun c env' => M.ok (!c, env')) S hp fun c env' F' H' S' hp' => hp' F' H' S'
theorem de_if {f : FT} (hc : DT X W c f) (ha : DE X W a fa) (hb : DE X W b fb) : DE X W (.IfExp c a b pos) (eIf f fa fb) := by
  obtain ⟨tc, pc, sc⟩ := hc.ex
  obtain ⟨ta, pa, sa⟩ := ha.ex
  obtain ⟨tb, pb, sb⟩ := hb.ex
  refine ⟨_, pe_ifExp pc pa pb, fun G O P ts env σ F H Q S hp => ?_⟩
  refine sc.thn (k := fun c env' => match c with | true => fa env' | false => fb env') S hp fun c env' F' H' S' hp' => ?_
  cases c with
  | true => exact sa G O P ts env' σ F' H' Q S' hp'
  | false => exact sb G O P ts env' σ F' H' Q S' hp'

/-! ### arguments -/
theorem da_nil : DA X W [] aNil := ⟨_, pa_nil, fun _ _ _ _ _ _ F H _ S hp => hp [] F H rfl S⟩
theorem da_cons {fr : FA} (ha : DE X W e fa) (hr : DA X W es fr) (hs : starEach (e :: es) X.env = (false, eval e X.env) :: starEach es X.env := by rfl) : DA X W (e :: es) (aCons fa fr) := by
  obtain ⟨ta, pa, sa⟩ := ha.ex
  obtain ⟨tr, pr, sr⟩ := hr.ex
  refine ⟨_, pa_cons pa pr hs, fun G O P ts env σ F H Q S hp => ?_⟩
  refine sa G O P ts env σ F H _ S ?_
  unfold aCons at hp
  cases q : fa env with
  | none => rw [q] at hp; exact hp
  | some o =>
    rw [q] at hp
    cases o with
    | err c env' => exact hp
    | ok p =>
      intro v F' H' S' r
      obtain ⟨F2, _, S2⟩ := S'.keep r
      refine sr G O P _ p.2 σ F2 H' _ S2 ?_
      change PostA X.K X.mg W G O P ts σ Q (M.bind (fr p.2) fun q => M.ok (fz p.1 :: q.1, q.2)) at hp
      cases q2 : fr p.2 with
      | none => rw [q2] at hp; exact hp
      | some o2 =>
        rw [q2] at hp
        cases o2 with
        | err c env' => exact hp
        | ok p2 =>
          intro vs F3 H3 hl S3
          exact hp (v :: vs) F3 H3 (by simp [hl]) (S3.sub fun z hz => by
            simp only [List.zip_cons_cons, List.cons_append, List.mem_cons, List.mem_append] at hz ⊢
            rcases hz with hz | hz | hz
            · exact .inr (.inl hz)
            · exact .inl hz
            · exact .inr (.inr hz))
end
end DL
set_option Elab.async false
set_option linter.all false
set_option maxRecDepth 100000
set_option maxHeartbeats 4000000
namespace DL
open PySem PySem.Spec PyProof.Rows L2

section
variable {K : PySem.W.Frag} {G O F F' H : Hp} {P : Nat → Option Addr} {ts : List (Sl × V)} {env : EnvD} {σ : L2.St} {s : Sl} {v : V} {d : PyData} {a : Addr} {o : Own}
mutual
theorem Rp.dp (e : Same F H) : ∀ (d : PyData) (v : V), d.canLay0 = true → Rp K F v d → Dp K H v d
  | .none, _, _, h => by cases h; exact .non
  | .bool b, _, _, h => by cases h; exact .bl b
  | .int i, _, _, h => by cases h; exact .int i
  | .str x, _, _, h => by cases h; exact .str x
  | .list ds, _, c, h => by
    cases h with
    | lst h1 h2 => exact .lst (.inl (same_rd e h1)) (RpL.dp e ds _ (by simpa [PyData.canLay0] using c) h2)
  | .tuple ds, _, c, h => by
    cases h with
    | tup h1 h2 => exact .tup (same_sqT e h1) (RpL.dp e ds _ (by simpa [PyData.canLay0] using c) h2)
  | .dict es, _, c, h => by simp [PyData.canLay0] at c
theorem RpL.dp (e : Same F H) : ∀ (ds : List PyData) (vs : List V), PyData.canLayAll0 ds = true → RpL K F vs ds → DpAll K H vs ds
  | [], _, _, h => by cases h; exact .nil
  | d :: ds, _, c, h => by
    have c2 : d.canLay0 = true ∧ PyData.canLayAll0 ds = true := by simpa [PyData.canLayAll0] using c
    cases h with
    | cons h1 h2 => exact .cons (Rp.dp e d _ c2.1 h1) (RpL.dp e ds _ c2.2 h2)
end
theorem Sh.dp (e : Same F H) (c : d.canLay0 = true) (h : Sh K F H v d) : Dp K H v d := by
  cases d with
  | list ds =>
    obtain ⟨a, xs, rfl, h1, h2⟩ := h
    exact .lst (.inl h1) (RpL.dp e ds _ (by simpa [PyData.canLay0] using c) h2)
  | dict es => simp [PyData.canLay0] at c
  | none => exact Rp.dp e _ _ c h
  | bool b => exact Rp.dp e _ _ c h
  | int i => exact Rp.dp e _ _ c h
  | str x => exact Rp.dp e _ _ c h
  | tuple ds => exact Rp.dp e _ _ c h
theorem Sh.tup {ds : List PyData} (e : Same F H) (h : Sh K F H v (.tuple ds)) : ∃ a xs, v = .ref a ∧ SqT K H a xs ∧ RpL K F xs ds := by
  cases h with
  | tup h1 h2 => exact ⟨_, _, rfl, same_sqT e h1, h2⟩
theorem Sh.seq {ds : List PyData} (e : Same F H) (h : Sh K F H v (.list ds) ∨ Sh K F H v (.tuple ds)) : ∃ a xs, v = .ref a ∧ (SqL K H a xs ∨ SqT K H a xs) ∧ RpL K F xs ds := by
  rcases h with h | h
  · obtain ⟨a, xs, rfl, h1, h2⟩ := h
    exact ⟨a, xs, rfl, .inl (.inl h1), h2⟩
  · obtain ⟨a, xs, rfl, h1, h2⟩ := h.tup e
    exact ⟨a, xs, rfl, .inr h1, h2⟩
end

/-! ### the operators by deep values -/
def bigL : Nat := 100000
theorem bigL_ok {n : Nat} (h : n ≤ bigL) : n ≤ sizeLine := by rw [sizeLine_eq]; unfold bigL at h; omega
theorem bigL_lt {n : Nat} (h : n ≤ bigL) : n < sizeLine := by rw [sizeLine_eq]; unfold bigL at h; omega
def vI (i : Int) : Option Sl := some (.val (.int i))
def vB (b : Bool) : Option Sl := some (.val (.bool b))
def addD (a b : PyData) : Option Sl :=
  match a, b with
  | .int i, .int j => vI (i + j)
  | .tuple xs, .tuple ys => if xs.length + ys.length ≤ bigL then some (.val (.tuple (xs ++ ys))) else none
  | .list xs, .list ys => if xs.length + ys.length ≤ bigL then some (.own (.lst (xs ++ ys))) else none
  | _, _ => none
def subD (a b : PyData) : Option Sl :=
  match a, b with
  | .int i, .int j => vI (i - j)
  | _, _ => none
def mulD (a b : PyData) : Option Sl :=
  match a, b with
  | .int i, .int j => if i.natAbs.log2 + j.natAbs.log2 < 1000000 then vI (i * j) else none
  | .list xs, .int k => if xs.length ≤ 1000 ∧ 0 ≤ k ∧ k ≤ 100 then some (.own (.lst (List.replicate k.toNat xs).flatten)) else none
  | .tuple xs, .int k => if xs.length ≤ 1000 ∧ xs ≠ [] ∧ 2 ≤ k ∧ k ≤ 100 then some (.val (.tuple (List.replicate k.toNat xs).flatten)) else none
  | _, _ => none
def divD (a b : PyData) : Option Sl :=
  match a, b with
  | .int i, .int j => if j ≠ 0 ∧ j.natAbs.log2 < 9000 then vI (i.fdiv j) else none
  | _, _ => none
def modD (a b : PyData) : Option Sl :=
  match a, b with
  | .int i, .int j => if j ≠ 0 then vI (i.fmod j) else none
  | _, _ => none
def powD (a b : PyData) : Option Sl :=
  match a, b with
  | .int i, .int j => if 0 ≤ j ∧ j ≤ 1000 ∧ i.natAbs < 2 ^ 64 then vI (i ^ j.toNat) else none
  | _, _ => none
def shlD (a b : PyData) : Option Sl :=
  match a, b with
  | .int i, .int j => if 0 ≤ j ∧ j ≤ 1000 ∧ i.natAbs < 2 ^ 64 then vI (i * 2 ^ j.toNat) else none
  | _, _ => none
def shrD (a b : PyData) : Option Sl :=
  match a, b with
  | .int i, .int j => if 0 ≤ j then vI (i / 2 ^ j.toNat) else none
  | _, _ => none
def andD (a b : PyData) : Option Sl :=
  match a, b with
  | .int i, .int j => vI (Builtin.bitAnd i j)
  | _, _ => none
def ordD (p : Int → Int → Bool) (a b : PyData) : Option Sl :=
  match a, b with
  | .int i, .int j => vB (p i j)
  | _, _ => none
abbrev ltD := ordD fun i j => decide (i < j)
abbrev leD := ordD fun i j => decide (i ≤ j)
abbrev gtD := ordD fun i j => decide (j < i)
abbrev geD := ordD fun i j => decide (j ≤ i)
def isStrD : PyData → Bool
  | .str _ => true
  | _ => false
def eqD (a b : PyData) : Option Sl := if (SeqAt.shaped a = true ∧ SeqAt.shaped b = true) ∨ (isStrD a = true ∧ isStrD b = true) then vB (PyData.eqv a b) else none
def neD (a b : PyData) : Option Sl := if (SeqAt.shaped a = true ∧ SeqAt.shaped b = true) ∨ (isStrD a = true ∧ isStrD b = true) then vB (!PyData.eqv a b) else none
def isNon : PyData → Bool
  | .none => true
  | _ => false
def isD (a b : PyData) : Option Sl := if isNon b = true then vB (isNon a) else none
def isntD (a b : PyData) : Option Sl := if isNon b = true then vB (!isNon a) else none
def seqOf : PyData → Option (List PyData)
  | .list ds => some ds
  | .tuple ds => some ds
  | _ => none
def inD (a b : PyData) : Option Sl :=
  match seqOf b with
  | some ds => if SeqAt.shaped a = true ∧ SeqAt.shaped (.list ds) = true then vB (ds.any fun z => PyData.eqv z a) else none
  | none => none
def ninD (a b : PyData) : Option Sl :=
  match seqOf b with
  | some ds => if SeqAt.shaped a = true ∧ SeqAt.shaped (.list ds) = true then vB (!ds.any fun z => PyData.eqv z a) else none
  | none => none
section
variable {X : Cx}
/-- an operator of two ints whose answer is an int or a bool -/
theorem opd_int {C : Int → Int → Prop} {g : Int → Int → V} {gd : PyData → PyData → Option Sl} (h : ∀ d1 d2 s, gd d1 d2 = some s → ∃ i j d, d1 = .int i ∧ d2 = .int j ∧ s = .val d ∧ C i j ∧ ∀ F, Rp X.K F (g i j) d) : OpD X (rI C g) gd := by
  intro G O P ts env σ F H x y d1 d2 s Q S h1 h2 e q
  obtain ⟨i, j, d, rfl, rfl, rfl, c, r⟩ := h d1 d2 s e
  cases h1
  cases h2
  exact ⟨i, j, rfl, rfl, c, q _ F H S (r F)⟩
theorem opd_int0 {g : Int → Int → V} {gd : PyData → PyData → Option Sl} (h : ∀ d1 d2 s, gd d1 d2 = some s → ∃ i j d, d1 = .int i ∧ d2 = .int j ∧ s = .val d ∧ ∀ F, Rp X.K F (g i j) d) : OpD X (rI0 g) gd := by
  intro G O P ts env σ F H x y d1 d2 s Q S h1 h2 e q
  obtain ⟨i, j, d, rfl, rfl, rfl, r⟩ := h d1 d2 s e
  cases h1
  cases h2
  exact ⟨i, j, rfl, rfl, q _ F H S (r F)⟩
theorem od_sub : OpD X (rI0 fun i j => .int (i - j)) subD := opd_int0 fun d1 d2 s e => by
  unfold subD at e
  split at e
  · cases e; exact ⟨_, _, _, rfl, rfl, rfl, fun _ => .int _⟩
  · cases e
theorem od_div : OpR X (binaryOp .FloorDiv) (rI (fun _ j => j ≠ 0 ∧ j.natAbs.log2 < 9000) fun i j => .int (i.fdiv j)) ∧ OpD X (rI (fun _ j => j ≠ 0 ∧ j.natAbs.log2 < 9000) fun i j => .int (i.fdiv j)) divD :=
  ⟨opI fun _ _ _ _ _ _ _ hc q => floordiv_int hc.1 q (.inl (PyProof.noPylong_of_log2 hc.2)), opd_int fun d1 d2 s e => by
    unfold divD at e
    split at e
    · split at e
      · cases e; exact ⟨_, _, _, rfl, rfl, rfl, by assumption, fun _ => .int _⟩
      · cases e
    · cases e⟩
theorem od_mod : OpD X (rI (fun _ j => j ≠ 0) fun i j => .int (i.fmod j)) modD := opd_int fun d1 d2 s e => by
  unfold modD at e
  split at e
  · split at e
    · cases e; exact ⟨_, _, _, rfl, rfl, rfl, by assumption, fun _ => .int _⟩
    · cases e
  · cases e
theorem od_pow : OpD X (rI CPow fun i j => .int (i ^ j.toNat)) powD := opd_int fun d1 d2 s e => by
  unfold powD at e
  split at e
  · split at e
    · rename_i h
      cases e; exact ⟨_, _, _, rfl, rfl, rfl, ⟨h.1, by omega, h.2.2⟩, fun _ => .int _⟩
    · cases e
  · cases e
theorem od_shl : OpD X (rI CPow fun i j => .int (i * 2 ^ j.toNat)) shlD := opd_int fun d1 d2 s e => by
  unfold shlD at e
  split at e
  · split at e
    · rename_i h
      cases e; exact ⟨_, _, _, rfl, rfl, rfl, ⟨h.1, by omega, h.2.2⟩, fun _ => .int _⟩
    · cases e
  · cases e
theorem od_shr : OpD X (rI (fun _ j => 0 ≤ j) fun i j => .int (i / 2 ^ j.toNat)) shrD := opd_int fun d1 d2 s e => by
  unfold shrD at e
  split at e
  · split at e
    · cases e; exact ⟨_, _, _, rfl, rfl, rfl, by assumption, fun _ => .int _⟩
    · cases e
  · cases e
theorem od_and : OpD X (rI0 fun i j => .int (Builtin.bitAnd i j)) andD := opd_int0 fun d1 d2 s e => by
  unfold andD at e
  split at e
  · cases e; exact ⟨_, _, _, rfl, rfl, rfl, fun _ => .int _⟩
  · cases e
theorem od_ord {p : Int → Int → Bool} : OpD X (rI0 fun i j => .bl (p i j)) (ordD p) := opd_int0 fun d1 d2 s e => by
  unfold ordD at e
  split at e
  · cases e; exact ⟨_, _, _, rfl, rfl, rfl, fun _ => .bl _⟩
  · cases e
/-- list + list, list * int, where one may be the law's script -/
def rCatR : R2 := fun x y H Q => ∃ l b xs zs, x = .ref l ∧ y = .ref b ∧ Rd H l (.lst xs) ∧ Rd H b (.lst zs) ∧ xs.length + zs.length ≤ sizeLine ∧ ∀ p, H p = none → Q (.ref p) (upd H p (.lst (xs ++ zs)))
theorem op_catR : OpR X (binaryOp .Add) rCatR := by
  intro pins s σ H x y v u Q I rx ry h
  obtain ⟨l, b, xs, zs, rfl, rfl, hH, hB, hz, q⟩ := h
  cases rx
  cases ry
  obtain ⟨_, its, n, r, e⟩ := hH.ok I.hok
  obtain ⟨_, its2, n2, r2, e2⟩ := hB.ok I.hok
  have hl := r.length
  have hl2 := r2.length
  refine PySem.P.add_list e e2 ?_ (by rw [List.size_toArray, List.size_toArray]; omega)
  rw [show its.toArray ++ its2.toArray = (its ++ its2).toArray from by simp]
  exact ⟨.ref _, _, I.lnew (t' := s.toks) (r.append r2) (by rw [List.length_append]; omega), rfl, q _ I.fresh⟩
def rRepR : R2 := fun x y H Q => ∃ l k xs, x = .ref l ∧ y = .int k ∧ Rd H l (.lst xs) ∧ -(2 ^ 63) ≤ k ∧ k < 2 ^ 63 ∧ xs.length * k.toNat ≤ sizeLine ∧
  ∀ p, H p = none → Q (.ref p) (upd H p (.lst (List.replicate k.toNat xs).flatten))
theorem op_repR : OpR X (binaryOp .Mult) rRepR := by
  intro pins s σ H x y v u Q I rx ry h
  obtain ⟨l, k, xs, rfl, rfl, hH, h1, h2, hz, q⟩ := h
  cases rx
  obtain ⟨t, rfl⟩ := ry
  obtain ⟨_, its, n, r, e⟩ := hH.ok I.hok
  have hl := r.length
  have hlen : its.toArray.size * k.toNat ≤ sizeLine := by rw [List.size_toArray, ← hl]; exact hz
  have hcap : ¬ its.toArray.size * k.toNat > (2 ^ 63 - 1) / 8 := by
    have : (sizeLine : Nat) ≤ (2 ^ 63 - 1) / 8 := by decide
    omega
  have hfit : ¬ (!Builtin.List.listFitsIndex k) = true := by rw [fitsIndex_both h1 h2]; decide
  have hlong : ¬ Builtin.List.listTooLong (its.toArray.size * k.toNat) = true := by rw [notLongL hlen]; decide
  have hnew : List.foldl (fun x1 x2 => x1 ++ x2) #[] (List.replicate (if its.toArray.isEmpty = true then 0 else k.toNat) its.toArray) = (List.replicate k.toNat its).flatten.toArray := by
    have f0 : ∀ m : Nat, List.foldl (fun x1 x2 => x1 ++ x2) #[] (List.replicate m its.toArray) = (List.replicate m its).flatten.toArray := fun m => by simpa using foldl_rep its m []
    rw [f0]
    cases its with
    | nil => simp
    | cons a r' => rw [if_neg (by simp)]
  refine wpAny_binaryOp_repeat_ref (T := "list") (U := "int") (by decide) ⟨_, e, rfl⟩ (fun s' => typeIs_int s' k t) noFill_list_mul F.fills_int_mul F.slot_int_rmul repeat_list F.slot_int_index.lookup
    (call_meets F.slot_int_rmul (typeIs_int s k t) F.entry_int_rmul (F.args_int_rmul_2 _ _) (int___rmul___int_list k t l its.toArray n)
      ⟨e, rfl, ⟨_, e, rfl⟩, call_meets F.slot_list_mul ⟨_, e, rfl⟩ F.entry_list_mul (F.args_list_mul_2 _ _) (AutoListH.list___mul___list_int_3 l its.toArray n k t hfit hcap hlong) ⟨e, ?_⟩⟩)
  rw [hnew]
  exact ⟨.ref _, _, I.lnew (t' := s.toks) (r.rep k.toNat) (by rw [PyProof.Rows.lm_len_rep_flat, Nat.mul_comm]; exact hz), rfl, q _ I.fresh⟩
def rAddA (K : PySem.W.Frag) : R2 := fun x y H Q => (rI0 fun i j => .int (i + j)) x y H Q ∨ rCatA K x y H Q ∨ rCatR x y H Q
theorem or_add : OpR X (binaryOp .Add) (rAddA X.K) := op_add.or (op_catA.or op_catR)
theorem od_add : OpD X (rAddA X.K) addD := by
  intro G O P ts env σ F H x y d1 d2 s Q S h1 h2 e q
  unfold addD at e
  split at e
  · cases e; cases h1; cases h2
    exact .inl ⟨_, _, rfl, rfl, q _ F H S (.int _)⟩
  · split at e
    · rename_i hl
      cases e
      obtain ⟨a, xs, rfl, q1, r1⟩ := Sh.tup S.fh h1
      obtain ⟨b, ys, rfl, q2, r2⟩ := Sh.tup S.fh h2
      have h1' := h1
      have h2' := h2
      refine .inr (.inl ⟨a, b, xs, ys, rfl, rfl, q1, q2, by rw [r1.length, r2.length]; exact bigL_ok hl, fun e => ?_, fun _ e => ?_, fun _ _ p np => ?_⟩)
      · subst e; cases r1
        exact q _ F H S h2'
      · subst e; cases r2
        rw [List.append_nil] at q
        exact q _ F H S h1'
      · obtain ⟨S2, R2⟩ := S.valT np (r1.app r2)
        exact q _ _ _ S2 R2
    · cases e
  · split at e
    · rename_i hl
      cases e
      obtain ⟨a, xs, rfl, q1, r1⟩ := h1
      obtain ⟨b, ys, rfl, q2, r2⟩ := h2
      refine .inr (.inr ⟨a, b, xs, ys, rfl, rfl, q1, q2, by rw [r1.length, r2.length]; exact bigL_ok hl, fun p np => ?_⟩)
      obtain ⟨S2, R2⟩ := S.ownL np (r1.app r2)
      exact q _ _ _ S2 R2
    · cases e
  · cases e
def rMulA (K : PySem.W.Frag) : R2 := fun x y H Q => (rI CMulW fun i j => .int (i * j)) x y H Q ∨ rRepT K x y H Q ∨ rRepR x y H Q
theorem or_mul : OpR X (binaryOp .Mult) (rMulA X.K) := op_mulW.or (op_repT.or op_repR)
theorem od_mul : OpD X (rMulA X.K) mulD := by
  intro G O P ts env σ F H x y d1 d2 s Q S h1 h2 e q
  unfold mulD at e
  split at e
  · split at e
    · rename_i hc
      cases e; cases h1; cases h2
      exact .inl ⟨_, _, rfl, rfl, hc, q _ F H S (.int _)⟩
    · cases e
  · split at e
    · rename_i hl
      cases e; cases h2
      obtain ⟨a, xs, rfl, q1, r1⟩ := h1
      refine .inr (.inr ⟨a, _, xs, rfl, rfl, q1, by omega, by omega, ?_, fun p np => ?_⟩)
      · rename_i k
        rw [r1.length, sizeLine_eq]
        have : k.toNat ≤ 100 := by omega
        exact Nat.le_trans (Nat.mul_le_mul hl.1 this) (by decide)
      · obtain ⟨S2, R2⟩ := S.ownL np (r1.reps _)
        exact q _ _ _ S2 R2
    · cases e
  · split at e
    · rename_i hl
      cases e; cases h2
      obtain ⟨a, xs, rfl, q1, r1⟩ := Sh.tup S.fh h1
      refine .inr (.inl ⟨a, _, xs, rfl, rfl, q1, fun z => ?_, hl.2.2.1, by omega, by rw [r1.length]; exact hl.1, fun p np => ?_⟩)
      · subst z; cases r1; exact hl.2.1 rfl
      · obtain ⟨S2, R2⟩ := S.valT np (r1.reps _)
        exact q _ _ _ S2 R2
    · cases e
  · cases e
def rEqG (K : PySem.W.Frag) : R2 := fun x y H Q => rEqD K x y H Q ∨ rEq x y H Q
def rNeG (K : PySem.W.Frag) : R2 := fun x y H Q => rNeD K x y H Q ∨ rNe x y H Q
theorem or_eq (hu : X.A.units + 64 < cLine) : OpR X (compareOp .Eq) (rEqG X.K) := (op_eqD hu).or op_eq
theorem or_ne (hu : X.A.units + 64 < cLine) : OpR X (compareOp .NotEq) (rNeG X.K) := (op_neD hu).or op_ne
theorem isStr_ok {K : PySem.W.Frag} {F H : Hp} {v : V} {d : PyData} (e : isStrD d = true) (h : Sh K F H v d) : ∃ x, d = .str x ∧ v = .str x := by
  cases d with
  | str x => cases h; exact ⟨x, rfl, rfl⟩
  | _ => cases e
theorem od_eq : OpD X (rEqG X.K) eqD := by
  intro G O P ts env σ F H x y d1 d2 s Q S h1 h2 e q
  unfold eqD at e
  split at e
  · rename_i hs
    cases e
    rcases hs with hs | hs
    · exact .inl ⟨d1, d2, Sh.dp S.fh (SeqAt.canLay_of_shaped hs.1) h1, Sh.dp S.fh (SeqAt.canLay_of_shaped hs.2) h2, hs.1, hs.2, q _ F H S (.bl _)⟩
    · obtain ⟨a, rfl, rfl⟩ := isStr_ok hs.1 h1
      obtain ⟨b, rfl, rfl⟩ := isStr_ok hs.2 h2
      refine .inr ⟨rfl, ?_⟩
      rw [dec_str]
      exact q _ F H S (.bl _)
  · cases e
theorem od_ne : OpD X (rNeG X.K) neD := by
  intro G O P ts env σ F H x y d1 d2 s Q S h1 h2 e q
  unfold neD at e
  split at e
  · rename_i hs
    cases e
    rcases hs with hs | hs
    · exact .inl ⟨d1, d2, Sh.dp S.fh (SeqAt.canLay_of_shaped hs.1) h1, Sh.dp S.fh (SeqAt.canLay_of_shaped hs.2) h2, hs.1, hs.2, q _ F H S (.bl _)⟩
    · obtain ⟨a, rfl, rfl⟩ := isStr_ok hs.1 h1
      obtain ⟨b, rfl, rfl⟩ := isStr_ok hs.2 h2
      refine .inr ⟨rfl, ?_⟩
      rw [dec_str]
      exact q _ F H S (.bl _)
  · cases e
theorem isNon_ok {K : PySem.W.Frag} {F H : Hp} {v : V} {d : PyData} (h : Sh K F H v d) : isNon d = decide (v = .non) := by
  cases d with
  | none => cases h; rfl
  | bool b => cases h; rfl
  | int b => cases h; rfl
  | str b => cases h; rfl
  | list b => obtain ⟨a, xs, rfl, _⟩ := h; rfl
  | tuple b => cases h; rfl
  | dict b => obtain ⟨a, xs, rfl, _⟩ := h; rfl
theorem isNon_v {K : PySem.W.Frag} {F H : Hp} {v : V} {d : PyData} (h : Sh K F H v d) (e : isNon d = true) : v = .non := by
  rw [isNon_ok h] at e
  exact of_decide_eq_true e
theorem od_is : OpD X (fun x y H Q => y = .non ∧ Q (.bl (decide (x = .non))) H) isD := by
  intro G O P ts env σ F H x y d1 d2 s Q S h1 h2 e q
  unfold isD at e
  split at e
  · cases e
    exact ⟨isNon_v h2 (by assumption), by rw [← isNon_ok h1]; exact q _ F H S (.bl _)⟩
  · cases e
theorem od_isnt : OpD X (fun x y H Q => y = .non ∧ Q (.bl (!decide (x = .non))) H) isntD := by
  intro G O P ts env σ F H x y d1 d2 s Q S h1 h2 e q
  unfold isntD at e
  split at e
  · cases e
    exact ⟨isNon_v h2 (by assumption), by rw [← isNon_ok h1]; exact q _ F H S (.bl _)⟩
  · cases e
def rInG (K : PySem.W.Frag) (neg : Bool) : R2 := fun x y H Q => ∃ d ds, Dp K H x d ∧ (Dp K H y (.list ds) ∨ Dp K H y (.tuple ds)) ∧ SeqAt.shaped d = true ∧ SeqAt.shaped (.list ds) = true ∧ Q (.bl (if neg then !ds.any fun z => PyData.eqv z d else ds.any fun z => PyData.eqv z d)) H
theorem shaped_items {ds : List PyData} (h : SeqAt.shaped (.list ds) = true) : PyData.canLayAll0 ds = true ∧ PyData.depthAll ds ≤ 64 := by
  have h1 := SeqAt.canLay_of_shaped h
  have h2 := SeqAt.depth_of_shaped h
  simp only [PyData.canLay0] at h1
  simp only [PyData.depth] at h2
  exact ⟨h1, by omega⟩
theorem or_in (hu : X.A.units + 128 < cLine) : OpR X (compareOp .In) (rInG X.K false) := by
  intro pins s σ H x y v u Q I rx ry h
  obtain ⟨d, ds, hd, he, sd, se, q⟩ := h
  obtain ⟨as, r1⟩ := Dp.reads I d x v hd rx
  have sh := shaped_items se
  have dd := SeqAt.depth_of_shaped sd
  have cc := SeqAt.canLay_of_shaped sd
  rcases he with he | he
  · obtain ⟨bs, r2⟩ := Dp.reads I _ y u he ry
    exact SeqAt.in_list_reads r2 r1 sh.1 cc (by omega) ⟨.bl _, H, I, rfl, q⟩
  · obtain ⟨bs, r2⟩ := Dp.reads I _ y u he ry
    exact SeqAt.in_tuple_reads r2 r1 sh.1 cc (by omega) ⟨.bl _, H, I, rfl, q⟩
theorem or_nin (hu : X.A.units + 128 < cLine) : OpR X (compareOp .NotIn) (rInG X.K true) := by
  intro pins s σ H x y v u Q I rx ry h
  obtain ⟨d, ds, hd, he, sd, se, q⟩ := h
  obtain ⟨as, r1⟩ := Dp.reads I d x v hd rx
  have sh := shaped_items se
  have dd := SeqAt.depth_of_shaped sd
  have cc := SeqAt.canLay_of_shaped sd
  rcases he with he | he
  · obtain ⟨bs, r2⟩ := Dp.reads I _ y u he ry
    exact SeqAt.notIn_list_reads r2 r1 sh.1 cc (by omega) ⟨.bl _, H, I, rfl, q⟩
  · obtain ⟨bs, r2⟩ := Dp.reads I _ y u he ry
    exact SeqAt.notIn_tuple_reads r2 r1 sh.1 cc (by omega) ⟨.bl _, H, I, rfl, q⟩
theorem seqOf_ok {K : PySem.W.Frag} {F H : Hp} {v : V} {d : PyData} {ds : List PyData} (h : seqOf d = some ds) (S : Sh K F H v d) : Sh K F H v (.list ds) ∨ Sh K F H v (.tuple ds) := by
  unfold seqOf at h
  split at h
  · cases h; exact .inl S
  · cases h; exact .inr S
  · cases h
theorem in_dp {K : PySem.W.Frag} {F H : Hp} {v : V} {ds : List PyData} (e : Same F H) (c : SeqAt.shaped (.list ds) = true) (h : Sh K F H v (.list ds) ∨ Sh K F H v (.tuple ds)) : Dp K H v (.list ds) ∨ Dp K H v (.tuple ds) := by
  have cc := SeqAt.canLay_of_shaped c
  rcases h with h | h
  · exact .inl (Sh.dp e cc h)
  · exact .inr (Sh.dp e (by simpa [PyData.canLay0] using cc) h)
theorem od_in : OpD X (rInG X.K false) inD := by
  intro G O P ts env σ F H x y d1 d2 s Q S h1 h2 e q
  unfold inD at e
  split at e
  · rename_i ds hq
    split at e
    · rename_i hs
      cases e
      exact ⟨d1, ds, Sh.dp S.fh (SeqAt.canLay_of_shaped hs.1) h1, in_dp S.fh hs.2 (seqOf_ok hq h2), hs.1, hs.2, q _ F H S (.bl _)⟩
    · cases e
  · cases e
theorem od_nin : OpD X (rInG X.K true) ninD := by
  intro G O P ts env σ F H x y d1 d2 s Q S h1 h2 e q
  unfold ninD at e
  split at e
  · rename_i ds hq
    split at e
    · rename_i hs
      cases e
      exact ⟨d1, ds, Sh.dp S.fh (SeqAt.canLay_of_shaped hs.1) h1, in_dp S.fh hs.2 (seqOf_ok hq h2), hs.1, hs.2, q _ F H S (.bl _)⟩
    · cases e
  · cases e
end
end DL
set_option Elab.async false
set_option linter.all false
set_option maxRecDepth 100000
set_option maxHeartbeats 4000000
namespace DL
open PySem PySem.Spec PyProof.Rows L2

/-! ### what is kept for good -/
def frz1 (s : Sl) (env : EnvD) : Option (PyData × EnvD) :=
  match s with
  | .val d => some (d, env)
  | .al i => match env[i]? with
    | some (some (.val d)) => some (d, env)
    | some (some (.own o)) => some (o.d, env.set i (some (.val o.d)))
    | _ => none
  | _ => none
def frzAll : List Sl → EnvD → Option (List PyData × EnvD)
  | [], env => some ([], env)
  | s :: ss, env => match frz1 s env with
    | some (d, env1) => match frzAll ss env1 with
      | some (ds, env2) => some (d :: ds, env2)
      | none => none
    | none => none
section
variable {K : PySem.W.Frag} {G O F F' H : Hp} {P : Nat → Option Addr} {ts : List (Sl × V)} {env env2 : EnvD} {σ : L2.St} {s : Sl} {v : V} {d : PyData} {a : Addr} {o : Own}
theorem upd_same_of {u : HO} (h : H a = some u) : Same (upd F a u) H ↔ (∀ b x, b ≠ a → F b = some x → H b = some x) := by
  constructor
  · intro s b x nb e
    exact s b x (by rw [upd_ne nb]; exact e)
  · intro s b x e
    by_cases hb : b = a
    · subst hb; rw [upd_same] at e; rw [h]; exact e
    · rw [upd_ne hb] at e; exact s b x hb e
/-- a slot's own list stays from now on -/
theorem SR.freeze {i : Nat} (h : SR K G O P ts env σ F H) (e : env[i]? = some (some (.own o))) (hv : σ[i]? = some (some v)) :
    ∃ F2, Same F F2 ∧ SR K G O P ts (env.set i (some (.val o.d))) σ F2 H ∧ Rp K F2 v o.d := by
  obtain ⟨u0, e1, e2⟩ := h.slot i _ e
  rw [hv] at e1
  cases e1
  obtain ⟨a, rfl, nF, nO, ow⟩ := e2
  obtain ⟨u, hu, su⟩ := ow.soft
  have sm : Same F (upd F a u) := same_new nF
  have rp := ow.rp hu nF
  refine ⟨upd F a u, sm, ⟨h.gf.trans sm, (upd_same_of hu).mpr fun b x _ q => h.fh b x q, h.oh, fun b x q => ?_, by rw [List.length_set]; exact h.len, fun j t q => ?_, fun p hp => ?_, fun j k t t' b q1 q2 w1 w2 r1 r2 => ?_, h.nt.new su.nt⟩, rp⟩
  · rw [upd_ne (ne_of_none q nO)]; exact h.dj b x q
  · rw [List.getElem?_set] at q
    split at q
    · rename_i hij
      subst hij
      split at q
      · cases q
        exact ⟨_, hv, rp⟩
      · cases q
    · rename_i hij
      obtain ⟨w, f1, f2⟩ := h.slot j t q
      refine ⟨w, f1, ?_⟩
      cases t with
      | val x => exact Rp.mono sm _ _ f2
      | own x =>
        obtain ⟨b, rfl, g1, g2, g3⟩ := f2
        have ne : b ≠ a := fun z => hij (h.sep i j _ _ a e q trivial trivial hv (by rw [f1, z]))
        exact ⟨b, rfl, by rw [upd_ne ne]; exact g1, g2, g3.mono sm rfl⟩
      | pen x =>
        obtain ⟨b, rfl, g0, g1, g2, g3⟩ := f2
        have ne : b ≠ a := fun z => hij (h.sep i j _ _ a e q trivial trivial hv (by rw [f1, z]))
        exact ⟨b, rfl, g0, by rw [upd_ne ne]; exact g1, g2, g3.mono sm rfl⟩
      | al k => exact f2
  · have z := h.tmp p hp
    obtain ⟨s0, v0⟩ := p
    cases s0 with
    | val x => exact Rp.mono sm _ _ z
    | own x => exact z
    | pen x => exact z
    | al k => exact z
  · rw [List.getElem?_set] at q1 q2
    split at q1
    · split at q1
      · cases q1; exact w1.elim
      · cases q1
    · split at q2
      · split at q2
        · cases q2; exact w2.elim
        · cases q2
      · exact h.sep j k t t' b q1 q2 w1 w2 r1 r2
theorem SR.frz1 (h : SR K G O P ts env σ F H) (t : TmpOk K F env σ s v) (e : frz1 s env = some (d, env2)) : ∃ F2, Same F F2 ∧ SR K G O P ts env2 σ F2 H ∧ Rp K F2 v d := by
  unfold DL.frz1 at e
  cases s with
  | val x => cases e; exact ⟨F, Same.refl _, h, t⟩
  | own o => cases e
  | pen o => cases e
  | al i =>
    have z1 : σ[i]? = some (some v) := t
    cases z2 : env[i]? with
    | none => simp only [z2] at e; cases e
    | some o2 =>
    cases o2 with
    | none => simp only [z2] at e; cases e
    | some s' =>
    simp only [z2] at e
    cases s' with
    | val x =>
      cases e
      obtain ⟨u, f1, f2⟩ := h.slot i _ z2
      rw [z1] at f1
      cases f1
      exact ⟨F, Same.refl _, h, f2⟩
    | own o => cases e; exact h.freeze z2 z1
    | pen o => cases e
    | al k => cases e
theorem SR.frzAll : ∀ {ss : List Sl} {vs : List V} {ds : List PyData} {env env2 : EnvD} {F : Hp}, SR K G O P ts env σ F H → (∀ p ∈ ss.zip vs, p ∈ ts) → ss.length = vs.length → frzAll ss env = some (ds, env2) → ∃ F2, Same F F2 ∧ SR K G O P ts env2 σ F2 H ∧ RpL K F2 vs ds
  | [], vs, ds, env, env2, F, h, m, hl, e => by
    cases vs with
    | nil => cases e; exact ⟨F, Same.refl _, h, .nil⟩
    | cons v vs => cases hl
  | s :: ss, vs, ds, env, env2, F, h, m, hl, e => by
    cases vs with
    | nil => cases hl
    | cons v vs =>
      unfold DL.frzAll at e
      cases q : DL.frz1 s env with
      | none => rw [q] at e; cases e
      | some p =>
        obtain ⟨d, env1⟩ := p
        rw [q] at e
        dsimp only at e
        obtain ⟨F1, m1, S1, r1⟩ := h.frz1 (h.tmp _ (m (s, v) (by simp))) q
        cases q2 : DL.frzAll ss env1 with
        | none => rw [q2] at e; cases e
        | some p =>
          obtain ⟨ds1, env3⟩ := p
          rw [q2] at e
          cases e
          obtain ⟨F2, m2, S2, r2⟩ := SR.frzAll (vs := vs) S1 (fun p hp => m p (by simp [hp])) (by simpa using hl) q2
          exact ⟨F2, m1.trans m2, S2, .cons (Rp.mono m2 _ _ r1) r2⟩
end

/-! ### forms -/
def fzA (f : FA) : EnvD → M (List PyData × EnvD) := fun env => M.bind (f env) fun p => match frzAll p.1 p.2 with
  | some q => M.ok q
  | none => none
def eTup (f : FA) : FE := fun env => M.bind (fzA f env) fun p => if p.1.length ≤ bigL then M.ok (.val (.tuple p.1), p.2) else none
def eLst (f : FA) : FE := fun env => M.bind (fzA f env) fun p => if p.1.length ≤ bigL then M.ok (.own (.lst p.1), p.2) else none
def ixD (a b : PyData) : Option Sl :=
  match seqOf a, b with
  | some ds, .int i => match atI ds i with
    | some d => some (.val d)
    | none => none
  | _, _ => none
def cutD (ds : List PyData) (lo hi : Option Int) : List PyData := (ds.drop (HT.sIx ds.length 0 lo)).take (HT.sIx ds.length ds.length hi - HT.sIx ds.length 0 lo)
def slD (lo hi : Option Int) (a : PyData) : Option Sl :=
  match a with
  | .list ds => some (.own (.lst (cutD ds lo hi)))
  | .tuple ds => some (.val (.tuple (cutD ds lo hi)))
  | _ => none
abbrev FO := EnvD → M (Option Int × EnvD)
def oNone : FO := fun env => M.ok (none, env)
def asI (s : Sl) : Option Int :=
  match s with
  | .val (.int i) => some i
  | _ => none
def oSome (f : FE) : FO := fun env => M.bind (f env) fun p => match asI p.1 with
  | some i => M.ok (some i, p.2)
  | none => none
def eSl (fa : FE) (fl fh : FO) : FE := fun env => M.bind (fa env) fun p => M.bind (fl p.2) fun q => M.bind (fh q.2) fun r => fin (g1 (slD q.1 r.1) (rd (fz p.1) r.2)) r.2
def PostO (K : PySem.W.Frag) (mg : Str → Option Value) (W : WX) (G O : Hp) (P : Nat → Option Addr) (ts : List (Sl × V)) (σ : L2.St) (Q : Option Int → Hp → Prop) : M (Option Int × EnvD) → Prop
  | none => False
  | some (.ok (b, env')) => ∀ F' H', SR K G O P ts env' σ F' H' → Q b H'
  | some (.err c env') => PErr K mg W G O P σ c env'
def SndO (K : PySem.W.Frag) (mg : Str → Option Value) (W : WX) (t : TO) (f : FO) : Prop :=
  ∀ G O P ts env σ F H Q, SR K G O P ts env σ F H → PostO K mg W G O P ts σ Q (f env) → t σ H Q
structure DO (X : Cx) (W : WX) (e : Option Expr) (f : FO) : Prop where
  ex : ∃ t, PO X e t ∧ SndO X.K X.mg W t f

section
variable {X : Cx} {W : WX} {e a b c : Expr} {es rest : List Expr} {f fa fb fc : FE} {pos : Pos}
theorem SndO.thn {K : PySem.W.Frag} {mg : Str → Option Value} {G O F H : Hp} {P : Nat → Option Addr} {ts t0 : List (Sl × V)} {env : EnvD} {σ : L2.St} {t : TO} {f : FO} (h : SndO K mg W t f) {R : Option Int → Hp → Prop} {k : Option Int → EnvD → M (Sl × EnvD)} {Q : VK} (S : SR K G O P ts env σ F H)
    (hp : PostE K mg W G O P t0 σ Q (M.bind (f env) fun p => k p.1 p.2))
    (hk : ∀ b env' F' H', SR K G O P ts env' σ F' H' → PostE K mg W G O P t0 σ Q (k b env') → R b H') : t σ H R := by
  refine h G O P ts env σ F H R S ?_
  cases e : f env with
  | none => rw [e] at hp; exact hp
  | some o =>
    rw [e] at hp
    cases o with
    | err c env' => exact hp
    | ok p =>
      intro F' H' S'
      exact hk _ _ F' H' S' hp
theorem do_none : DO X W none oNone := ⟨_, po_none, fun _ _ _ _ _ _ F H _ S hp => hp F H S⟩
theorem asI_ok {K : PySem.W.Frag} {F H O : Hp} {env : EnvD} {σ : L2.St} {s : Sl} {v : V} {i : Int} (h : asI s = some i) (r : RsOk K F H O env σ s v) : v = .int i := by
  unfold asI at h
  split at h
  · cases h
    cases r
    rfl
  · cases h
theorem do_some (h : DE X W e f) : DO X W (some e) (oSome f) := by
  obtain ⟨t, p, s⟩ := h.ex
  refine ⟨_, po_some p, fun G O P ts env σ F H Q S hp => ?_⟩
  refine s G O P ts env σ F H _ S ?_
  unfold oSome at hp
  cases q : f env with
  | none => rw [q] at hp; exact hp
  | some o =>
    rw [q] at hp
    cases o with
    | err c env' => exact hp
    | ok p =>
      intro v F' H' S' r
      change PostO X.K X.mg W G O P ts σ Q (match asI p.1 with | some i => M.ok (some i, p.2) | none => none) at hp
      cases z : asI p.1 with
      | none => rw [z] at hp; exact hp.elim
      | some i =>
        rw [z] at hp
        exact ⟨i, asI_ok z r, hp F' H' S'⟩
/-! ### displays -/
theorem fzA_ok {K : PySem.W.Frag} {mg : Str → Option Value} {G O F H : Hp} {P : Nat → Option Addr} {ts t0 : List (Sl × V)} {env : EnvD} {σ : L2.St} {t : TA} {fa : FA} (h : SndA K mg W t fa) {R : List V → Hp → Prop} {k : List PyData → EnvD → M (Sl × EnvD)} {Q : VK} (S : SR K G O P ts env σ F H)
    (hp : PostE K mg W G O P t0 σ Q (M.bind (fzA fa env) fun p => k p.1 p.2))
    (hk : ∀ ds env' vs F' H', SR K G O P ts env' σ F' H' → RpL K F' vs ds → PostE K mg W G O P t0 σ Q (k ds env') → R vs H') : t σ H R := by
  refine h G O P ts env σ F H R S ?_
  unfold fzA at hp
  cases q : fa env with
  | none => rw [q] at hp; exact hp
  | some o =>
    rw [q] at hp
    cases o with
    | err c env' => exact hp
    | ok p =>
      intro vs F' H' hl S'
      change PostE K mg W G O P t0 σ Q (M.bind (match frzAll p.1 p.2 with | some q => M.ok q | none => none) fun p => k p.1 p.2) at hp
      cases z : frzAll p.1 p.2 with
      | none => rw [z] at hp; exact hp.elim
      | some r =>
        rw [z] at hp
        obtain ⟨F2, _, S2, r2⟩ := SR.frzAll (vs := vs) S' (fun p hp => List.mem_append_left _ hp) hl z
        exact hk r.1 r.2 vs F2 H' (S2.sub fun p hp => List.mem_append_right _ hp) r2 hp
theorem de_tup {x1 : Nat} {fa : FA} (h : DA X W es fa) : DE X W (.Tuple es x1 pos) (eTup fa) := by
  obtain ⟨t, p, s⟩ := h.ex
  refine ⟨_, pe_tup p, fun G O P ts env σ F H Q S hp => ?_⟩
  refine fzA_ok (k := fun ds env => if ds.length ≤ bigL then M.ok (.val (.tuple ds), env) else none) s S hp fun ds env' vs F' H' S' r hp' => ?_
  split at hp'
  · refine ⟨by rw [r.length]; exact bigL_ok (by assumption), fun q nq => ?_⟩
    obtain ⟨S2, R2⟩ := S'.valT nq r
    exact hp' _ _ _ S2 R2
  · exact hp'.elim
theorem de_lst {fa : FA} (h : DA X W es fa) : DE X W (.List es pos) (eLst fa) := by
  obtain ⟨t, p, s⟩ := h.ex
  refine ⟨_, pe_lst p, fun G O P ts env σ F H Q S hp => ?_⟩
  refine fzA_ok (k := fun ds env => if ds.length ≤ bigL then M.ok (.own (.lst ds), env) else none) s S hp fun ds env' vs F' H' S' r hp' => ?_
  split at hp'
  · refine ⟨by rw [r.length]; exact bigL_ok (by assumption), fun q nq => ?_⟩
    obtain ⟨S2, R2⟩ := S'.ownL nq r
    exact hp' _ _ _ S2 R2
  · exact hp'.elim
/-! ### a[b], a[lo:hi] -/
def rIxLT (K : PySem.W.Frag) : R2 := fun x y H Q => rIxL K x y H Q ∨ rIxT K x y H Q
theorem atI_rp {K : PySem.W.Frag} {F : Hp} {xs : List V} {ds : List PyData} {i : Int} {d : PyData} (r : RpL K F xs ds) (h : atI ds i = some d) : ∃ v, atI xs i = some v ∧ Rp K F v d := by
  unfold atI at h ⊢
  rw [← r.length] at h
  cases q : ixN xs.length i with
  | none => rw [q] at h; cases h
  | some j =>
    rw [q] at h
    exact r.get (i := j) h
theorem od_ix : OpD X (rIxLT X.K) ixD := by
  intro G O P ts env σ F H x y d1 d2 s Q S h1 h2 e q
  unfold ixD at e
  split at e
  · rename_i ds i hq
    split at e
    · rename_i d hd
      cases e; cases h2
      rcases seqOf_ok hq h1 with h | h
      · obtain ⟨a, xs, rfl, z1, z2⟩ := h
        obtain ⟨v, e1, e2⟩ := atI_rp z2 hd
        exact .inl ⟨a, xs, i, v, rfl, rfl, .inl z1, e1, q v F H S e2⟩
      · obtain ⟨a, xs, rfl, z1, z2⟩ := Sh.tup S.fh h
        obtain ⟨v, e1, e2⟩ := atI_rp z2 hd
        exact .inr ⟨a, xs, i, v, rfl, rfl, z1, e1, q v F H S e2⟩
    · cases e
  · cases e
theorem de_ix (ha : DE X W a fa) (hb : DE X W b fb) (hs : PlainIx b := by exact fun _ _ => rfl) : DE X W (.Subscript a b pos) (e2 ixD fa fb) := by
  obtain ⟨ta, pa, sa⟩ := ha.ex
  obtain ⟨tb, pb, sb⟩ := hb.ex
  exact ⟨_, pe_ix (ix_list.or ix_tup) pa pb hs, snd_op (K := X.K) od_ix sa sb⟩
theorem cut_rp {K : PySem.W.Frag} {F : Hp} {xs : List V} {ds : List PyData} (r : RpL K F xs ds) (lo hi : Option Int) : RpL K F (cutV xs lo hi) (cutD ds lo hi) := by
  unfold cutV cutD
  rw [r.length]
  exact (r.drop _).take _
def rSlLT (K : PySem.W.Frag) : V → Option Int → Option Int → Hp → VK → Prop := fun x lo hi H Q => rSlL K x lo hi H Q ∨ rSlA K x lo hi H Q
theorem de_sl {lo hi : Option Expr} {fl fh : FO} {p2 : Pos} (ha : DE X W a fa) (hl : DO X W lo fl) (hh : DO X W hi fh) : DE X W (.Subscript a (.Slice lo hi none p2) pos) (eSl fa fl fh) := by
  obtain ⟨ta, pa, sa⟩ := ha.ex
  obtain ⟨tl, pl, sl⟩ := hl.ex
  obtain ⟨th, ph, sh⟩ := hh.ex
  refine ⟨_, pe_slice (r := rSlLT X.K) (sl_list.or sl_tupA) pa pl ph, fun G O P ts env σ F H Q S hp => ?_⟩
  refine sa.thn (k := fun s env' => M.bind (fl env') fun q => M.bind (fh q.2) fun r => fin (g1 (slD q.1 r.1) (rd s r.2)) r.2) S hp fun s env' v F' H' S' hp' => ?_
  refine sl.thn (k := fun l env' => M.bind (fh env') fun r => fin (g1 (slD l r.1) (rd s r.2)) r.2) S' hp' fun l env2 F2 H2 S2 hp2 => ?_
  refine sh.thn (k := fun u env' => fin (g1 (slD l u) (rd s env')) env') S2 hp2 fun u env3 F3 H3 S3 hp3 => ?_
  obtain ⟨z, e0, q⟩ := fin_ok hp3
  obtain ⟨d1, e1, e3⟩ := g1_ok e0
  have w := S3.sh (s := s) (v := v) (by simp) e1
  unfold slD at e3
  split at e3
  · cases e3
    obtain ⟨a, xs, rfl, w1, w2⟩ := w
    refine .inl ⟨a, xs, rfl, .inl w1, fun p np => ?_⟩
    obtain ⟨S4, R4⟩ := S3.pop.ownL np (cut_rp w2 l u)
    exact q _ _ _ S4 R4
  · cases e3
    have w' := w
    obtain ⟨a, xs, rfl, w1, w2⟩ := Sh.tup S3.fh w
    refine .inr ⟨a, xs, rfl, w1, fun ⟨z1, z2⟩ => ?_, fun _ p np => ?_⟩
    · have e : cutD _ l u = _ := show cutD _ l u = _ by
        unfold cutD
        rw [← w2.length, z1, z2, List.drop_zero, Nat.sub_zero, w2.length, List.take_length]
      rw [e] at q
      exact q _ F3 H3 S3.pop w'
    · obtain ⟨S4, R4⟩ := S3.pop.valT np (cut_rp w2 l u)
      exact q _ _ _ S4 R4
  · cases e3
end
end DL
set_option Elab.async false
set_option linter.all false
set_option maxRecDepth 100000
set_option maxHeartbeats 4000000
namespace DL
open PySem PySem.Spec PyProof.Rows L2

/-! ### one reading for each function -/
def tE (K : PySem.W.Frag) (mg : Str → Option Value) (W : WX) (f : FE) : TE := fun σ H Q => ∃ G O P ts env F, SR K G O P ts env σ F H ∧ PostE K mg W G O P ts σ Q (f env)
def tT (K : PySem.W.Frag) (mg : Str → Option Value) (W : WX) (f : FT) : TT := fun σ H Q => ∃ G O P ts env F, SR K G O P ts env σ F H ∧ PostT K mg W G O P ts σ Q (f env)
theorem snd_tE {K : PySem.W.Frag} {mg : Str → Option Value} {W : WX} {f : FE} : SndE K mg W (tE K mg W f) f := fun G O P ts env σ F H Q S hp => ⟨G, O, P, ts, env, F, S, hp⟩
theorem snd_tT {K : PySem.W.Frag} {mg : Str → Option Value} {W : WX} {f : FT} : SndT K mg W (tT K mg W f) f := fun G O P ts env σ F H Q S hp => ⟨G, O, P, ts, env, F, S, hp⟩
theorem DE.can {X : Cx} {W : WX} {e : Expr} {f : FE} (h : DE X W e f) : PE X e (tE X.K X.mg W f) := by
  obtain ⟨t, p, s⟩ := h.ex
  exact ⟨fun pins sh σ H Q I ⟨G, O, P, ts, env, F, S, hp⟩ => p.run pins sh σ H Q I (s G O P ts env σ F H Q S hp)⟩
theorem DT.can {X : Cx} {W : WX} {e : Expr} {f : FT} (h : DT X W e f) : PT X e (tT X.K X.mg W f) := by
  obtain ⟨t, p, s⟩ := h.ex
  exact ⟨fun pins sh σ H Q I ⟨G, O, P, ts, env, F, S, hp⟩ => p.run pins sh σ H Q I (s G O P ts env σ F H Q S hp)⟩

/-! ### built-in functions -/
def rdAll : List Sl → EnvD → Option (List PyData)
  | [], _ => some []
  | s :: ss, env => match rd s env with
    | some d => match rdAll ss env with
      | some ds => some (d :: ds)
      | none => none
    | none => none
inductive ShL (K : PySem.W.Frag) (F H : Hp) : List V → List PyData → Prop
  | nil : ShL K F H [] []
  | cons {v : V} {vs : List V} {d : PyData} {ds : List PyData} : Sh K F H v d → ShL K F H vs ds → ShL K F H (v :: vs) (d :: ds)
theorem SR.shL {K : PySem.W.Frag} {G O F H : Hp} {P : Nat → Option Addr} {ts : List (Sl × V)} {env : EnvD} {σ : L2.St} (h : SR K G O P ts env σ F H) :
    ∀ {ss : List Sl} {vs : List V} {ds : List PyData}, (∀ p ∈ ss.zip vs, p ∈ ts) → ss.length = vs.length → rdAll ss env = some ds → ShL K F H vs ds
  | [], vs, ds, m, hl, e => by
    cases vs with
    | nil => cases e; exact .nil
    | cons v vs => cases hl
  | s :: ss, vs, ds, m, hl, e => by
    cases vs with
    | nil => cases hl
    | cons v vs =>
      unfold rdAll at e
      cases q : rd s env with
      | none => rw [q] at e; cases e
      | some d =>
        rw [q] at e
        dsimp only at e
        cases q2 : rdAll ss env with
        | none => rw [q2] at e; cases e
        | some ds1 =>
          rw [q2] at e
          cases e
          exact .cons (h.sh (m (s, v) (by simp)) q) (h.shL (fun p hp => m p (by simp [hp])) (by simpa using hl) q2)
def gL (g : List PyData → Option Sl) (a : Option (List PyData)) : Option Sl :=
  match a with
  | some d => g d
  | none => none
def eCB (g : List PyData → Option Sl) (f : FA) : FE := fun env => M.bind (f env) fun p => fin (gL g (rdAll p.1 p.2)) p.2
def CallD (X : Cx) (r : List V → Hp → VK → Prop) (g : List PyData → Option Sl) : Prop := ∀ (G O : Hp) (P : Nat → Option Addr) (ts : List (Sl × V)) (env : EnvD) (σ : L2.St) (F H : Hp) (vs : List V) (ds : List PyData) (s : Sl) (Q : VK),
  SR X.K G O P ts env σ F H → ShL X.K F H vs ds → g ds = some s → (∀ v F' H', SR X.K G O P ts env σ F' H' → RsOk X.K F' H' O env σ s v → Q v H') → r vs H Q
def lenD (ds : List PyData) : Option Sl :=
  match ds with
  | [.list xs] => vI xs.length
  | [.tuple xs] => vI xs.length
  | _ => none
def absD (ds : List PyData) : Option Sl :=
  match ds with
  | [.int i] => vI (if i < 0 then -i else i)
  | _ => none
def maxD (ds : List PyData) : Option Sl :=
  match ds with
  | [.int i, .int j] => vI (if j > i then j else i)
  | _ => none
def minD (ds : List PyData) : Option Sl :=
  match ds with
  | [.int i, .int j] => vI (if j < i then j else i)
  | _ => none
def intD (ds : List PyData) : Option Sl :=
  match ds with
  | [.int i] => vI i
  | [.bool b] => vI (if b then 1 else 0)
  | _ => none
def listD (ds : List PyData) : Option Sl :=
  match ds with
  | [.list xs] => some (.own (.lst xs))
  | [.tuple xs] => some (.own (.lst xs))
  | _ => none
def tupleD (ds : List PyData) : Option Sl :=
  match ds with
  | [.list xs] => some (.val (.tuple xs))
  | [.tuple xs] => some (.val (.tuple xs))
  | _ => none
def asBool : PyData → Option Bool
  | .bool b => some b
  | _ => none
def boolsOf : List PyData → Option (List Bool)
  | [] => some []
  | d :: ds => match asBool d with
    | some b => match boolsOf ds with
      | some bs => some (b :: bs)
      | none => none
    | none => none
def allD (ds : List PyData) : Option Sl :=
  match ds with
  | [.list xs] => match boolsOf xs with
    | some bs => vB (bs.all id)
    | none => none
  | _ => none
def anyD (ds : List PyData) : Option Sl :=
  match ds with
  | [.list xs] => match boolsOf xs with
    | some bs => vB (bs.any id)
    | none => none
  | _ => none
theorem boolsOf_ok {K : PySem.W.Frag} {F : Hp} : ∀ {ds : List PyData} {xs : List V} {bs : List Bool}, RpL K F xs ds → boolsOf ds = some bs → xs = bs.map V.bl
  | [], xs, bs, r, e => by cases e; cases r; rfl
  | d :: ds, xs, bs, r, e => by
    unfold boolsOf at e
    cases q : asBool d with
    | none => rw [q] at e; cases e
    | some b =>
      rw [q] at e
      dsimp only at e
      cases q2 : boolsOf ds with
      | none => rw [q2] at e; cases e
      | some bs1 =>
        rw [q2] at e
        cases e
        cases r with
        | cons r1 r2 =>
          have := boolsOf_ok r2 q2
          subst this
          cases d with
          | bool b' => cases q; cases r1; rfl
          | none => cases q
          | int i => cases q
          | str i => cases q
          | list i => cases q
          | tuple i => cases q
          | dict i => cases q
section
variable {X : Cx} {W : WX} {e a b c : Expr} {es rest : List Expr} {f fa fb fc : FE} {pos : Pos} {x : Str} {p : Pos}
theorem snd_cb {K : PySem.W.Frag} {r : List V → Hp → VK → Prop} {g : List PyData → Option Sl} {t : TA} {fA : FA} (hg : CallD X r g) (h : SndA X.K X.mg W t fA) : SndE X.K X.mg W (tCB r t) (eCB g fA) := by
  intro G O P ts env σ F H Q S hp
  refine h.thn (k := fun ss env' => fin (gL g (rdAll ss env')) env') S hp fun ss env' vs F' H' hl S' hp' => ?_
  obtain ⟨z, e0, q⟩ := fin_ok hp'
  cases q2 : rdAll ss env' with
  | none => rw [q2] at e0; cases e0
  | some ds =>
    rw [q2] at e0
    exact hg G O P ts env' σ F' H' vs ds z Q (S'.sub fun p hp => List.mem_append_right _ hp) (S'.shL (fun p hp => List.mem_append_left _ hp) hl q2) e0 q
theorem de_cb {id : String} {r : List V → Hp → VK → Prop} {g : List PyData → Option Sl} {fA : FA} (hc : CallR X (.builtin id) r) (hD : CallD X r g) (hg : Gl X x) (hm : X.mg x = none) (hv : bootBuiltins x = some (.builtin id)) (ha : DA X W (e :: es) fA) (hn : x ≠ "__name__" := by decide) (hdb : (x == ("__debug__" : Str)) = false := by decide)
    (he : starEach (e :: es) X.env = (false, eval e X.env) :: starEach es X.env := by rfl) (hpl : (backTo pos (starEach es X.env)).any (·.1) = false := by rfl) : DE X W (.Call (.Name x p) (e :: es) [] pos) (eCB g fA) := by
  obtain ⟨t, pa, sa⟩ := ha.ex
  exact ⟨_, pe_callB hc hg hm hv pa hn hdb he hpl, snd_cb (K := X.K) hD sa⟩
theorem de_ct {T : String} {r : List V → Hp → VK → Prop} {g : List PyData → Option Sl} {fA : FA} (hc : CallR X (.type T) r) (hD : CallD X r g) (hg : Gl X x) (hm : X.mg x = none) (hv : bootBuiltins x = some (.type T)) (ha : DA X W (e :: es) fA) (hn : x ≠ "__name__" := by decide) (hdb : (x == ("__debug__" : Str)) = false := by decide)
    (he : starEach (e :: es) X.env = (false, eval e X.env) :: starEach es X.env := by rfl) (hpl : (backTo pos (starEach es X.env)).any (·.1) = false := by rfl) : DE X W (.Call (.Name x p) (e :: es) [] pos) (eCB g fA) := by
  obtain ⟨t, pa, sa⟩ := ha.ex
  exact ⟨_, pe_callTy hc hg hm hv pa hn hdb he hpl, snd_cb (K := X.K) hD sa⟩
theorem cd_len : CallD X (fun xs H Q => ∃ p ys, xs = [.ref p] ∧ (SqL X.K H p ys ∨ SqT X.K H p ys) ∧ Q (.int ys.length) H) lenD := by
  intro G O P ts env σ F H vs ds s Q S h e q
  unfold lenD at e
  split at e
  · cases e
    cases h with
    | cons h1 h2 =>
      cases h2
      obtain ⟨a, xs, rfl, z, r⟩ := Sh.seq S.fh (.inl h1)
      exact ⟨a, xs, rfl, z, by rw [r.length]; exact q _ F H S (.int _)⟩
  · cases e
    cases h with
    | cons h1 h2 =>
      cases h2
      obtain ⟨a, xs, rfl, z, r⟩ := Sh.seq S.fh (.inr h1)
      exact ⟨a, xs, rfl, z, by rw [r.length]; exact q _ F H S (.int _)⟩
  · cases e
theorem cd_abs : CallD X (fun xs H Q => ∃ i, xs = [.int i] ∧ Q (.int (if i < 0 then -i else i)) H) absD := by
  intro G O P ts env σ F H vs ds s Q S h e q
  unfold absD at e
  split at e
  · cases e
    cases h with
    | cons h1 h2 =>
      cases h2; cases h1
      exact ⟨_, rfl, q _ F H S (.int _)⟩
  · cases e
theorem cd_max : CallD X (fun xs H Q => ∃ i j, xs = [.int i, .int j] ∧ Q (.int (if j > i then j else i)) H) maxD := by
  intro G O P ts env σ F H vs ds s Q S h e q
  unfold maxD at e
  split at e
  · cases e
    cases h with
    | cons h1 h2 =>
      cases h2 with
      | cons h2 h3 =>
        cases h3; cases h1; cases h2
        exact ⟨_, _, rfl, q _ F H S (.int _)⟩
  · cases e
theorem cd_min : CallD X (fun xs H Q => ∃ i j, xs = [.int i, .int j] ∧ Q (.int (if j < i then j else i)) H) minD := by
  intro G O P ts env σ F H vs ds s Q S h e q
  unfold minD at e
  split at e
  · cases e
    cases h with
    | cons h1 h2 =>
      cases h2 with
      | cons h2 h3 =>
        cases h3; cases h1; cases h2
        exact ⟨_, _, rfl, q _ F H S (.int _)⟩
  · cases e
theorem cd_int : CallD X (fun xs H Q => (∃ i, xs = [.int i] ∧ Q (.int i) H) ∨ ∃ k, xs = [.bl k] ∧ Q (.int (if k then 1 else 0)) H) intD := by
  intro G O P ts env σ F H vs ds s Q S h e q
  unfold intD at e
  split at e
  · cases e
    cases h with
    | cons h1 h2 =>
      cases h2; cases h1
      exact .inl ⟨_, rfl, q _ F H S (.int _)⟩
  · cases e
    cases h with
    | cons h1 h2 =>
      cases h2; cases h1
      exact .inr ⟨_, rfl, q _ F H S (.int _)⟩
  · cases e
theorem cd_list : CallD X (fun xs H Q => ∃ p ys, xs = [.ref p] ∧ (SqL X.K H p ys ∨ SqT X.K H p ys) ∧ ∀ l, H l = none → Q (.ref l) (upd H l (.lst ys))) listD := by
  intro G O P ts env σ F H vs ds s Q S h e q
  have go : ∀ (v : V) (xs : List PyData), Sh X.K F H v (.list xs) ∨ Sh X.K F H v (.tuple xs) → s = .own (.lst xs) → ∃ p ys, [v] = [.ref p] ∧ (SqL X.K H p ys ∨ SqT X.K H p ys) ∧ ∀ l, H l = none → Q (.ref l) (upd H l (.lst ys)) := fun v xs z e => by
    subst e
    obtain ⟨a, ys, rfl, z, r⟩ := Sh.seq S.fh z
    refine ⟨a, ys, rfl, z, fun l nl => ?_⟩
    obtain ⟨S2, R2⟩ := S.ownL nl r
    exact q _ _ _ S2 R2
  unfold listD at e
  split at e
  · cases e
    cases h with
    | cons h1 h2 => cases h2; exact go _ _ (.inl h1) rfl
  · cases e
    cases h with
    | cons h1 h2 => cases h2; exact go _ _ (.inr h1) rfl
  · cases e
theorem cd_tuple : CallD X (fun xs H Q => ∃ p ys, xs = [.ref p] ∧ ((SqL X.K H p ys ∧ ∀ l, H l = none → Q (.ref l) (upd H l (.tup ys))) ∨ (SqT X.K H p ys ∧ Q (.ref p) H))) tupleD := by
  intro G O P ts env σ F H vs ds s Q S h e q
  unfold tupleD at e
  split at e
  · cases e
    cases h with
    | cons h1 h2 =>
      cases h2
      obtain ⟨a, ys, rfl, z, r⟩ := h1
      refine ⟨a, ys, rfl, .inl ⟨.inl z, fun l nl => ?_⟩⟩
      obtain ⟨S2, R2⟩ := S.valT nl r
      exact q _ _ _ S2 R2
  · cases e
    cases h with
    | cons h1 h2 =>
      cases h2
      have h1' := h1
      obtain ⟨a, ys, rfl, z, r⟩ := Sh.tup S.fh h1
      exact ⟨a, ys, rfl, .inr ⟨z, q _ F H S h1'⟩⟩
  · cases e
theorem cd_all : CallD X (rAll X.K) allD := by
  intro G O P ts env σ F H vs ds s Q S h e q
  unfold allD at e
  split at e
  · split at e
    · rename_i bs hb
      cases e
      cases h with
      | cons h1 h2 =>
        cases h2
        obtain ⟨a, ys, rfl, z, r⟩ := h1
        have := boolsOf_ok r hb
        subst this
        exact ⟨a, bs, rfl, .inl z, q _ F H S (.bl _)⟩
    · cases e
  · cases e
theorem cd_any : CallD X (rAny X.K) anyD := by
  intro G O P ts env σ F H vs ds s Q S h e q
  unfold anyD at e
  split at e
  · split at e
    · rename_i bs hb
      cases e
      cases h with
      | cons h1 h2 =>
        cases h2
        obtain ⟨a, ys, rfl, z, r⟩ := h1
        have := boolsOf_ok r hb
        subst this
        exact ⟨a, bs, rfl, .inl z, q _ F H S (.bl _)⟩
    · cases e
  · cases e
/-! ### isinstance with a built-in type -/
inductive BT where
  | int | bool | tuple | str | list
def BT.nm : BT → String
  | .int => "int" | .bool => "bool" | .tuple => "tuple" | .str => "str" | .list => "list"
def isiB (T : BT) (d : PyData) : Bool :=
  match T, d with
  | .int, .int _ => true
  | .int, .bool _ => true
  | .bool, .bool _ => true
  | .tuple, .tuple _ => true
  | .str, .str _ => true
  | .list, .list _ => true
  | _, _ => false
def isiD (T : BT) (d : PyData) : Option Sl := vB (isiB T d)
def tyN : PyData → String
  | .none => "NoneType" | .bool _ => "bool" | .int _ => "int" | .str _ => "str" | .list _ => "list" | .tuple _ => "tuple" | .dict _ => "dict"
theorem kit_bt (T : BT) (d : PyData) : kitB (tyN d) T.nm = some (isiB T d) := by
  cases T <;> cases d <;> simp only [tyN, BT.nm, isiB] <;> decide +kernel
theorem ty_of {K : PySem.W.Frag} {F H : Hp} {v : V} {d : PyData} (e : Same F H) (h : Sh K F H v d) : TyX K H v (.type (tyN d)) := by
  cases d with
  | none => cases h; exact .base .non
  | bool b => cases h; exact .base (.bl _)
  | int b => cases h; exact .base (.int _)
  | str b => cases h; exact .base (.str _)
  | list b =>
    obtain ⟨a, xs, rfl, h1 | ⟨o, h1⟩, _⟩ := h
    · exact .base (.lst h1)
    · exact .base (.frz h1)
  | tuple b =>
    obtain ⟨a, xs, rfl, (h1 | ⟨o, h1⟩) | ⟨o, its, n, h1, h2, _⟩, _⟩ := Sh.tup e h
    · exact .base (.tup h1)
    · exact .fTuple h1
    · exact .kTuple h1 h2
  | dict b => obtain ⟨a, xs, rfl, h1, _⟩ := h; exact .base (.dK h1)
theorem de_isi (T : BT) {n : Str} {pn : Pos} (hg : Gl X "isinstance") (hm : X.mg "isinstance" = none) (hg2 : Gl X n) (hm2 : X.mg n = none) (hv2 : bootBuiltins n = some (.type T.nm)) (ha : DE X W a fa) (hn2 : n ≠ "__name__" := by decide) (hdb2 : (n == ("__debug__" : Str)) = false := by decide)
    (he : starEach [a, .Name n pn] X.env = (false, eval a X.env) :: starEach [.Name n pn] X.env := by rfl) (he2 : starEach [.Name n pn] X.env = (false, eval (.Name n pn) X.env) :: starEach [] X.env := by rfl) (hpl : (backTo pos (starEach [.Name n pn] X.env)).any (·.1) = false := by rfl) :
    DE X W (.Call (.Name "isinstance" p) [a, .Name n pn] [] pos) (e1 (isiD T) fa) := by
  obtain ⟨ta, pa, sa⟩ := ha.ex
  refine ⟨_, pe_callB call_isi hg hm (by decide +kernel) (pa_cons pa (pa_cons (pe_bltn (v := .ty T.nm) hg2 hm2 hv2 rfl hn2 hdb2) pa_nil he2) he) (by decide) (by decide) he hpl, fun G O P ts env σ F H Q S hp => ?_⟩
  refine sa.thn (k := fun s env' => fin (g1 (isiD T) (rd s env')) env') S hp fun s env' v F' H' S' hp' => ?_
  obtain ⟨z, e0, q⟩ := fin_ok hp'
  obtain ⟨d1, e1, e3⟩ := g1_ok e0
  cases e3
  exact ⟨v, .ty T.nm, .type (tyN d1), .type T.nm, _, rfl, .ty _, ty_of S'.fh (S'.sh (by simp) e1), kit_ty (kit_bt T d1), q _ F' H' S'.pop (.bl _)⟩
end
end DL
set_option Elab.async false
set_option linter.all false
set_option maxRecDepth 100000
set_option maxHeartbeats 4000000
namespace DL
open PySem PySem.Spec PyProof.Rows L2

/-! ### changes of one's own -/
def reO (s : Sl) (o : Own) : Sl :=
  match s with
  | .pen _ => .pen o
  | _ => .own o
def ownOf (s : Sl) : Option Own :=
  match s with
  | .own o => some o
  | .pen o => some o
  | _ => none
/-- slot i's own, if it is one -/
def slotO (i : Nat) (env : EnvD) : Option (Sl × Own) :=
  match env[i]? with
  | some (some (.own o)) => some (.own o, o)
  | some (some (.pen o)) => some (.pen o, o)
  | _ => none
section
variable {K : PySem.W.Frag} {G O F F' H : Hp} {P : Nat → Option Addr} {ts : List (Sl × V)} {env env2 : EnvD} {σ : L2.St} {s : Sl} {v : V} {d : PyData} {a : Addr} {o o' : Own}
theorem slotO_ok {i : Nat} (h : slotO i env = some (s, o)) : env[i]? = some (some s) ∧ (s = .own o ∨ s = .pen o) := by
  unfold slotO at h
  split at h
  · cases h; exact ⟨by assumption, .inl rfl⟩
  · cases h; exact ⟨by assumption, .inr rfl⟩
  · cases h
theorem SR.slO {i : Nat} (h : SR K G O P ts env σ F H) (e : slotO i env = some (s, o)) : ∃ a, σ[i]? = some (some (.ref a)) ∧ F a = none ∧ O a = none ∧ OwnAt K F H a o ∧ s.owns := by
  obtain ⟨e1, e2⟩ := slotO_ok e
  obtain ⟨v, f1, f2⟩ := h.slot i s e1
  rcases e2 with rfl | rfl
  · obtain ⟨a, rfl, g1, g2, g3⟩ := f2
    exact ⟨a, f1, g1, g2, g3, trivial⟩
  · obtain ⟨a, rfl, _, g1, g2, g3⟩ := f2
    exact ⟨a, f1, g1, g2, g3, trivial⟩
theorem SR.reown {i : Nat} {u : HO} (h : SR K G O P ts env σ F H) (e : slotO i env = some (s, o)) (hv : σ[i]? = some (some (.ref a))) (hw : OwnAt K F (upd H a u) a o') :
    SR K G O P ts (env.set i (some (reO s o'))) σ F (upd H a u) := by
  obtain ⟨b, f1, f2, f3, f4, f5⟩ := h.slO e
  rw [hv] at f1
  cases f1
  obtain ⟨e1, e2⟩ := slotO_ok e
  have hlt : i < env.length := (List.getElem?_eq_some_iff.mp e1).1
  have ow : ∀ (j : Nat) (t : Sl), (env.set i (some (reO s o')))[j]? = some (some t) → t.owns → ∃ t', env[j]? = some (some t') ∧ t'.owns := fun j t q w => by
    by_cases hij : i = j
    · subst hij
      exact ⟨s, e1, f5⟩
    · rw [List.getElem?_set_ne hij] at q
      exact ⟨t, q, w⟩
  obtain ⟨u0, hu0, su0⟩ := f4.soft
  refine ⟨h.gf, fun b x q => ?_, h.oh.chg f3 hu0 su0, h.dj, by rw [List.length_set]; exact h.len, fun j t q => ?_, fun p hp => ?_, fun j k t t' b q1 q2 w1 w2 r1 r2 => ?_, h.nt⟩
  · rw [upd_ne (ne_of_none q f2)]; exact h.fh b x q
  · by_cases hij : i = j
    · subst hij
      rw [List.getElem?_set_self hlt] at q
      cases q
      refine ⟨_, hv, ?_⟩
      rcases e2 with rfl | rfl
      · exact ⟨a, rfl, f2, f3, hw⟩
      · obtain ⟨w, g1, g2⟩ := h.slot i _ e1
        rw [hv] at g1
        cases g1
        obtain ⟨c, z, z2, _⟩ := g2
        cases z
        exact ⟨a, rfl, z2, f2, f3, hw⟩
    · rw [List.getElem?_set_ne hij] at q
      obtain ⟨w, g1, g2⟩ := h.slot j t q
      refine ⟨w, g1, ?_⟩
      cases t with
      | val x => exact g2
      | own x =>
        obtain ⟨c, rfl, z1, z2, z3⟩ := g2
        have ne : c ≠ a := fun z => hij (h.sep i j _ _ a e1 q f5 trivial hv (by rw [g1, z]))
        exact ⟨c, rfl, z1, z2, z3.mono (Same.refl _) (upd_ne ne)⟩
      | pen x =>
        obtain ⟨c, rfl, z0, z1, z2, z3⟩ := g2
        have ne : c ≠ a := fun z => hij (h.sep i j _ _ a e1 q f5 trivial hv (by rw [g1, z]))
        exact ⟨c, rfl, z0, z1, z2, z3.mono (Same.refl _) (upd_ne ne)⟩
      | al k => exact g2
  · have z := h.tmp p hp
    obtain ⟨s0, v0⟩ := p
    cases s0 with
    | val x => exact z
    | own x => exact z
    | pen x => exact z
    | al k => exact z
  · obtain ⟨t1, g1, g2⟩ := ow j t q1 w1
    obtain ⟨t2, g3, g4⟩ := ow k t' q2 w2
    exact h.sep j k t1 t2 b g1 g3 g2 g4 r1 r2
/-- a result put into a slot -/
def putS (i : Nat) (s : Sl) (env : EnvD) : Option EnvD :=
  match s with
  | .al _ => none
  | .pen _ => none
  | s => match env[i]? with
    | some (some (.pen _)) => none
    | some _ => some (env.set i (some s))
    | none => none
theorem SR.put {i : Nat} (h : SR K G O P [] env σ F H) (r : RsOk K F H O env σ s v) (e : putS i s env = some env2) : SR K G O P [] env2 (σ.set i (some v)) F H := by
  have key : ∀ (hs : (∃ d, s = .val d) ∨ ∃ o, s = .own o), i < env.length → env2 = env.set i (some s) → (∀ o, env[i]? ≠ some (some (.pen o))) → SR K G O P [] env2 (σ.set i (some v)) F H := fun hs hlt he np => by
    subst he
    have hls : i < σ.length := by rw [← h.len]; exact hlt
    refine ⟨h.gf, h.fh, h.oh, h.dj, by rw [List.length_set, List.length_set]; exact h.len, fun j t q => ?_, fun p hp => absurd hp (by simp), fun j k t t' b q1 q2 w1 w2 r1 r2 => ?_, h.nt⟩
    · by_cases hij : i = j
      · subst hij
        rw [List.getElem?_set_self hlt] at q
        cases q
        refine ⟨v, List.getElem?_set_self hls, ?_⟩
        rcases hs with ⟨d, rfl⟩ | ⟨o, rfl⟩
        · exact r
        · obtain ⟨a, rfl, z1, z2, z3, _⟩ := r
          exact ⟨a, rfl, z1, z2, z3⟩
      · rw [List.getElem?_set_ne hij] at q
        obtain ⟨w, g1, g2⟩ := h.slot j t q
        exact ⟨w, by rw [List.getElem?_set_ne hij]; exact g1, g2⟩
    · have side : ∀ (k : Nat) (t' : Sl), i ≠ k → (env.set i (some s))[k]? = some (some t') → t'.owns → (σ.set i (some v))[k]? = some (some (.ref b)) → (env.set i (some s))[i]? = some (some s) → s.owns → (σ.set i (some v))[i]? = some (some (.ref b)) → False := fun k t' hik q w rr q0 w0 r0 => by
        rw [List.getElem?_set_ne hik] at q rr
        rw [List.getElem?_set_self hls] at r0
        cases r0
        rcases hs with ⟨d, rfl⟩ | ⟨o, rfl⟩
        · exact w0
        · obtain ⟨a, z, _, _, _, ns⟩ := r
          cases z
          exact ns k t' q w rr
      by_cases hij : i = j
      · by_cases hik : i = k
        · omega
        · subst hij
          have q1' := q1
          rw [List.getElem?_set_self hlt] at q1'
          cases q1'
          exact (side k t' hik q2 w2 r2 q1 w1 r1).elim
      · by_cases hik : i = k
        · subst hik
          have q2' := q2
          rw [List.getElem?_set_self hlt] at q2'
          cases q2'
          exact (side j t hij q1 w1 r1 q2 w2 r2).elim
        · rw [List.getElem?_set_ne hij] at q1 r1
          rw [List.getElem?_set_ne hik] at q2 r2
          exact h.sep j k t t' b q1 q2 w1 w2 r1 r2
  have fin : ∀ (hs : (∃ d, s = .val d) ∨ ∃ o, s = .own o), (match env[i]? with | some (some (.pen _)) => none | some _ => some (env.set i (some s)) | none => none) = some env2 → SR K G O P [] env2 (σ.set i (some v)) F H := fun hs e => by
    cases q : env[i]? with
    | none => rw [q] at e; cases e
    | some o =>
      have hlt := (List.getElem?_eq_some_iff.mp q).1
      rw [q] at e
      cases o with
      | none => cases e; exact key hs hlt rfl fun o z => by rw [q] at z; cases z
      | some t =>
        cases t with
        | pen o => cases e
        | val o => cases e; exact key hs hlt rfl fun o z => by rw [q] at z; cases z
        | own o => cases e; exact key hs hlt rfl fun o z => by rw [q] at z; cases z
        | al o => cases e; exact key hs hlt rfl fun o z => by rw [q] at z; cases z
  unfold putS at e
  cases s with
  | val d => exact fin (.inl ⟨d, rfl⟩) e
  | own o => exact fin (.inr ⟨o, rfl⟩) e
  | pen o => cases e
  | al j => cases e
end

/-! ### x.append(e) -/
def lstO (i : Nat) (env : EnvD) : Option (Sl × List PyData) :=
  match slotO i env with
  | some (s, .lst ds) => some (s, ds)
  | _ => none
theorem lstO_ok {i : Nat} {env : EnvD} {s : Sl} {ds : List PyData} (h : lstO i env = some (s, ds)) : slotO i env = some (s, .lst ds) := by
  unfold lstO at h
  split at h
  · cases h; assumption
  · cases h
def eApp (i : Nat) (fa : FE) : FE := fun env =>
  match lstO i env with
  | some _ => M.bind (fa env) fun p => match frz1 (fz p.1) p.2 with
    | some q => match lstO i q.2 with
      | some r => if r.2.length < bigL then M.ok (.val .none, q.2.set i (some (reO r.1 (.lst (r.2 ++ [q.1]))))) else none
      | none => none
    | none => none
  | none => none
section
variable {X : Cx} {W : WX} {e a b c : Expr} {es rest : List Expr} {f fa fb fc : FE} {pos apos cpos : Pos} {x : Str} {p : Pos}
theorem de_app (i : Nat) {px : Pos} (ha : DE X W e fa) (hN : X.N[i]? = some x := by rfl) (hv : Vis X.env.scope x := by first | exact Or.inl rfl | exact Or.inr (Or.inl rfl) | exact Or.inr (Or.inr rfl)) (hd : (x == ("__debug__" : Str)) = false := by decide)
    (hcd : (x == ("__classdict__" : Str)) = false := by decide) (he : starEach [e] X.env = (false, eval e X.env) :: starEach [] X.env := by rfl) (hbase : attributeBase (.Name x px) "append" X.env (eval (.Name x px) X.env) = eval (.Name x px) X.env := by rfl)
    (hfew : ((backTo cpos (starEach [e] X.env)).all (fun x => !x.1) && (backToKw cpos (keywordEach [] X.env)).all (fun x => x.1.isSome) && decide (([e] : List Expr).length + ([] : List Keyword).length + (if ([] : List Keyword).isEmpty then 0 else 1) < 30)) = true := by rfl)
    (hline : (apos.endLine == cpos.line) = true := by rfl) (hpl : (backTo cpos (starEach [] X.env)).any (·.1) = false := by rfl) :
    DE X W (.Call (.Attribute (.Name x px) "append" apos) [e] [] cpos) (eApp i fa) := by
  refine ⟨_, pe_bm PySem.F.plainAttrs_list PySem.F.slot_list_append PySem.F.type_list_append mt_append (pe_var hN hv hd hcd) (pa_cons ha.can pa_nil he) hbase hfew hline he hpl, fun G O P ts env σ F H Q S hp => ?_⟩
  unfold eApp at hp
  cases q0 : lstO i env with
  | none => rw [q0] at hp; exact hp.elim
  | some r0 =>
    rw [q0] at hp
    obtain ⟨s0, ds0⟩ := r0
    obtain ⟨a0, f1, f2, f3, ⟨xs0, f4, _⟩, _⟩ := S.slO (lstO_ok q0)
    refine ⟨_, f1, .inl ⟨rfl, xs0, .inl (.inl f4)⟩, ?_⟩
    refine (snd_tE (K := X.K) (mg := X.mg) (W := W) (f := fa)).thn (k := fun s env' => match frz1 s env' with
      | some q => match lstO i q.2 with
        | some r => if r.2.length < bigL then M.ok (.val .none, q.2.set i (some (reO r.1 (.lst (r.2 ++ [q.1]))))) else none
        | none => none
      | none => none) S hp fun s env' v F' H' S' hp' => ?_
    cases q1 : frz1 s env' with
    | none => rw [q1] at hp'; exact hp'.elim
    | some q =>
      rw [q1] at hp'
      obtain ⟨d, env2⟩ := q
      dsimp only at hp'
      obtain ⟨F2, m2, S2, rd⟩ := S'.frz1 (S'.tmp (s, v) (by simp)) q1
      cases q2 : lstO i env2 with
      | none => rw [q2] at hp'; exact hp'.elim
      | some r =>
        rw [q2] at hp'
        obtain ⟨s3, ds⟩ := r
        dsimp only at hp'
        obtain ⟨a, g1, g2, g3, ⟨xs, g4, g5⟩, _⟩ := S2.slO (lstO_ok q2)
        rw [f1] at g1
        cases g1
        split at hp'
        · rename_i hl
          refine ⟨a0, xs, v, rfl, rfl, g4, by rw [g5.length]; exact bigL_lt (Nat.le_of_lt hl), ?_⟩
          exact hp' _ F2 _ (S2.pop.reown (u := .lst (xs ++ [v])) (lstO_ok q2) f1 ⟨_, upd_same, g5.app (.cons rd .nil)⟩) .non
        · exact hp'.elim
end
end DL
set_option Elab.async false
set_option linter.all false
set_option maxRecDepth 100000
set_option maxHeartbeats 4000000
namespace DL
open PySem PySem.Spec PyProof.Rows L2

/-! ### a def as a function of its arguments -/
abbrev MF := List Sl → M (Sl × EnvD)
def argOk : Sl → Prop
  | .val _ => True
  | .pen _ => True
  | _ => False
def WD (E : XK) : WX := fun c d _ H => E c d H
/-- the promise: it is m -/
def spD (K : PySem.W.Frag) (mg : Str → Option Value) (m : MF) : Sp := fun vs H Q E => ∃ (args : List Sl) (P : Nat → Option Addr) (F O : Hp), (∀ s ∈ args, argOk s) ∧
  SR K F O P [] (args.map some) (vs.map some) F H ∧ PostE K mg (WD E) F O P [] (vs.map some) Q (m args)
theorem spD_len {K : PySem.W.Frag} {mg : Str → Option Value} {n : Nat} {m : MF} {vs : List V} {H : Hp} {Q : VK} {E : XK} (hm : ∀ args, args.length ≠ n → m args = none) (h : spD K mg m vs H Q E) : vs.length = n := by
  obtain ⟨args, P, F, O, _, h2, hp⟩ := h
  have := h2.len
  simp only [List.length_map] at this
  by_cases q : args.length = n
  · omega
  · rw [hm args q] at hp
    exact hp.elim

/-! ### defs where no guard of a repr stands -/
structure RG (g : Bool) (k : Nat) (A : Around) : Prop where
  rm : Room k A
  gd : g = true → A.guards = some []
theorem RG.mono {g : Bool} {j k : Nat} {A : Around} (r : RG g k A) (h : j ≤ k) : RG g j A := ⟨r.rm.mono h, r.gd⟩
theorem RG.deeper {g : Bool} {k : Nat} {A : Around} (r : RG g (k + 1) A) (env : Env) : RG g k (A.deeper env) := ⟨r.rm.deeper env, r.gd⟩
theorem RG.le {g g' : Bool} {k : Nat} {A : Around} (r : RG g k A) (h : (!g' || g) = true) : RG g' k A := ⟨r.rm, fun e => r.gd (by subst e; simpa using h)⟩
theorem rg_of {k : Nat} {A : Around} (r : Room k A) : RG false k A := ⟨r, fun e => by cases e⟩
/-- what a def promises there -/
structure FnG (g : Bool) (P : Program) (w : World) (K : PySem.W.Frag) (mg : Str → Option Value) (base : Heap) (CX : CXT) (k : Nat) (f : Addr) (fd : FuncData) (ps : List Str) (sp : Sp) : Prop where
  len : ∀ vs H Q E, sp vs H Q E → vs.length = ps.length
  run : ∀ (A : Around) (outer : List Env) (s : Shared) (H : Hp) (args : Args) (us : List Value) (vs : List V) (Q : VK) (E : XK), RG g k A → Env0 P w K mg base A outer s H → BindsTo s fd args (ps.zip us) → Vals vs us → sp vs H Q E →
    codeAny (model P w) A (.call (.ref f) args) (CR CX outer P w H s Q E) s
section
variable {gd : Bool} {X : Cx} {CX : CXT} {k : Nat} {f : Addr} {fd : FuncData} {ps : List Str} {sp : Sp} {dvs : List V} {ds : List Value} {E : L2.St → XK} {x : Str} {p pos : Pos} {e : Expr} {es : List Expr} {t : TA}
theorem run_fnG {pins : List (Addr × Obj)} {σ : L2.St} {H : Hp} {s : Shared} {Q : VK} {us : List Value} {vs : List V} (F : FnG gd X.prog X.w X.K X.mg X.base CX k f fd ps sp) (hr : RG gd k X.A) (hb : Binds X.K fd ps ds) (hd : Vals dvs ds) (hx : PassesAt CX X σ (E σ))
    (I : Inv X pins σ H s) (r : Vals vs us) (h : sp (vs ++ dvs) H Q (E σ)) : wpAny (model X.prog X.w) X.A (call (.ref f) us) (EP X pins σ Q) X.xe s := by
  have hl : (us ++ ds).length = ps.length := by rw [← (r.append hd).length]; exact F.len _ _ _ _ h
  have z := F.run X.A X.stack s H ⟨us, []⟩ (us ++ ds) (vs ++ dvs) Q (E σ) hr I.env0 (hb s us I.kIn hl) (r.append hd) h
  refine wpAny_call (codeAny_mono z fun r s' hq => ?_)
  match r, hq with
  | .error e, hq => exact hx pins H s e s' I hq
  | .ok (.ret u), hq => exact I.after hq
  | .ok .next, hq => exact False.elim hq
  | .ok .brk, hq => exact False.elim hq
  | .ok .cont, hq => exact False.elim hq
theorem pe_callG (F : FnG gd X.prog X.w X.K X.mg X.base CX k f fd ps sp) (hr : RG gd k X.A) (hg : Gl X x) (hm : X.mg x = some (.ref f)) (hk : PySem.W.keepIn X.K (.ref f) = true) (hb : Binds X.K fd ps ds) (hd : Vals dvs ds) (hx : ∀ σ, PassesAt CX X σ (E σ))
    (ha : PA X (e :: es) t) (hdb : (x == ("__debug__" : Str)) = false := by decide) (he : starEach (e :: es) X.env = (false, eval e X.env) :: starEach es X.env := by rfl) (hpl : (backTo pos (starEach es X.env)).any (·.1) = false := by rfl) :
    PE X (.Call (.Name x p) (e :: es) [] pos) (tCallSD sp dvs E t) := by
  refine ⟨fun pins s σ H Q I h => wpAny_Call_Name_kw (ld_glob I hg hm ?_ hdb)⟩
  exact PySem.W.callWith_K (h₀ := X.base) I.ok.mod.kin hk (thn (ha.run pos pins s σ H _ I h) fun us s1 ⟨vs, H1, I1, r, q⟩ => ⟨I1.kIn, run_fnG F hr hb hd (hx σ) I1 r q⟩) he hpl
end

/-! ### a call -/
/-- what others own, for a callee: O and all that is one's own but ex -/
noncomputable def ownO (env : EnvD) (σ : L2.St) (O H : Hp) (ex : Addr → Prop) : Hp := fun b => by
  classical
  exact if (∃ (i : Nat) (s : Sl), env[i]? = some (some s) ∧ s.owns ∧ σ[i]? = some (some (.ref b))) ∧ ¬ ex b then H b else O b
section
variable {K : PySem.W.Frag} {G O F F' H H' : Hp} {P P' : Nat → Option Addr} {ts : List (Sl × V)} {env env2 : EnvD} {σ : L2.St} {s : Sl} {v : V} {d : PyData} {a : Addr} {o o' : Own} {ex : Addr → Prop}
theorem SR.owned {b : Addr} (h : SR K G O P ts env σ F H) {i : Nat} {s : Sl} (e : env[i]? = some (some s)) (w : s.owns) (r : σ[i]? = some (some (.ref b))) : F b = none ∧ O b = none ∧ ∃ u, H b = some u := by
  obtain ⟨v, f1, f2⟩ := h.slot i s e
  rw [r] at f1
  cases f1
  cases s with
  | val d => exact w.elim
  | own o =>
    obtain ⟨a, z, g1, g2, g3⟩ := f2
    cases z
    exact ⟨g1, g2, g3.there⟩
  | pen o =>
    obtain ⟨a, z, _, g1, g2, g3⟩ := f2
    cases z
    exact ⟨g1, g2, g3.there⟩
  | al j => exact w.elim
theorem SR.ownedS {b : Addr} (h : SR K G O P ts env σ F H) {i : Nat} {s : Sl} (e : env[i]? = some (some s)) (w : s.owns) (r : σ[i]? = some (some (.ref b))) : ∃ u, H b = some u ∧ Soft u := by
  obtain ⟨v, f1, f2⟩ := h.slot i s e
  rw [r] at f1
  cases f1
  cases s with
  | val d => exact w.elim
  | own o =>
    obtain ⟨a, z, g1, g2, g3⟩ := f2
    cases z
    exact g3.soft
  | pen o =>
    obtain ⟨a, z, _, g1, g2, g3⟩ := f2
    cases z
    exact g3.soft
  | al j => exact w.elim
theorem ownO_H (h : SR K G O P ts env σ F H) : SameO K (ownO env σ O H ex) H := by
  refine ⟨fun b x q => ?_, fun b ps q => ?_, h.oh.tb⟩
  · unfold ownO at q
    split at q
    · exact q
    · exact h.oh.val b x q
  · unfold ownO at q
    split at q
    · rename_i z
      obtain ⟨⟨i, s, e, w, r⟩, _⟩ := z
      obtain ⟨u, z1, z2⟩ := h.ownedS e w r
      rw [q] at z1
      exact absurd (Option.some.inj z1).symm (z2.nt ps)
    · exact h.oh.nt b ps q
theorem ownO_F (h : SR K G O P ts env σ F H) : ∀ b x, ownO env σ O H ex b = some x → F b = none := fun b x q => by
  unfold ownO at q
  split at q
  · rename_i z
    obtain ⟨⟨i, s, e, w, r⟩, _⟩ := z
    exact (h.owned e w r).1
  · exact h.dj b x q
theorem ownO_O (h : SR K G O P ts env σ F H) : Same O (ownO env σ O H ex) := fun b x q => by
  unfold ownO
  split
  · rename_i z
    obtain ⟨⟨i, s, e, w, r⟩, _⟩ := z
    rw [(h.owned e w r).2.1] at q
    cases q
  · exact q
theorem ownO_at (h : SR K G O P ts env σ F H) {i : Nat} {s : Sl} {b : Addr} (e : env[i]? = some (some s)) (w : s.owns) (r : σ[i]? = some (some (.ref b))) (n : ¬ ex b) : ownO env σ O H ex b = H b := by
  unfold ownO
  rw [if_pos ⟨⟨i, s, e, w, r⟩, n⟩]
/-- behind a call that leaves all of one's own but ex -/
theorem SR.back (h : SR K G O P ts env σ F H) (gf : Same F F') (fh : Same F' H') (oh : SameO K (ownO env σ O H ex) H') (dj : ∀ a o, ownO env σ O H ex a = some o → F' a = none)
    (hx : ∀ (i : Nat) (s : Sl) (b : Addr), env[i]? = some (some s) → s.owns → σ[i]? = some (some (.ref b)) → ¬ ex b) (nt : NoT F') : SR K G O P ts env σ F' H' := by
  refine ⟨h.gf.trans gf, fh, oh.sub (ownO_O h), fun b x q => dj b x (ownO_O h b x q), h.len, fun j t q => ?_, fun p hp => (h.tmp p hp).mono gf, h.sep, nt⟩
  obtain ⟨w, f1, f2⟩ := h.slot j t q
  refine ⟨w, f1, ?_⟩
  have key : ∀ (b : Addr) (o : Own), t.owns → σ[j]? = some (some (.ref b)) → OwnAt K F H b o → F' b = none ∧ OwnAt K F' H' b o := fun b o w1 w2 w3 => by
    have e0 := ownO_at (ex := ex) h q w1 w2 (hx j t b q w1 w2)
    obtain ⟨u, z3⟩ := w3.there
    rw [z3] at e0
    obtain ⟨u', y1, y2⟩ := w3.soft
    rw [z3] at y1
    cases y1
    exact ⟨dj b u e0, w3.mono gf (by rw [oh.val b u e0, z3])⟩
  cases t with
  | val d => exact Rp.mono gf _ _ f2
  | own o =>
    obtain ⟨b, rfl, z1, z2, z3⟩ := f2
    obtain ⟨k1, k2⟩ := key b o trivial f1 z3
    exact ⟨b, rfl, k1, z2, k2⟩
  | pen o =>
    obtain ⟨b, rfl, z0, z1, z2, z3⟩ := f2
    obtain ⟨k1, k2⟩ := key b o trivial f1 z3
    exact ⟨b, rfl, z0, k1, z2, k2⟩
  | al k => exact f2
/-- a slot forgotten -/
theorem SR.forget (h : SR K G O P ts env σ F H) (i : Nat) : SR K G O P ts (env.set i none) σ F H := by
  have back : ∀ (j : Nat) (t : Sl), (env.set i none)[j]? = some (some t) → j ≠ i ∧ env[j]? = some (some t) := fun j t q => by
    by_cases hij : i = j
    · subst hij
      by_cases hl : i < env.length
      · rw [List.getElem?_set_self hl] at q; cases q
      · rw [List.getElem?_eq_none (by simpa using hl)] at q; cases q
    · rw [List.getElem?_set_ne hij] at q
      exact ⟨fun z => hij z.symm, q⟩
  exact ⟨h.gf, h.fh, h.oh, h.dj, by rw [List.length_set]; exact h.len, fun j t q => h.slot j t (back j t q).2, fun p hp => h.tmp p hp, fun j k t t' b q1 q2 => h.sep j k t t' b (back j t q1).2 (back k t' q2).2, h.nt⟩
/-- a slot's own told again, as it is now -/
theorem SR.retell {i : Nat} (h0 : SR K G O P ts env σ F H) (h : SR K G O P ts (env.set i none) σ F' H') (e : slotO i env = some (s, o)) (hv : σ[i]? = some (some (.ref a))) (nF : F' a = none) (nO : O a = none) (hw : OwnAt K F' H' a o') :
    SR K G O P ts (env.set i (some (reO s o'))) σ F' H' := by
  obtain ⟨e1, e2⟩ := slotO_ok e
  have hlt : i < env.length := (List.getElem?_eq_some_iff.mp e1).1
  have sw : s.owns := by rcases e2 with rfl | rfl <;> trivial
  have ow : ∀ (j : Nat) (t : Sl), (env.set i (some (reO s o')))[j]? = some (some t) → t.owns → ∃ t', env[j]? = some (some t') ∧ t'.owns := fun j t q w => by
    by_cases hij : i = j
    · subst hij
      exact ⟨s, e1, sw⟩
    · rw [List.getElem?_set_ne hij] at q
      exact ⟨t, q, w⟩
  refine ⟨h.gf, h.fh, h.oh, h.dj, by rw [List.length_set]; exact h0.len, fun j t q => ?_, fun p hp => h.tmp p hp, fun j k t t' b q1 q2 w1 w2 r1 r2 => ?_, h.nt⟩
  · by_cases hij : i = j
    · subst hij
      rw [List.getElem?_set_self hlt] at q
      cases q
      refine ⟨_, hv, ?_⟩
      rcases e2 with rfl | rfl
      · exact ⟨a, rfl, nF, nO, hw⟩
      · obtain ⟨w, g1, g2⟩ := h0.slot i _ e1
        rw [hv] at g1
        cases g1
        obtain ⟨c, z, z2, _⟩ := g2
        cases z
        exact ⟨a, rfl, z2, nF, nO, hw⟩
    · rw [List.getElem?_set_ne hij] at q
      exact h.slot j t (by rw [List.getElem?_set_ne hij]; exact q)
  · obtain ⟨t1, g1, g2⟩ := ow j t q1 w1
    obtain ⟨t2, g3, g4⟩ := ow k t' q2 w2
    exact h0.sep j k t1 t2 b g1 g3 g2 g4 r1 r2
end

/-! ### forms -/
def resV (s : Sl) : Option Sl :=
  match s with
  | .val d => some (.val d)
  | .own o => some (.own o)
  | _ => none
def callR1 (m : M (Sl × EnvD)) (env : EnvD) : M (Sl × EnvD) :=
  match m with
  | none => none
  | some (.err c _) => some (.err c env)
  | some (.ok p) => fin (resV p.1) env
/-- f(a, ..): nothing is got to change -/
def callV (m : MF) (dds : List PyData) (f : FA) : FE := fun env => M.bind (fzA f env) fun p => callR1 (m ((p.1 ++ dds).map .val)) p.2
def updPen (i : Nat) (s : Sl) (outs : EnvD) (env : EnvD) : EnvD :=
  match outs with
  | some (.pen o) :: _ => env.set i (some (reO s o))
  | _ => env.set i none
def callR2 (m : M (Sl × EnvD)) (i : Nat) (s : Sl) (env : EnvD) : M (Sl × EnvD) :=
  match m with
  | none => none
  | some (.err c outs) => some (.err c (updPen i s outs env))
  | some (.ok p) => fin (resV p.1) (updPen i s p.2 env)
/-- f(x, a, ..): x's list is got to change -/
def penA (ss : List Sl) (env : EnvD) : Option (Nat × List PyData × EnvD) :=
  match ss with
  | .al i :: rest => match frzAll rest env with
    | some (ds, env2) => some (i, ds, env2)
    | none => none
  | _ => none
def callP (m : MF) (f : FA) : FE := fun env => M.bind (f env) fun p => match penA p.1 p.2 with
  | some (i, ds, env2) => match slotO i env2 with
    | some (s, o) => callR2 (m (.pen o :: ds.map .val)) i s env2
    | none => none
  | none => none

section
variable {X : Cx} {W : WX} {e : Expr} {es : List Expr} {pos : Pos} {x : Str} {p : Pos} {k : Nat} {fA : FA}
/-- the wish of a callee -/
theorem we_wd {W : WX} {σ : L2.St} {σ' : L2.St} {c : Value} {d : Option Addr} {H : Hp} (h : W c d σ H) : WD (WE W σ) c d σ' H := h
theorem vals_sr {K : PySem.W.Frag} {F O H : Hp} : ∀ {vs : List V} {ds : List PyData}, Same F H → SameO K O H → NoT F → (∀ a o, O a = some o → F a = none) → RpL K F vs ds → SR K F O (fun _ => none) [] ((ds.map Sl.val).map some) (vs.map some) F H := fun {vs ds} fh oh nt dj r => by
  refine ⟨Same.refl _, fh, oh, dj, by simp [r.length], fun i s q => ?_, fun p hp => absurd hp (by simp), fun i j s t a q1 q2 w1 w2 r1 r2 => ?_, nt⟩
  · rw [List.getElem?_map, List.getElem?_map] at q
    cases z : ds[i]? with
    | none => rw [z] at q; cases q
    | some d =>
      rw [z] at q
      cases q
      obtain ⟨v, e1, e2⟩ := r.get z
      exact ⟨v, by rw [List.getElem?_map, e1]; rfl, e2⟩
  · rw [List.getElem?_map, List.getElem?_map] at q1
    cases z : ds[i]? with
    | none => rw [z] at q1; cases q1
    | some d => rw [z] at q1; cases q1; exact w1.elim
theorem rs_back {K : PySem.W.Frag} {G O F F' H H' : Hp} {P : Nat → Option Addr} {ts : List (Sl × V)} {env outs : EnvD} {σ σ' : L2.St} {s z : Sl} {v : V} {ex : Addr → Prop} (S : SR K G O P ts env σ F H) (oh : SameO K (ownO env σ O H ex) H') (r : RsOk K F' H' (ownO env σ O H ex) outs σ' s v) (e : resV s = some z)
    (hx : ∀ (i : Nat) (t : Sl) (b : Addr), env[i]? = some (some t) → t.owns → σ[i]? = some (some (.ref b)) → ex b → v ≠ .ref b ∨ ∃ d, s = .val d) : RsOk K F' H' O env σ z v := by
  cases s with
  | val d => cases e; exact r
  | pen o => cases e
  | al j => cases e
  | own o =>
    cases e
    obtain ⟨a, rfl, z1, z2, z3, _⟩ := r
    refine ⟨a, rfl, z1, ?_, z3, fun i t q w rr => ?_⟩
    · cases q : O a with
      | none => rfl
      | some u =>
        rw [ownO_O S a u q] at z2
        cases z2
    · by_cases hex : ex a
      · rcases hx i t a q w rr hex with y | ⟨d, y⟩
        · exact y rfl
        · cases y
      · rw [ownO_at S q w rr hex] at z2
        obtain ⟨_, _, u, hu⟩ := S.owned q w rr
        rw [hu] at z2
        cases z2
theorem de_call {gd : Bool} {f : Addr} {fd : FuncData} {ps : List Str} {m : MF} {dvs : List V} {dus : List Value} {dds : List PyData} (Fn : FnG gd X.prog X.w X.K X.mg X.base (L2.CX X.prog X.w) k f fd ps (spD X.K X.mg m)) (hr : RG gd k X.A) (hg : Gl X x) (hm : X.mg x = some (.ref f)) (hk : PySem.W.keepIn X.K (.ref f) = true) (hb : Binds X.K fd ps dus) (hd : Vals dvs dus)
    (hdd : ∀ F, RpL X.K F dvs dds) (tk : Takes X W) (ha : DA X W (e :: es) fA) (hdb : (x == ("__debug__" : Str)) = false := by decide) (he : starEach (e :: es) X.env = (false, eval e X.env) :: starEach es X.env := by rfl) (hpl : (backTo pos (starEach es X.env)).any (·.1) = false := by rfl) :
    DE X W (.Call (.Name x p) (e :: es) [] pos) (callV m dds fA) := by
  obtain ⟨t, pa, sa⟩ := ha.ex
  refine ⟨_, pe_callG Fn hr hg hm hk hb hd (fun σ => passAt tk σ) pa hdb he hpl, fun G O P ts env σ F H Q S hp => ?_⟩
  refine fzA_ok (k := fun ds env' => callR1 (m ((ds ++ dds).map .val)) env') sa S hp fun ds env' vs F' H' S' r hp' => ?_
  refine ⟨(ds ++ dds).map .val, fun _ => none, F', ownO env' σ O H' (fun _ => False), fun s hs => ?_, ?_, ?_⟩
  · obtain ⟨d, _, rfl⟩ := List.mem_map.mp hs
    trivial
  · have z := vals_sr (O := ownO env' σ O H' (fun _ => False)) S'.fh (ownO_H S') S'.nt (ownO_F S') (r.app (hdd F'))
    exact z
  · cases q : m ((ds ++ dds).map .val) with
    | none => rw [q] at hp'; exact hp'.elim
    | some o =>
      rw [q] at hp'
      cases o with
      | err c outs =>
        intro C F2 H2 hc S2
        exact hp' C F2 H2 hc ((S'.sub (ts' := []) (fun p hp => absurd hp (by simp))).back S2.gf S2.fh S2.oh S2.dj (fun _ _ _ _ _ _ z => z) S2.nt)
      | ok pr =>
        intro v F2 H2 S2 r2
        obtain ⟨z, e0, q2⟩ := fin_ok hp'
        exact q2 v F2 H2 (S'.back S2.gf S2.fh S2.oh S2.dj (fun _ _ _ _ _ _ z => z) S2.nt) (rs_back S' S2.oh r2 e0 fun _ _ _ _ _ _ z => z.elim)
theorem de_callP {gd : Bool} {f : Addr} {fd : FuncData} {ps : List Str} {m : MF} (Fn : FnG gd X.prog X.w X.K X.mg X.base (L2.CX X.prog X.w) k f fd ps (spD X.K X.mg m)) (hr : RG gd k X.A) (hg : Gl X x) (hm : X.mg x = some (.ref f)) (hk : PySem.W.keepIn X.K (.ref f) = true) (hb : Binds X.K fd ps [])
    (tk : Takes X W) (ha : DA X W (e :: es) fA) (hdb : (x == ("__debug__" : Str)) = false := by decide) (he : starEach (e :: es) X.env = (false, eval e X.env) :: starEach es X.env := by rfl) (hpl : (backTo pos (starEach es X.env)).any (·.1) = false := by rfl) :
    DE X W (.Call (.Name x p) (e :: es) [] pos) (callP m fA) := by
  obtain ⟨t, pa, sa⟩ := ha.ex
  refine ⟨_, pe_callG Fn hr hg hm hk hb .nil (fun σ => passAt tk σ) pa hdb he hpl, fun G O P ts env σ F H Q S hp => ?_⟩
  refine sa.thn (k := fun ss env' => match penA ss env' with
    | some (i, ds, env2) => match slotO i env2 with
      | some (s, o) => callR2 (m (.pen o :: ds.map .val)) i s env2
      | none => none
    | none => none) S hp fun ss env' vs F' H' hl S' hp' => ?_
  cases q : penA ss env' with
  | none => rw [q] at hp'; exact hp'.elim
  | some t3 =>
    rw [q] at hp'
    obtain ⟨i, ds, env2⟩ := t3
    dsimp only at hp'
    unfold penA at q
    split at q
    · rename_i i0 rest
      cases vs with
      | nil => cases hl
      | cons v0 vs =>
        cases q1 : frzAll rest env' with
        | none => rw [q1] at q; cases q
        | some pr =>
          obtain ⟨ds1, env3⟩ := pr
          rw [q1] at q
          cases q
          have hv0 : σ[i]? = some (some v0) := S'.tmp (.al i, v0) (by simp)
          obtain ⟨F2, m2, S2, r2⟩ := SR.frzAll (vs := vs) S' (fun p hp => by simp [hp]) (by simpa using hl) q1
          have S3 : SR X.K G O P ts env2 σ F2 H' := S2.sub fun p hp => List.mem_append_right _ hp
          cases q2 : slotO i env2 with
          | none => rw [q2] at hp'; exact hp'.elim
          | some so =>
            obtain ⟨s, o⟩ := so
            rw [q2] at hp'
            dsimp only at hp'
            obtain ⟨a, f1, f2, f3, f4, f5⟩ := S3.slO q2
            obtain ⟨g1, g2⟩ := slotO_ok q2
            rw [hv0] at f1
            cases f1
            have hex : ∀ (j : Nat) (t : Sl) (b : Addr), (env2.set i none)[j]? = some (some t) → t.owns → σ[j]? = some (some (.ref b)) → ¬ (b = a) := fun j t b z1 z2 z3 z4 => by
              subst z4
              by_cases hij : i = j
              · subst hij
                have hlt := (List.getElem?_eq_some_iff.mp g1).1
                rw [List.getElem?_set_self hlt] at z1
                cases z1
              · rw [List.getElem?_set_ne hij] at z1
                exact hij (S3.sep i j s t b g1 z1 f5 z2 hv0 z3)
            have Sf := S3.forget i
            have oa : ownO (env2.set i none) σ O H' (fun b => b = a) a = O a := by
              unfold ownO
              rw [if_neg fun z => z.2 rfl]
            have Sc : SR X.K F2 (ownO (env2.set i none) σ O H' (fun b => b = a)) (fun j => if j = 0 then some a else none) [] ((Sl.pen o :: ds.map .val).map some) ((V.ref a :: vs).map some) F2 H' := by
              have Sv := vals_sr (O := ownO (env2.set i none) σ O H' (fun b => b = a)) S3.fh (ownO_H Sf) Sf.nt (ownO_F Sf) r2
              refine ⟨Sv.gf, Sv.fh, Sv.oh, Sv.dj, by simpa using Sv.len, fun j t z => ?_, fun p hp => absurd hp (by simp), fun j k t t' b z1 z2 w1 w2 y1 y2 => ?_, Sv.nt⟩
              · cases j with
                | zero =>
                  simp at z
                  subst z
                  exact ⟨.ref a, rfl, a, rfl, rfl, f2, by rw [oa]; exact f3, f4⟩
                | succ j =>
                  obtain ⟨w, u1, u2⟩ := Sv.slot j t (by simpa using z)
                  refine ⟨w, by simpa using u1, ?_⟩
                  cases t with
                  | val d => exact u2
                  | own o' => exact u2
                  | pen o' =>
                    obtain ⟨_, _, y, _⟩ := u2
                    cases y
                  | al l => exact u2
              · have only0 : ∀ (j : Nat) (t : Sl), ((Sl.pen o :: ds.map Sl.val).map some)[j]? = some (some t) → t.owns → j = 0 := fun j t z w => by
                  cases j with
                  | zero => rfl
                  | succ j =>
                    simp at z
                    obtain ⟨d, _, rfl⟩ := z
                    exact w.elim
                rw [only0 j t z1 w1, only0 k t' z2 w2]
            have penBack : ∀ {outs : EnvD} {F4 H4 : Hp}, SR X.K F2 (ownO (env2.set i none) σ O H' (fun b => b = a)) (fun j => if j = 0 then some a else none) [] outs ((V.ref a :: vs).map some) F4 H4 → ∀ {ts' : List (Sl × V)}, SR X.K G O P ts' env2 σ F2 H' → SR X.K G O P ts' (updPen i s outs env2) σ F4 H4 := fun {outs F4 H4} S4 ts' S0 => by
              have Sb : SR X.K G O P ts' (env2.set i none) σ F4 H4 := (S0.forget i).back S4.gf S4.fh S4.oh S4.dj hex S4.nt
              unfold updPen
              split
              · rename_i o2 tl
                obtain ⟨w, u1, u2⟩ := S4.slot 0 (.pen o2) rfl
                cases u1
                obtain ⟨b, e1, e2, e3, e4, e5⟩ := u2
                cases e1
                exact S0.retell Sb q2 hv0 e3 f3 e5
              · exact Sb
            refine ⟨.pen o :: ds.map .val, fun j => if j = 0 then some a else none, F2, ownO (env2.set i none) σ O H' (fun b => b = a), fun s hs => ?_, ?_, ?_⟩
            · rcases List.mem_cons.mp hs with rfl | hs
              · trivial
              · obtain ⟨d, _, rfl⟩ := List.mem_map.mp hs
                trivial
            · rw [List.append_nil]; exact Sc
            · rw [List.append_nil]
              cases q3 : m (.pen o :: ds.map .val) with
              | none => rw [q3] at hp'; exact hp'.elim
              | some ot =>
                rw [q3] at hp'
                cases ot with
                | err c outs =>
                  intro C F4 H4 hc S4
                  exact hp' C F4 H4 hc (penBack S4 (S3.sub (ts' := []) (fun p hp => absurd hp (by simp))))
                | ok pr =>
                  intro v F4 H4 S4 r4
                  obtain ⟨z, e0, q4⟩ := fin_ok hp'
                  refine q4 v F4 H4 (penBack S4 S3) ?_
                  have rb : RsOk X.K F4 H4 O (env2.set i none) σ z v := rs_back Sf S4.oh r4 e0 fun j t b y1 y2 y3 y4 => absurd y4 (hex j t b y1 y2 y3)
                  obtain ⟨rs, outs⟩ := pr
                  dsimp only at r4 e0 ⊢
                  cases z with
                  | val d => exact rb
                  | pen d => exact rb
                  | al d =>
                    cases rs <;> cases e0
                  | own o5 =>
                    obtain ⟨b, rfl, y2, y3, y4, y5⟩ := rb
                    refine ⟨b, rfl, y2, y3, y4, fun j t u1 u2 u3 => ?_⟩
                    unfold updPen at u1
                    split at u1
                    · rename_i o6 tl
                      by_cases hij : i = j
                      · subst hij
                        rw [hv0] at u3
                        cases u3
                        cases rs with
                        | val d => cases e0
                        | pen d => cases e0
                        | al d => cases e0
                        | own o7 =>
                          obtain ⟨b2, w1, _, _, _, w5⟩ := r4
                          cases w1
                          exact w5 0 (.pen o6) rfl trivial rfl
                      · rw [List.getElem?_set_ne hij] at u1
                        exact y5 j t (by rw [List.getElem?_set_ne hij]; exact u1) u2 u3
                    · exact y5 j t u1 u2 u3
    · cases q
end
end DL
set_option Elab.async false
set_option linter.all false
set_option maxRecDepth 100000
set_option maxHeartbeats 4000000
namespace DL
open PySem PySem.Spec PyProof.Rows L2

/-! ### statements -/
inductive Flo where
  | nx (env : EnvD) | rt (s : Sl) (env : EnvD)
abbrev FS := EnvD → M Flo
abbrev GT := PyData → EnvD → Option EnvD
abbrev GTs := List PyData → EnvD → Option EnvD
def PostS (K : PySem.W.Frag) (mg : Str → Option Value) (W : WX) (G O : Hp) (P : Nat → Option Addr) (D : Ends) : M Flo → Prop
  | none => False
  | some (.ok (.nx env')) => ∀ σ' F' H', SR K G O P [] env' σ' F' H' → D.nx σ' H'
  | some (.ok (.rt s env')) => ∀ v σ' F' H', SR K G O P [] env' σ' F' H' → RsOk K F' H' O env' σ' s v → D.rt v H'
  | some (.err c env') => ∀ C σ' F' H', mg c = some (.ref C) → SR K G O P [] env' σ' F' H' → W (.ref C) none σ' H'
def SndS (K : PySem.W.Frag) (mg : Str → Option Value) (W : WX) (t : TS) (f : FS) : Prop :=
  ∀ G O P env σ F H D, SR K G O P [] env σ F H → PostS K mg W G O P D (f env) → t D σ H
def Only (tgs : List Nat) (σ σ' : L2.St) : Prop := σ'.length = σ.length ∧ ∀ i, i ∉ tgs → σ'[i]? = σ[i]?
theorem Only.refl {tgs : List Nat} {σ : L2.St} : Only tgs σ σ := ⟨rfl, fun _ _ => rfl⟩
theorem Only.trans {t1 t2 : List Nat} {σ σ1 σ2 : L2.St} (a : Only t1 σ σ1) (b : Only t2 σ1 σ2) : Only (t1 ++ t2) σ σ2 := ⟨b.1.trans a.1, fun i h => (b.2 i fun z => h (List.mem_append_right _ z)).trans (a.2 i fun z => h (List.mem_append_left _ z))⟩
def SndG (K : PySem.W.Frag) (g : TG) (gt : GT) (tgs : List Nat) : Prop :=
  ∀ G O P env σ F H v d env' (Q : L2.St → Hp → Prop), SR K G O P [] env σ F H → Rp K F v d → gt d env = some env' → (∀ σ' F' H', Same F F' → SR K G O P [] env' σ' F' H' → Only tgs σ σ' → Q σ' H') → g v σ H Q
def SndGs (K : PySem.W.Frag) (g : TGs) (gt : GTs) (tgs : List Nat) : Prop :=
  ∀ G O P env σ F H vs ds env' (Q : L2.St → Hp → Prop), SR K G O P [] env σ F H → RpL K F vs ds → gt ds env = some env' → (∀ σ' F' H', Same F F' → SR K G O P [] env' σ' F' H' → Only tgs σ σ' → Q σ' H') → g vs σ H Q
structure DS (X : Cx) (W : WX) (st : Stmt) (f : FS) : Prop where
  ex : ∃ t, PS X st t ∧ SndS X.K X.mg W t f
structure DSs (X : Cx) (W : WX) (st : List Stmt) (f : FS) : Prop where
  ex : ∃ t, PSs X st t ∧ SndS X.K X.mg W t f
structure DG (X : Cx) (e : Expr) (g : TG) (gt : GT) (tgs : List Nat) : Prop where
  pg : PG X e g
  sd : SndG X.K g gt tgs
structure DGs (X : Cx) (e : List Expr) (g : TGs) (gt : GTs) (tgs : List Nat) : Prop where
  pg : PGs X e g
  sd : SndGs X.K g gt tgs

/-! ### forms -/
def seqF (f g : FS) : FS := fun env => M.bind (f env) fun r => match r with
  | .nx env' => g env'
  | .rt s env' => M.ok (.rt s env')
def nilF : FS := fun env => M.ok (.nx env)
def dropF (f : FE) : FS := fun env => M.bind (f env) fun p => M.ok (.nx p.2)
/-- another name of one's own list keeps it for good -/
def unal (s : Sl) (env : EnvD) : Option (Sl × EnvD) :=
  match s with
  | .al i => match frz1 (.al i) env with
    | some (d, env2) => some (.val d, env2)
    | none => none
  | .pen _ => none
  | s => some (s, env)
def asgF (i : Nat) (f : FE) : FS := fun env => M.bind (f env) fun p => match unal p.1 p.2 with
  | some q => match putS i q.1 q.2 with
    | some env2 => M.ok (.nx env2)
    | none => none
  | none => none
def asgG (gt : GT) (f : FE) : FS := fun env => M.bind (f env) fun p => match frz1 (fz p.1) p.2 with
  | some q => match gt q.1 q.2 with
    | some env2 => M.ok (.nx env2)
    | none => none
  | none => none
def retF (f : FE) : FS := fun env => M.bind (f env) fun p => M.ok (.rt p.1 p.2)
def retN : FS := fun env => M.ok (.rt (.val .none) env)
def ifF (c : FT) (f g : FS) : FS := fun env => M.bind (c env) fun p => match p.1 with
  | true => f p.2
  | false => g p.2
def raiseF (c : Str) : FS := fun env => some (.err c env)
def gtName (i : Nat) : GT := fun d env => putS i (.val d) env
def gtTup (gs : GTs) : GT := fun d env => match d with
  | .tuple ds => gs ds env
  | _ => none
def gtNil : GTs := fun ds env => match ds with
  | [] => some env
  | _ => none
def gtCons (g : GT) (gs : GTs) : GTs := fun ds env => match ds with
  | d :: r => match g d env with
    | some env1 => gs r env1
    | none => none
  | _ => none
def whileN (c : FT) (b : FS) : Nat → FS
  | 0 => fun _ => none
  | n + 1 => fun env => M.bind (c env) fun p => match p.1 with
    | true => M.bind (b p.2) fun r => match r with
      | .nx env' => whileN c b n env'
      | .rt s env' => M.ok (.rt s env')
    | false => M.ok (.nx p.2)
def whileF (mu : EnvD → Nat) (c : FT) (b : FS) : FS := fun env => whileN c b (mu env) env

section
variable {X : Cx} {W : WX} {e a b c : Expr} {es rest : List Expr} {f fa fb fc : FE} {pos : Pos} {x : Str} {p : Pos} {st : Stmt} {sts : List Stmt} {u v : FS}
theorem dss_nil : DSs X W [] nilF := ⟨_, pss_nil, fun G O P env σ F H D S hp => hp σ F H S⟩
theorem dss_one (h : DS X W st u) : DSs X W [st] u := by
  obtain ⟨t, p, s⟩ := h.ex
  exact ⟨_, pss_one p, s⟩
theorem SndS.thn {K : PySem.W.Frag} {mg : Str → Option Value} {G O F H : Hp} {P : Nat → Option Addr} {env : EnvD} {σ : L2.St} {t : TS} {f : FS} (h : SndS K mg W t f) {D : Ends} {N : L2.St → Hp → Prop} {k : FS} (S : SR K G O P [] env σ F H)
    (hp : PostS K mg W G O P D (seqF f k env)) (hk : ∀ env' σ' F' H', SR K G O P [] env' σ' F' H' → PostS K mg W G O P D (k env') → N σ' H') : t { D with nx := N } σ H := by
  refine h G O P env σ F H _ S ?_
  unfold seqF at hp
  cases e : f env with
  | none => rw [e] at hp; exact hp
  | some o =>
    rw [e] at hp
    cases o with
    | err c env' => exact hp
    | ok r =>
      cases r with
      | nx env' => exact fun σ' F' H' S' => hk env' σ' F' H' S' hp
      | rt s env' => exact hp
theorem dss_cons (h : DS X W st u) (hr : DSs X W sts v) : DSs X W (st :: sts) (seqF u v) := by
  obtain ⟨t, p, s⟩ := h.ex
  obtain ⟨t2, p2, s2⟩ := hr.ex
  refine ⟨_, pss_cons p p2, fun G O P env σ F H D S hp => ?_⟩
  exact s.thn S hp fun env' σ' F' H' S' hp' => s2 G O P env' σ' F' H' D S' hp'
theorem dss_never : DSs X W sts (fun _ => none) := ⟨_, pss_never, fun G O P env σ F H D S hp => hp.elim⟩
theorem ds_never : DS X W st (fun _ => none) := ⟨_, ps_never, fun G O P env σ F H D S hp => hp.elim⟩
/-- an expression's value, then D -/
theorem SndE.stmt {K : PySem.W.Frag} {mg : Str → Option Value} {G O F H : Hp} {P : Nat → Option Addr} {env : EnvD} {σ : L2.St} {t : TE} (h : SndE K mg W t f) {R : VK} {D : Ends} {k : Sl → EnvD → M Flo} (S : SR K G O P [] env σ F H)
    (hp : PostS K mg W G O P D (M.bind (f env) fun p => k p.1 p.2))
    (hk : ∀ s env' v F' H', SR K G O P [] env' σ F' H' → RsOk K F' H' O env' σ s v → PostS K mg W G O P D (k s env') → R v H') : t σ H R := by
  refine h G O P [] env σ F H R S ?_
  cases e : f env with
  | none => rw [e] at hp; exact hp
  | some o =>
    rw [e] at hp
    cases o with
    | err c env' => exact fun C F' H' hc S' => hp C σ F' H' hc S'
    | ok p => exact fun v F' H' S' r => hk _ _ v F' H' S' r hp
theorem SndT.stmt {K : PySem.W.Frag} {mg : Str → Option Value} {G O F H : Hp} {P : Nat → Option Addr} {env : EnvD} {σ : L2.St} {t : TT} {f : FT} (h : SndT K mg W t f) {R : Bool → Hp → Prop} {D : Ends} {k : Bool → EnvD → M Flo} (S : SR K G O P [] env σ F H)
    (hp : PostS K mg W G O P D (M.bind (f env) fun p => k p.1 p.2))
    (hk : ∀ b env' F' H', SR K G O P [] env' σ F' H' → PostS K mg W G O P D (k b env') → R b H') : t σ H R := by
  refine h G O P [] env σ F H R S ?_
  cases e : f env with
  | none => rw [e] at hp; exact hp
  | some o =>
    rw [e] at hp
    cases o with
    | err c env' => exact fun C F' H' hc S' => hp C σ F' H' hc S'
    | ok p => exact fun F' H' S' => hk _ _ F' H' S' hp
theorem ds_expr (he : DE X W e f) (hs : swapsWith e none pos.line X.env = pure false := by rfl) : DS X W (.Expr e pos) (dropF f) := by
  obtain ⟨t, p, s⟩ := he.ex
  refine ⟨_, ps_expr p hs, fun G O P env σ F H D S hp => ?_⟩
  exact s.stmt (k := fun _ env => M.ok (.nx env)) S hp fun s env' v F' H' S' r hp' => hp' σ F' H' S'
theorem ds_ret (he : DE X W e f) : DS X W (.Return (some e) pos) (retF f) := by
  obtain ⟨t, p, s⟩ := he.ex
  refine ⟨_, ps_ret p, fun G O P env σ F H D S hp => ?_⟩
  exact s.stmt (k := fun s env => M.ok (.rt s env)) S hp fun s env' v F' H' S' r hp' => hp' v σ F' H' S' r
theorem ds_retN : DS X W (.Return none pos) retN := ⟨_, ps_retN, fun G O P env σ F H D S hp => hp .non σ F H S .non⟩
theorem ds_if {fc : FT} {sa sb : List Stmt} (hc : DT X W c fc) (ha : DSs X W sa u) (hb : DSs X W sb v) : DS X W (.If c sa sb pos) (ifF fc u v) := by
  obtain ⟨tc, pc, sc⟩ := hc.ex
  obtain ⟨ta, pa, sa⟩ := ha.ex
  obtain ⟨tb, pb, sb⟩ := hb.ex
  refine ⟨_, ps_if pc pa pb, fun G O P env σ F H D S hp => ?_⟩
  refine sc.stmt (k := fun b env => match b with | true => u env | false => v env) S hp fun b env' F' H' S' hp' => ?_
  cases b with
  | true => exact sa G O P env' σ F' H' D S' hp'
  | false => exact sb G O P env' σ F' H' D S' hp'

/-! ### name = value -/
theorem unal_ok {K : PySem.W.Frag} {G O F H : Hp} {P : Nat → Option Addr} {env env2 : EnvD} {σ : L2.St} {s s2 : Sl} {v : V} (S : SR K G O P [] env σ F H) (r : RsOk K F H O env σ s v) (e : unal s env = some (s2, env2)) :
    ∃ F2, Same F F2 ∧ SR K G O P [] env2 σ F2 H ∧ RsOk K F2 H O env2 σ s2 v := by
  unfold unal at e
  cases s with
  | val d => cases e; exact ⟨F, Same.refl _, S, r⟩
  | own o => cases e; exact ⟨F, Same.refl _, S, r⟩
  | pen o => cases e
  | al i =>
    dsimp only at e
    cases q : frz1 (.al i) env with
    | none => rw [q] at e; cases e
    | some pr =>
      rw [q] at e
      cases e
      obtain ⟨F2, m, S2, r2⟩ := S.frz1 (s := .al i) (v := v) r q
      exact ⟨F2, m, S2, r2⟩
theorem snd_asg {K : PySem.W.Frag} {mg : Str → Option Value} {i : Nat} {t : TE} (h : SndE K mg W t f) : SndS K mg W (tAsg t (gName i)) (asgF i f) := by
  intro G O P env σ F H D S hp
  refine h.stmt (k := fun s env => match unal s env with
    | some q => match putS i q.1 q.2 with
      | some env2 => M.ok (.nx env2)
      | none => none
    | none => none) S hp fun s env' v F' H' S' r hp' => ?_
  cases q : unal s env' with
  | none => rw [q] at hp'; exact hp'.elim
  | some pr =>
    rw [q] at hp'
    obtain ⟨s2, env2⟩ := pr
    dsimp only at hp'
    obtain ⟨F2, m, S2, r2⟩ := unal_ok S' r q
    cases q2 : putS i s2 env2 with
    | none => rw [q2] at hp'; exact hp'.elim
    | some env3 =>
      rw [q2] at hp'
      exact hp' _ F2 H' (S2.put r2 q2)
theorem ds_asg (i : Nat) {px : Pos} (he : DE X W e f) (hN : X.N.Nodup) (hi : X.N[i]? = some x := by rfl) (hx : Loc X.env.scope x := by first | exact Or.inl rfl | exact Or.inr rfl) (hs : swapsWith e (some (.Name x px)) pos.line X.env = pure false := by rfl) (hf : X.fn x = true ∨ X.env.scope.names.lookup x = some .local := by first | exact .inl rfl | exact .inr rfl) :
    DS X W (.Assign [.Name x px] e pos) (asgF i f) := by
  obtain ⟨t, p, s⟩ := he.ex
  exact ⟨_, ps_set hN hi hx p hs hf, snd_asg s⟩

/-! ### targets -/
theorem dg_name (i : Nat) (hN : X.N.Nodup) (hi : X.N[i]? = some x := by rfl) (hx : Loc X.env.scope x := by first | exact Or.inl rfl | exact Or.inr rfl) (hf : X.fn x = true ∨ X.env.scope.names.lookup x = some .local := by first | exact .inl rfl | exact .inr rfl) : DG X (.Name x p) (gName i) (gtName i) [i] :=
  ⟨pg_name hN hi hx hf, fun G O P env σ F H v d env' Q S r e q => q _ F H (Same.refl _) (S.put (s := .val d) r e) ⟨by rw [List.length_set], fun k hk => by rw [List.getElem?_set_ne (fun z => hk (by simp [z]))]⟩⟩
theorem dgs_nil : DGs X [] gNil gtNil [] := ⟨pgs_nil, fun G O P env σ F H vs ds env' Q S r e q => by
  cases r with
  | nil => cases e; exact ⟨rfl, q σ F H (Same.refl _) S Only.refl⟩
  | cons _ _ => cases e⟩
theorem dgs_cons {g : TG} {gs : TGs} {gt : GT} {gts : GTs} {t1 t2 : List Nat} (h1 : DG X e g gt t1) (h2 : DGs X es gs gts t2) (hs : (assignEach (e :: es) X.env).map (·.2) = assign e X.env :: (assignEach es X.env).map (·.2) := by rfl) : DGs X (e :: es) (gCons g gs) (gtCons gt gts) (t1 ++ t2) :=
  ⟨pgs_cons h1.pg h2.pg hs, fun G O P env σ F H vs ds env' Q S r e q => by
    cases r with
    | nil => cases e
    | cons r1 r2 =>
      unfold gtCons at e
      dsimp only at e
      cases z : gt _ env with
      | none => rw [z] at e; cases e
      | some env1 =>
        rw [z] at e
        exact ⟨_, _, rfl, h1.sd G O P env σ F H _ _ env1 _ S r1 z fun σ1 F1 H1 m1 S1 o1 => h2.sd G O P env1 σ1 F1 H1 _ _ env' Q S1 (RpL.mono m1 _ _ r2) e fun σ2 F2 H2 m2 S2 o2 => q σ2 F2 H2 (m1.trans m2) S2 (o1.trans o2)⟩⟩
theorem sndG_tup {K : PySem.W.Frag} {n : Nat} {gs : TGs} {gts : GTs} {tgs : List Nat} (h : SndGs K gs gts tgs) (hn : ∀ ds env env', gts ds env = some env' → ds.length = n) : SndG K (gTup K n gs) (gtTup gts) tgs := by
  intro G O P env σ F H v d env' Q S r e q
  unfold gtTup at e
  split at e
  · rename_i ds
    obtain ⟨a, xs, rfl, z1, z2⟩ := Sh.tup S.fh (Rp.sh S.fh r)
    exact ⟨a, xs, rfl, z1, by rw [z2.length]; exact hn _ _ _ e, h G O P env σ F H _ _ env' Q S z2 e q⟩
  · cases e
def gtsLen (gts : GTs) (n : Nat) : Prop := ∀ ds env env', gts ds env = some env' → ds.length = n
theorem gl_nil : gtsLen gtNil 0 := fun ds env env' h => by
  cases ds with
  | nil => rfl
  | cons _ _ => cases h
theorem gl_cons {g : GT} {gs : GTs} {n : Nat} (h : gtsLen gs n) : gtsLen (gtCons g gs) (n + 1) := fun ds env env' e => by
  cases ds with
  | nil => cases e
  | cons d r =>
    unfold gtCons at e
    dsimp only at e
    cases z : g d env with
    | none => rw [z] at e; cases e
    | some env1 =>
      rw [z] at e
      simp [h r env1 env' e]
theorem dg_tup {k n : Nat} {gs : TGs} {gts : GTs} {tgs : List Nat} (h : DGs X es gs gts tgs) (hl : gtsLen gts n) (hp : PG X (.Tuple es k p) (gTup X.K n gs)) : DG X (.Tuple es k p) (gTup X.K n gs) (gtTup gts) tgs := ⟨hp, sndG_tup h.sd hl⟩
theorem ds_asgG {tg : Expr} {g : TG} {gt : GT} {tgs : List Nat} (he : DE X W e f) (hg : DG X tg g gt tgs) (hs : swapsWithSole [tg] e pos.line X.env = pure false := by rfl) (hw : swappedStores [tg] e X.env = pure none := by rfl)
    (h1 : (assignEach [tg] X.env).map (·.2) = [assign tg X.env] := by rfl) : DS X W (.Assign [tg] e pos) (asgG gt f) := by
  obtain ⟨t, p, s⟩ := he.ex
  refine ⟨_, ps_asg p hg.pg hs hw h1, fun G O P env σ F H D S hp => ?_⟩
  refine s.stmt (k := fun s env => match frz1 (fz s) env with
    | some q => match gt q.1 q.2 with
      | some env2 => M.ok (.nx env2)
      | none => none
    | none => none) S hp fun s env' v F' H' S' r hp' => ?_
  obtain ⟨F2, m2, S2⟩ := S'.keep r
  cases q : frz1 (fz s) env' with
  | none => rw [q] at hp'; exact hp'.elim
  | some pr =>
    rw [q] at hp'
    obtain ⟨d, env2⟩ := pr
    dsimp only at hp'
    obtain ⟨F3, m3, S3, r3⟩ := S2.frz1 (S2.tmp (fz s, v) (by simp)) q
    cases q2 : gt d env2 with
    | none => rw [q2] at hp'; exact hp'.elim
    | some env3 =>
      rw [q2] at hp'
      exact hg.sd G O P env2 σ F3 H' v d env3 _ S3.pop r3 q2 fun σ' F4 H4 _ S4 _ => hp' σ' F4 H4 S4

/-! ### while -/
theorem ds_while {fc : FT} {sb : List Stmt} (mu : EnvD → Nat) (hp : PassesOwn (model X.prog X.w) X.A X.env X.xe) (hc : DT X W c fc) (hb : DSs X W sb u) : DS X W (.While c sb [] pos) (whileF mu fc u) := by
  obtain ⟨tc, pc, sc⟩ := hc.ex
  obtain ⟨tb, pb, sb⟩ := hb.ex
  refine ⟨_, ps_while hp pc pb, fun G O P env σ F H D S hp => ?_⟩
  refine ⟨fun m σ H => ∃ env F, SR X.K G O P [] env σ F H ∧ PostS X.K X.mg W G O P D (whileN fc u m env), ⟨mu env, env, F, S, hp⟩, fun m σ H ⟨env, F, S, hp⟩ => ?_⟩
  cases m with
  | zero => exact hp.elim
  | succ m =>
    refine sc.stmt (k := fun b env => match b with
      | true => M.bind (u env) fun r => match r with
        | .nx env' => whileN fc u m env'
        | .rt s env' => M.ok (.rt s env')
      | false => M.ok (.nx env)) S hp fun b env' F' H' S' hp' => ?_
    cases b with
    | false => exact hp' σ F' H' S'
    | true =>
      rw [if_pos rfl]
      refine ⟨fun σ' H' => ∃ env F, SR X.K G O P [] env σ' F H' ∧ PostS X.K X.mg W G O P D (whileN fc u m env), fun σ' H' q => ⟨m, Nat.lt_succ_self m, q⟩, ?_⟩
      refine sb G O P env' σ F' H' _ S' ?_
      cases q : u env' with
      | none => rw [q] at hp'; exact hp'
      | some o =>
        rw [q] at hp'
        cases o with
        | err c env2 => exact hp'
        | ok r =>
          cases r with
          | nx env2 => exact fun σ2 F2 H2 S2 => ⟨env2, F2, S2, hp'⟩
          | rt s env2 => exact hp'
end
end DL
set_option Elab.async false
set_option linter.all false
set_option maxRecDepth 100000
set_option maxHeartbeats 4000000
namespace DL
open PySem PySem.Spec PyProof.Rows L2

/-! ### a, b = x, y of plain local names -/
section
variable {K : PySem.W.Frag} {G G' O F F' H H' : Hp} {P P' : Nat → Option Addr} {ts : List (Sl × V)} {env env2 : EnvD} {σ σ' : L2.St} {s : Sl} {v : V} {d : PyData} {a : Addr} {o o' : Own}
theorem SR.base (h : SR K G O P ts env σ F H) : SR K F O P ts env σ F H := ⟨Same.refl _, h.fh, h.oh, h.dj, h.len, h.slot, h.tmp, h.sep, h.nt⟩
theorem SR.rebase (h : SR K F' O P ts env σ F H) (g : Same G F') : SR K G O P ts env σ F H := ⟨g.trans h.gf, h.fh, h.oh, h.dj, h.len, h.slot, h.tmp, h.sep, h.nt⟩
/-- a result's own list laid by, while something else is reckoned -/
theorem SR.hide {u : HO} (h : SR K G O P ts env σ F H) (nF : F a = none) (nO : O a = none) (hu : H a = some u) (nu : ∀ ps, u ≠ .tbl ps) (ns : ∀ (i : Nat) (s' : Sl), env[i]? = some (some s') → s'.owns → σ[i]? ≠ some (some (.ref a))) : SR K G (upd O a u) P ts env σ F H := by
  refine ⟨h.gf, h.fh, h.oh.more hu nu, fun b x q => ?_, h.len, fun i s q => ?_, h.tmp, h.sep, h.nt⟩
  · by_cases hb : b = a
    · subst hb; exact nF
    · rw [upd_ne hb] at q; exact h.dj b x q
  · obtain ⟨w, f1, f2⟩ := h.slot i s q
    refine ⟨w, f1, ?_⟩
    cases s with
    | val d => exact f2
    | own o =>
      obtain ⟨b, rfl, z1, z2, z3⟩ := f2
      have ne : b ≠ a := fun z => ns i _ q trivial (by rw [f1, z])
      exact ⟨b, rfl, z1, by rw [upd_ne ne]; exact z2, z3⟩
    | pen o =>
      obtain ⟨b, rfl, z0, z1, z2, z3⟩ := f2
      have ne : b ≠ a := fun z => ns i _ q trivial (by rw [f1, z])
      exact ⟨b, rfl, z0, z1, by rw [upd_ne ne]; exact z2, z3⟩
    | al k => exact f2
theorem SR.unhide {u : HO} (h : SR K G (upd O a u) P ts env σ F H) (nO : O a = none) (nu : ∀ ps, u ≠ .tbl ps) : SR K G O P ts env σ F H ∧ F a = none ∧ H a = some u ∧ ∀ (i : Nat) (s' : Sl), env[i]? = some (some s') → s'.owns → σ[i]? ≠ some (some (.ref a)) := by
  have sub : ∀ b x, O b = some x → upd O a u b = some x := fun b x q => by rw [upd_ne (ne_of_none q nO)]; exact q
  have un : ∀ b, upd O a u b = none → b ≠ a ∧ O b = none := fun b q => by
    by_cases hb : b = a
    · subst hb; rw [upd_same] at q; cases q
    · rw [upd_ne hb] at q; exact ⟨hb, q⟩
  refine ⟨⟨h.gf, h.fh, h.oh.sub sub, fun b x q => h.dj b x (sub b x q), h.len, fun i s q => ?_, h.tmp, h.sep, h.nt⟩, h.dj a u upd_same, h.oh.val a u upd_same, fun i s' q w z => ?_⟩
  · obtain ⟨w, f1, f2⟩ := h.slot i s q
    refine ⟨w, f1, ?_⟩
    cases s with
    | val d => exact f2
    | own o =>
      obtain ⟨b, rfl, z1, z2, z3⟩ := f2
      exact ⟨b, rfl, z1, (un b z2).2, z3⟩
    | pen o =>
      obtain ⟨b, rfl, z0, z1, z2, z3⟩ := f2
      exact ⟨b, rfl, z0, z1, (un b z2).2, z3⟩
    | al k => exact f2
  · obtain ⟨_, z2, _⟩ := h.owned q w z
    exact (un a z2).1 rfl
end
def parF (i j : Nat) (fa fb : FE) : FS := fun env => M.bind (fa env) fun p => match unal p.1 p.2 with
  | some r => M.bind (fb r.2) fun q => match unal q.1 q.2 with
    | some t => match putS i r.1 t.2 with
      | some env3 => match putS j t.1 env3 with
        | some env4 => M.ok (.nx env4)
        | none => none
      | none => none
    | none => none
  | none => none
def parK (i j : Nat) (s1 s2 : Sl) (env : EnvD) : M Flo := match putS i s1 env with
  | some env3 => match putS j s2 env3 with
    | some env4 => M.ok (.nx env4)
    | none => none
  | none => none
section
variable {X : Cx} {W : WX} {e a b c : Expr} {es rest : List Expr} {f fa fb fc : FE} {pos : Pos} {x y : Str} {p : Pos} {st : Stmt} {sts : List Stmt} {u v : FS}
theorem par_fin {K : PySem.W.Frag} {mg : Str → Option Value} {G O F H : Hp} {P : Nat → Option Addr} {env : EnvD} {σ : L2.St} {i j : Nat} {s1 s2 : Sl} {v1 v2 : V} {D : Ends} (S : SR K G O P [] env σ F H) (r1 : RsOk K F H O env σ s1 v1) (r2 : RsOk K F H O env σ s2 v2)
    (hd : ∀ a o1 o2, s1 = .own o1 → s2 = .own o2 → v1 = .ref a → v2 ≠ .ref a) (hij : i ≠ j) (hp : PostS K mg W G O P D (parK i j s1 s2 env)) : D.nx ((σ.set i (some v1)).set j (some v2)) H := by
  unfold parK at hp
  cases q1 : putS i s1 env with
  | none => rw [q1] at hp; exact hp.elim
  | some env3 =>
    rw [q1] at hp
    dsimp only at hp
    have S3 := S.put r1 q1
    cases q2 : putS j s2 env3 with
    | none => rw [q2] at hp; exact hp.elim
    | some env4 =>
      rw [q2] at hp
      refine hp _ F H (S3.put ?_ q2)
      cases s2 with
      | val d => exact r2
      | pen o => exact r2
      | al k => cases q2
      | own o2 =>
        obtain ⟨a, rfl, z1, z2, z3, z4⟩ := r2
        refine ⟨a, rfl, z1, z2, z3, fun k t w1 w2 w3 => ?_⟩
        have e3 : env3 = env.set i (some s1) := by
          unfold putS at q1
          cases s1 with
          | al _ => cases q1
          | pen _ => cases q1
          | val d =>
            dsimp only at q1
            split at q1
            · cases q1
            · cases q1; rfl
            · cases q1
          | own d =>
            dsimp only at q1
            split at q1
            · cases q1
            · cases q1; rfl
            · cases q1
        subst e3
        by_cases hik : i = k
        · subst hik
          by_cases hl : i < env.length
          · rw [List.getElem?_set_self hl] at w1
            cases w1
            have hls : i < σ.length := by rw [← S.len]; exact hl
            rw [List.getElem?_set_self hls] at w3
            cases w3
            cases s1 with
            | own o1 => exact hd a o1 o2 rfl rfl rfl rfl
            | val d => exact w2
            | pen d => exact r1
            | al d => exact w2
          · rw [List.getElem?_eq_none (by simpa using hl)] at w1
            cases w1
        · rw [List.getElem?_set_ne hik] at w1 w3
          exact z4 k t w1 w2 w3
theorem ds_par (i j : Nat) {px py pt : Pos} {kt k2 : Nat} {pt2 : Pos} (hc : X.calm = true) (hN : X.N.Nodup) (ha : DE X W a fa) (hb : DE X W b fb) (hij : i ≠ j := by decide) (hi : X.N[i]? = some x := by rfl) (hj : X.N[j]? = some y := by rfl)
    (hx : X.env.scope.names.lookup x = some .local := by rfl) (hy : X.env.scope.names.lookup y = some .local := by rfl)
    (hw : swappedStores [.Tuple [.Name x px, .Name y py] kt pt] (.Tuple [a, b] k2 pt2) X.env = pure (some [x, y]) := by rfl)
    (hs : swapsWithSole [.Tuple [.Name x px, .Name y py] kt pt] (.Tuple [a, b] k2 pt2) pos.line X.env = pure false := by rfl) (he : starEach [a, b] X.env = (false, eval a X.env) :: starEach [b] X.env := by rfl) (he2 : starEach [b] X.env = (false, eval b X.env) :: starEach [] X.env := by rfl) :
    DS X W (.Assign [.Tuple [.Name x px, .Name y py] kt pt] (.Tuple [a, b] k2 pt2) pos) (parF i j fa fb) := by
  obtain ⟨ta, pa, sa⟩ := ha.ex
  obtain ⟨tb, pb, sb⟩ := hb.ex
  refine ⟨_, ps_par hc hN hi hj hij hx hy (pa_cons pa (pa_cons pb pa_nil he2) he) hw hs, fun G O P env σ F H D S hp => ?_⟩
  refine sa.stmt (k := fun s env => match unal s env with
    | some r => M.bind (fb r.2) fun q => match unal q.1 q.2 with
      | some t => parK i j r.1 t.1 t.2
      | none => none
    | none => none) S hp fun s env' v1 F' H' S' r hp' => ?_
  cases q : unal s env' with
  | none => rw [q] at hp'; exact hp'.elim
  | some pr =>
    rw [q] at hp'
    obtain ⟨s1, env1⟩ := pr
    dsimp only at hp'
    obtain ⟨F1, m1, S1, r1⟩ := unal_ok S' r q
    -- the second is reckoned with the first laid by
    cases s1 with
    | pen o => exact r1.elim
    | al k =>
      unfold unal at q
      cases s with
      | val d => cases q
      | own o => cases q
      | pen o => cases q
      | al k2 =>
        dsimp only at q
        split at q <;> cases q
    | val d =>
      have S2 : SR X.K F1 O P [(.val d, v1)] env1 σ F1 H' := S1.base.push (s := .val d) r1
      refine sb F1 O P _ env1 σ F1 H' _ S2 ?_
      cases q2 : fb env1 with
      | none => rw [q2] at hp'; exact hp'
      | some ot =>
        rw [q2] at hp'
        cases ot with
        | err c env3 => exact fun C F3 H3 hc S3 => hp' C σ F3 H3 hc (S3.rebase S1.gf)
        | ok p2 =>
          intro v2 F3 H3 S3 r3
          change PostS X.K X.mg W G O P D (match unal p2.1 p2.2 with | some t => parK i j (.val d) t.1 t.2 | none => none) at hp'
          cases q3 : unal p2.1 p2.2 with
          | none => rw [q3] at hp'; exact hp'.elim
          | some t =>
            rw [q3] at hp'
            obtain ⟨F4, m4, S4, r4⟩ := unal_ok S3.pop r3 q3
            have rd : Rp X.K F4 v1 d := Rp.mono m4 _ _ (S3.tmp (.val d, v1) (by simp))
            exact ⟨v1, v2, rfl, par_fin (S4.rebase S1.gf) (s1 := .val d) rd r4 (fun _ _ _ z => by cases z) hij hp'⟩
    | own o =>
      obtain ⟨a1, rfl, z1, z2, z3, z4⟩ := r1
      obtain ⟨u, hu, su⟩ := z3.soft
      have S2 : SR X.K F1 (upd O a1 u) P [] env1 σ F1 H' := S1.base.hide z1 z2 hu su.nt z4
      refine sb F1 (upd O a1 u) P _ env1 σ F1 H' _ S2 ?_
      cases q2 : fb env1 with
      | none => rw [q2] at hp'; exact hp'
      | some ot =>
        rw [q2] at hp'
        cases ot with
        | err c env3 => exact fun C F3 H3 hc S3 => hp' C σ F3 H3 hc ((S3.unhide z2 su.nt).1.rebase S1.gf)
        | ok p2 =>
          intro v2 F3 H3 S3 r3
          change PostS X.K X.mg W G O P D (match unal p2.1 p2.2 with | some t => parK i j (.own o) t.1 t.2 | none => none) at hp'
          cases q3 : unal p2.1 p2.2 with
          | none => rw [q3] at hp'; exact hp'.elim
          | some t =>
            rw [q3] at hp'
            obtain ⟨F4, m4, S4, r4⟩ := unal_ok S3 r3 q3
            obtain ⟨S5, y1, y2, y3⟩ := S4.unhide z2 su.nt
            have ra : RsOk X.K F4 H3 O t.2 σ (.own o) (.ref a1) := ⟨a1, rfl, y1, z2, z3.mono (S4.gf) (by rw [y2, hu]), y3⟩
            refine ⟨.ref a1, v2, rfl, par_fin (S5.rebase S1.gf) ra ?_ (fun b o1 o2 _ w2 w3 => ?_) hij hp'⟩
            · obtain ⟨s2, env4⟩ := t
              cases s2 with
              | val d => exact r4
              | pen d => exact r4
              | al d => exact r4
              | own o2 =>
                obtain ⟨b, rfl, x1, x2, x3, x4⟩ := r4
                have ne : b ≠ a1 := fun z => by rw [z, upd_same] at x2; cases x2
                rw [upd_ne ne] at x2
                exact ⟨b, rfl, x1, x2, x3, x4⟩
            · cases w3
              obtain ⟨s2, env4⟩ := t
              dsimp only at w2
              subst w2
              obtain ⟨b, x0, x1, x2, x3, x4⟩ := r4
              intro z
              rw [z] at x0
              cases x0
              rw [upd_same] at x2
              cases x2
end

/-! ### a def -/
def outsA : List Sl → EnvD → EnvD
  | [], _ => []
  | s :: ss, env => (match s with
    | .pen _ => (match env with
      | some (.pen o) :: _ => some (.pen o)
      | _ => none)
    | s => some s) :: outsA ss env.tail
def resOut (s : Sl) (env : EnvD) : Option Sl :=
  match s with
  | .val d => some (.val d)
  | .own o => some (.own o)
  | .al i => match env[i]? with
    | some (some (.own o)) => some (.own o)
    | some (some (.val d)) => some (.val d)
    | _ => none
  | .pen _ => none
def endF (args : List Sl) (r : M Flo) : M (Sl × EnvD) :=
  match r with
  | none => none
  | some (.err c env) => some (.err c (outsA args env))
  | some (.ok (.nx env)) => M.ok (.val .none, outsA args env)
  | some (.ok (.rt s env)) => fin (resOut s env) (outsA args env)
/-- a def of n parameters and l names -/
def bodyF (n l : Nat) (f : FS) : MF := fun args => if args.length = n then endF args (f (args.map some ++ List.replicate (l - n) none)) else none
theorem outsA_len : ∀ (args : List Sl) (env : EnvD), (outsA args env).length = args.length
  | [], _ => rfl
  | s :: ss, env => by simp [outsA, outsA_len ss env.tail]
theorem outsA_at : ∀ {args : List Sl} {env : EnvD} {i : Nat} {s : Sl}, (outsA args env)[i]? = some (some s) → args[i]? = some s ∧ (∀ o, s ≠ .pen o) ∨ ∃ o o0, s = .pen o ∧ env[i]? = some (some (.pen o)) ∧ args[i]? = some (.pen o0)
  | [], _, _, _, h => by simp [outsA] at h
  | t :: ss, env, 0, s, h => by
    simp only [outsA, List.getElem?_cons_zero, Option.some.injEq] at h
    cases t with
    | pen o0 =>
      cases env with
      | nil => cases h
      | cons e r =>
        cases e with
        | none => cases h
        | some e =>
          cases e with
          | pen o => cases h; exact .inr ⟨o, o0, rfl, rfl, rfl⟩
          | val o => cases h
          | own o => cases h
          | al o => cases h
    | val d => cases h; exact .inl ⟨rfl, fun o z => by cases z⟩
    | own d => cases h; exact .inl ⟨rfl, fun o z => by cases z⟩
    | al d => cases h; exact .inl ⟨rfl, fun o z => by cases z⟩
  | t :: ss, env, i + 1, s, h => by
    simp only [outsA, List.getElem?_cons_succ] at h
    rcases outsA_at h with ⟨h1, h2⟩ | ⟨o, o0, h1, h2, h3⟩
    · exact .inl ⟨by simpa using h1, h2⟩
    · refine .inr ⟨o, o0, h1, ?_, by simpa using h3⟩
      cases env with
      | nil => simp at h2
      | cons e r => simpa using h2
section
variable {K : PySem.W.Frag} {G O F F' H H' : Hp} {P : Nat → Option Addr} {args : List Sl} {vs : List V} {env : EnvD} {σ : L2.St}
/-- at the entry -/
theorem SR.entry {n l : Nat} (h : SR K F O P [] (args.map some) (vs.map some) F H) (hn : args.length = n) : SR K F O P [] (args.map some ++ List.replicate (l - n) none) (vs.map some ++ List.replicate (l - vs.length) none) F H := by
  have hl := h.len
  simp only [List.length_map] at hl
  have lo : ∀ (i : Nat) (s : Sl), (args.map some ++ List.replicate (l - n) none)[i]? = some (some s) → (args.map some)[i]? = some (some s) := fun i s q => by
    by_cases hi : i < args.length
    · rw [List.getElem?_append_left (by simpa using hi)] at q
      exact q
    · rw [List.getElem?_append_right (by simpa using hi), List.getElem?_replicate] at q
      split at q <;> cases q
  have hi' : ∀ (i : Nat) (s : Sl), (args.map some)[i]? = some (some s) → (vs.map some ++ List.replicate (l - vs.length) none)[i]? = (vs.map some)[i]? := fun i s q => by
    have := (List.getElem?_eq_some_iff.mp q).1
    rw [List.length_map] at this
    exact List.getElem?_append_left (by simpa [← hl] using this)
  refine ⟨h.gf, h.fh, h.oh, h.dj, by simp [← hl, hn], fun i s q => ?_, fun p hp => absurd hp (by simp), fun i j s t a q1 q2 w1 w2 r1 r2 => ?_, h.nt⟩
  · have q' := lo i s q
    obtain ⟨v, e1, e2⟩ := h.slot i s q'
    exact ⟨v, by rw [hi' i s q']; exact e1, e2⟩
  · rw [hi' i s (lo i s q1)] at r1
    rw [hi' j t (lo j t q2)] at r2
    exact h.sep i j s t a (lo i s q1) (lo j t q2) w1 w2 r1 r2
/-- at the end -/
theorem SR.exit (h : SR K F O P [] (args.map some) (vs.map some) F H) (ok : ∀ s ∈ args, argOk s) (h' : SR K F O P [] env σ F' H') : SR K F O P [] (outsA args env) (vs.map some) F' H' := by
  have hl := h.len
  simp only [List.length_map] at hl
  have at0 : ∀ (i : Nat) (s : Sl), args[i]? = some s → (args.map some)[i]? = some (some s) := fun i s q => by rw [List.getElem?_map, q]; rfl
  refine ⟨h'.gf, h'.fh, h'.oh, h'.dj, by rw [outsA_len, List.length_map, hl], fun i s q => ?_, fun p hp => absurd hp (by simp), fun i j s t a q1 q2 w1 w2 r1 r2 => ?_, h'.nt⟩
  · rcases outsA_at q with ⟨h1, h2⟩ | ⟨o, o0, rfl, h2, h3⟩
    · obtain ⟨v, e1, e2⟩ := h.slot i s (at0 i s h1)
      refine ⟨v, e1, ?_⟩
      have := ok s (List.mem_of_getElem? h1)
      cases s with
      | val d => exact Rp.mono h'.gf _ _ e2
      | pen o => exact absurd rfl (h2 o)
      | own o => exact this.elim
      | al o => exact this.elim
    · obtain ⟨v, e1, e2⟩ := h.slot i (.pen o0) (at0 i _ h3)
      obtain ⟨v', f1, f2⟩ := h'.slot i (.pen o) h2
      obtain ⟨a, rfl, pa, _⟩ := e2
      obtain ⟨a', rfl, pa', z1, z2, z3⟩ := f2
      rw [pa] at pa'
      cases pa'
      exact ⟨.ref a, e1, a, rfl, pa, z1, z2, z3⟩
  · have own0 : ∀ (i : Nat) (s : Sl), (outsA args env)[i]? = some (some s) → s.owns → ∃ s', (args.map some)[i]? = some (some s') ∧ s'.owns := fun i s q w => by
      rcases outsA_at q with ⟨h1, h2⟩ | ⟨o, o0, rfl, h2, h3⟩
      · exact ⟨s, at0 i s h1, w⟩
      · exact ⟨.pen o0, at0 i _ h3, trivial⟩
    obtain ⟨s', g1, g2⟩ := own0 i s q1 w1
    obtain ⟨t', g3, g4⟩ := own0 j t q2 w2
    exact h.sep i j s' t' a g1 g3 g2 g4 r1 r2
theorem rs_exit {s z : Sl} {v : V} (h : SR K F O P [] (args.map some) (vs.map some) F H) (ok : ∀ s ∈ args, argOk s) (h' : SR K F O P [] env σ F' H') (r : RsOk K F' H' O env σ s v) (e : resOut s env = some z) : RsOk K F' H' O (outsA args env) (vs.map some) z v := by
  have pens : ∀ (i : Nat) (t : Sl) (b : Addr), (outsA args env)[i]? = some (some t) → t.owns → (vs.map some)[i]? = some (some (V.ref b)) → ∃ o, env[i]? = some (some (.pen o)) ∧ σ[i]? = some (some (.ref b)) := fun i t b q w r => by
    rcases outsA_at q with ⟨h1, h2⟩ | ⟨o, o0, rfl, h2, h3⟩
    · have := ok t (List.mem_of_getElem? h1)
      cases t with
      | val d => exact w.elim
      | pen o => exact absurd rfl (h2 o)
      | own o => exact this.elim
      | al o => exact this.elim
    · obtain ⟨v, e1, e2⟩ := h.slot i (.pen o0) (by rw [List.getElem?_map, h3]; rfl)
      obtain ⟨v', f1, f2⟩ := h'.slot i (.pen o) h2
      obtain ⟨a, rfl, pa, _⟩ := e2
      obtain ⟨a', rfl, pa', _⟩ := f2
      rw [pa] at pa'
      cases pa'
      rw [e1] at r
      cases r
      exact ⟨o, h2, f1⟩
  cases s with
  | val d => cases e; exact r
  | pen o => cases e
  | own o =>
    cases e
    obtain ⟨a, rfl, z1, z2, z3, z4⟩ := r
    refine ⟨a, rfl, z1, z2, z3, fun i t q w rr => ?_⟩
    obtain ⟨o', g1, g2⟩ := pens i t a q w rr
    exact z4 i _ g1 trivial g2
  | al k =>
    have r1 : σ[k]? = some (some v) := r
    unfold resOut at e
    dsimp only at e
    split at e
    · rename_i o hk
      cases e
      obtain ⟨v', f1, f2⟩ := h'.slot k _ hk
      rw [r1] at f1
      cases f1
      obtain ⟨a, rfl, z1, z2, z3⟩ := f2
      refine ⟨a, rfl, z1, z2, z3, fun i t q w rr => ?_⟩
      obtain ⟨o', g1, g2⟩ := pens i t a q w rr
      have := h'.sep i k _ _ a g1 hk trivial trivial g2 r1
      subst this
      rw [g1] at hk
      cases hk
    · rename_i d hk
      cases e
      obtain ⟨v', f1, f2⟩ := h'.slot k _ hk
      rw [r1] at f1
      cases f1
      exact f2
    · cases e
end
section
variable {P : Program} {w : World} {K : PySem.W.Frag} {mg : Str → Option Value} {base : Heap}
theorem bodyF_len {n l : Nat} {f : FS} : ∀ args : List Sl, args.length ≠ n → bodyF n l f args = none := fun args h => by
  unfold bodyF
  rw [if_neg h]
/-- the code of the def at f -/
structure CdOf (K : PySem.W.Frag) (f : Addr) (cdv : Value) : Prop where
  ex : ∃ oc od fd osl, K.lookup f = some ⟨oc, od, .func fd, osl⟩ ∧ fd.code = cdv
/-- THE RULE for a def of the text -/
theorem def_ok {gd : Bool} {x qual : Str} {st : Stmt} {f : Addr} {fd : FuncData} {N ps : List Str} {k : Nat} {fS : FS} (Fu : Fun K x qual st f fd) (S : FnScope N ps (defScope st))
    (hb : ∀ (cdv : Value) (A : Around) (outer : List Env) (s : Shared) (H : Hp) (E : XK), RG gd k (A.deeper (envOfC qual (defScope st) s.heap.objs.size f cdv)) → CdOf K f cdv →
      DSs (cxOf (L2.CX P w) P w K mg base N qual (defScope st) f cdv A outer s H E) (WD E) (defBody st) fS) : FnG gd P w K mg base (L2.CX P w) (k + 1) f fd ps (spD K mg (bodyF ps.length N.length fS)) := by
  obtain ⟨oc, od, kV, doc, pm, an, cdv, ct, osl, rfl, lk, hcd⟩ := Fu.ex
  refine ⟨fun vs H Q E h => spD_len bodyF_len h, fun A outer s H args us vs Q E hr e0 hbd rv h => ?_⟩
  refine LamX.run_ofS lk hcd S hr.rm e0 hbd rv (spD_len bodyF_len h) fun hr' => ?_
  have hlen : vs.length = ps.length := spD_len bodyF_len h
  obtain ⟨t, p, sd⟩ := (hb cdv A outer s H E (hr.deeper _) ⟨_, _, _, _, lk, rfl⟩).ex
  obtain ⟨args, Pn, F, O, ok, S0, hp⟩ := h
  refine ⟨t, p, ?_⟩
  have hl := S0.len
  simp only [List.length_map] at hl
  have ha : args.length = ps.length := by omega
  have S1 := S0.entry (n := ps.length) (l := N.length) ha
  refine sd F O Pn _ _ F H _ S1 ?_
  unfold bodyF at hp
  rw [if_pos ha] at hp
  cases q : fS (args.map some ++ List.replicate (N.length - ps.length) none) with
  | none => rw [q] at hp; exact hp
  | some o =>
    rw [q] at hp
    cases o with
    | err c env => exact fun C σ' F' H' hc S' => hp C F' H' hc (S0.exit ok S')
    | ok r =>
      cases r with
      | nx env => exact fun σ' F' H' S' => hp .non F' H' (S0.exit ok S') .non
      | rt s1 env =>
        intro v σ' F' H' S' r
        obtain ⟨z, e0, q2⟩ := fin_ok hp
        exact q2 v F' H' (S0.exit ok S') (rs_exit S0 ok S' r e0)
end
end DL
set_option Elab.async false
set_option linter.all false
set_option maxRecDepth 100000
set_option maxHeartbeats 4000000
namespace DL
open PySem PySem.Spec PyProof.Rows L2

/-! ### walks over lists and tuples, alike -/
inductive Src where
  | l (a : Addr) | t (a : Addr)
def Src.ad : Src → Addr
  | .l a => a
  | .t a => a
def SqS (K : PySem.W.Frag) (H : Hp) (s : Src) (xs : List V) : Prop :=
  match s with
  | .l a => SqL K H a xs
  | .t a => SqT K H a xs
def itS (h : Heap) (it : Addr) (i : Nat) (s : Src) : Prop :=
  match s with
  | .l a => h.IsListIter it a i
  | .t a => h.IsTupleIter it a i
def atS (h : Heap) (s : Src) (its : Array Value) : Prop :=
  match s with
  | .l a => h.IsList a its
  | .t a => h.IsTuple a its
def itO (s : Src) : Obj :=
  match s with
  | .l a => { cls := .type "list_iterator", data := .fields #[.ref a, .int 0 0] }
  | .t a => { cls := .type "tuple_iterator", data := .fields #[.ref a, .int 0 0] }
theorem begS (s : Src) (its : Array Value) : Begins (.ref s.ad) (itO s) fun h => atS h s its := by
  cases s with
  | l a => exact begins_list a its
  | t a => exact begins_tuple a its
theorem drawS {prog : Program} {w : World} {A : Around} (hh : A.handled = none) (it : Addr) (s : Src) (hne : s.ad ≠ it) (its : Array Value) :
    Draws prog w A it [it, s.ad] its.size (fun i v => its[i]? = some v) (fun i h => itS h it i s ∧ atS h s its) := by
  cases s with
  | l a => exact Draws.list hh it a hne its
  | t a => exact Draws.tuple hh it a hne its
theorem itS_first {h : Heap} {it : Addr} {s : Src} (e : h.get? it = some (itO s)) : itS h it 0 s := by
  cases s with
  | l a => exact ⟨_, e, rfl, rfl⟩
  | t a => exact ⟨_, e, rfl, rfl⟩
theorem itS_obj {h : Heap} {it : Addr} {i : Nat} {s : Src} (e : itS h it i s) : ∃ o, h.get? it = some o ∧ ∀ v, o.data ≠ .cell v := by
  cases s with
  | l a => obtain ⟨o, h1, _, h2⟩ := e; exact ⟨o, h1, fun v q => by rw [h2] at q; cases q⟩
  | t a => obtain ⟨o, h1, _, h2⟩ := e; exact ⟨o, h1, fun v q => by rw [h2] at q; cases q⟩
theorem itS_at {h h' : Heap} {it : Addr} {i : Nat} {s : Src} (e : itS h it i s) (k : ∀ o, h.get? it = some o → h'.get? it = some o) : itS h' it i s := by
  cases s with
  | l a => exact Heap.IsListIter.at e k
  | t a => exact Heap.IsTupleIter.at e k
section
variable {X : Cx} {pins : List (Addr × Obj)} {σ : L2.St} {H : Hp} {s : Shared} {src : Src} {xs ys : List V}
theorem Inv.srcAt (I : Inv X pins σ H s) (h : SqS X.K H src xs) : ∃ its : List Value, Vals xs its ∧ atS s.heap src its.toArray ∧ src.ad < s.heap.objs.size := by
  cases src with
  | l a =>
    obtain ⟨its, r, p, _⟩ := I.list h
    exact ⟨its, r, p.isList, p.lt⟩
  | t a =>
    obtain ⟨its, r, p, _⟩ := I.tuple h
    exact ⟨its, r, p, by obtain ⟨o, ho, _⟩ := p; exact Heap.lt_size ho⟩
theorem Inv.src_inj (I : Inv X pins σ H s) (h : SqS X.K H src xs) (h' : SqS X.K H src ys) : xs = ys := by
  cases src with
  | l a => exact I.list_inj h h'
  | t a => exact I.tuple_inj h h'
end
theorem same_sqS {K : PySem.W.Frag} {H H' : Hp} {s : Src} {xs : List V} (e : Same H H') (h : SqS K H s xs) : SqS K H' s xs := by
  cases s with
  | l a => exact Same.seq e h
  | t a => exact same_sqT e h
theorem Sh.src {K : PySem.W.Frag} {F H : Hp} {v : V} {d : PyData} {ds : List PyData} (e : Same F H) (h : Sh K F H v d) (q : seqOf d = some ds) : ∃ src xs, v = .ref (Src.ad src) ∧ SqS K H src xs ∧ RpL K F xs ds := by
  rcases seqOf_ok q h with h | h
  · obtain ⟨a, xs, rfl, h1, h2⟩ := h
    exact ⟨.l a, xs, rfl, .inl h1, h2⟩
  · obtain ⟨a, xs, rfl, h1, h2⟩ := h.tup e
    exact ⟨.t a, xs, rfl, h1, h2⟩

/-! ### one source -/
def Its1 (K : PySem.W.Frag) (s : Src) : It :=
  match s with
  | .l a => Itl K a
  | .t a => Itt K a
def iSeq (K : PySem.W.Frag) (tl : TE) : TI := fun σ H R => tl σ H fun x H1 => ∃ src xs, x = .ref (Src.ad src) ∧ SqS K H1 src xs ∧ R (Its1 K src) H1
theorem pi_seq {X : Cx} {tg l : Expr} {tl : TE} (hl : PE X l tl) : PI X tg l (iSeq X.K tl) := by
  refine ⟨fun pins s σ H R I h => ?_⟩
  refine L2.thn (hl.run pins s σ H _ I h) fun v s1 ⟨x, H1, I1, r1, q1⟩ => ?_
  obtain ⟨src, xs, ex, hq, q⟩ := q1
  subst ex
  cases r1
  have fpk : ∀ b ∈ [s1.heap.objs.size], FpOk X pins H1 b := fun b hb => by
    have eb : b = s1.heap.objs.size := by simpa using hb
    subst eb
    exact I1.fpOk (Nat.le_refl _) (I1.hok.fresh (Nat.le_refl _))
  have Ik := fun (o : Obj) => I1.kept (h' := s1.heap.push o) (t' := s1.toks) fun b u z => Heap.get?_push_of_some _ z
  cases src with
  | l a =>
    obtain ⟨its, rv, p, _⟩ := I1.list hq
    exact wpAny_pyIter_list p.isList ⟨s1.heap.objs.size, [s1.heap.objs.size], _, _, H1, rfl, Ik _, turn_list a _, ⟨_, Heap.get?_push_size _ rfl, rfl, rfl⟩, fpk, q⟩
  | t a =>
    obtain ⟨its, rv, p, _⟩ := I1.tuple hq
    exact wpAny_pyIter_tuple (show s1.heap.IsTuple a its.toArray from p) ⟨s1.heap.objs.size, [s1.heap.objs.size], _, _, H1, rfl, Ik _, turn_tuple a _, ⟨_, Heap.get?_push_size _ rfl, rfl, rfl⟩, fpk, q⟩

/-! ### zip of two, enumerate -/
def ItzS (K : PySem.W.Frag) (a b : Src) : It :=
  ⟨fun i H => ∃ (xs ys : List V) (x y : V), SqS K H a xs ∧ SqS K H b ys ∧ xs[i]? = some x ∧ ys[i]? = some y,
    fun i H v H' => ∃ T x y, v = .ref T ∧ H T = none ∧ H' = upd H T (.tup [x, y]) ∧ (∀ xs, SqS K H a xs → xs[i]? = some x) ∧ ∀ ys, SqS K H b ys → ys[i]? = some y,
    fun i H => ∃ xs ys : List V, SqS K H a xs ∧ SqS K H b ys ∧ i = min xs.length ys.length⟩
theorem turn_zipS {P : Program} {w : World} {K : PySem.W.Frag} {elts : List Expr} {kk : Nat} {tpos : Pos} {a b : Src} {z TI TO i1 i2 : Addr} (D : ZipSep2 z TI TO i1 i2 [i1, a.ad] [i2, b.ad]) (n1 : a.ad ≠ i1) (n2 : b.ad ≠ i2) :
    Turn P w K (.Tuple elts kk tpos) (ItzS K a b) [z, TI, TO, i1, i2] z (fun i h => IsZip h z TI TO .none ∧ IsTupOf2 h TI (.ref i1) (.ref i2) ∧ (∃ x y, IsTupOf2 h TO x y) ∧ itS h i1 i a ∧ itS h i2 i b) where
  mem := by simp
  obj := fun i h st c hc => by
    obtain ⟨hz, hTI, ⟨x, y, hTO⟩, h1, h2⟩ := st
    simp only [List.mem_cons, List.not_mem_nil, or_false] at hc
    rcases hc with rfl | rfl | rfl | rfl | rfl
    · exact ⟨_, hz, fun v q => by cases q⟩
    · exact ⟨_, hTI, fun v q => by cases q⟩
    · exact ⟨_, hTO, fun v q => by cases q⟩
    · exact itS_obj h1
    · exact itS_obj h2
  keep := fun i h h' st k => by
    obtain ⟨hz, hTI, ⟨x, y, hTO⟩, h1, h2⟩ := st
    exact ⟨k z (by simp) _ hz, k TI (by simp) _ hTI, ⟨x, y, k TO (by simp) _ hTO⟩, itS_at h1 fun o q => k i1 (by simp) o q, itS_at h2 fun o q => k i2 (by simp) o q⟩
  item := by
    intro X hP hw hK hc i pins s σ H E I hf st hg
    subst hP hw hK
    obtain ⟨hz, hTI, ⟨x0, y0, hTO⟩, h1, h2⟩ := st
    obtain ⟨xs, ys, x, y, hqx, hqy, hx, hy⟩ := hg
    obtain ⟨its, rv, p, la⟩ := DL.Inv.srcAt I hqx
    obtain ⟨its2, rv2, p2, lb⟩ := DL.Inv.srcAt I hqy
    obtain ⟨u, hu, ru⟩ := rv.get hx
    obtain ⟨u2, hu2, ru2⟩ := rv2.get hy
    have hzl : z < s.heap.objs.size := Heap.lt_size hz
    have hh : X.A.in1.handled = none := I.ok.hd hc
    refine wpAny_pyNext_zipD2_item D (drawS hh i1 a n1 its.toArray) (drawS hh i2 b n2 its2.toArray) hz hTI hTO ⟨h1, p⟩ ⟨h2, p2⟩ (by simpa using (List.getElem?_eq_some_iff.mp hu).1) (by simpa using (List.getElem?_eq_some_iff.mp hu2).1) fun x1 x2 h' tk ex1 ex2 z' TO' s1' s2' hT hsz hk => ?_
    have ex1' : x1 = u := by
      rw [show its.toArray[i]? = some u by simpa using hu] at ex1
      exact (Option.some.inj ex1).symm
    have ex2' : x2 = u2 := by
      rw [show its2.toArray[i]? = some u2 by simpa using hu2] at ex2
      exact (Option.some.inj ex2).symm
    subst ex1' ex2'
    refine ⟨_, rfl, wpAny_letOwnedTupleGo_zip (s := { s with heap := h', toks := tk }) z' fun h'' z'' sb => ?_⟩
    have zs : ∀ c, c ∈ [z, TI, TO, i1, i2] → c < s.heap.objs.size := fun c hcm => by
      simp only [List.mem_cons, List.not_mem_nil, or_false] at hcm
      rcases hcm with rfl | rfl | rfl | rfl | rfl
      · exact hzl
      · exact Heap.lt_size hTI
      · exact Heap.lt_size hTO
      · obtain ⟨_, e1, _⟩ := itS_obj h1; exact Heap.lt_size e1
      · obtain ⟨_, e2, _⟩ := itS_obj h2; exact Heap.lt_size e2
    have hT2 : h''.get? s.heap.objs.size = some { cls := .type "tuple", data := .seq #[x1, x2] } := (sb.2 _ (Nat.ne_of_gt hzl)).trans hT
    have nw : ObjOk X.prog X.w (upd H s.heap.objs.size (.tup [x, y])) h'' s.heap.objs.size (.tup [x, y]) :=
      ⟨by show 2 ≤ sizeLine; decide, [x1, x2], .cons ru (.cons ru2 .nil), ⟨_, hT2, rfl, _, rfl⟩⟩
    have I1 : Inv X pins σ (upd H s.heap.objs.size (.tup [x, y])) { s with heap := h'', toks := tk } :=
      I.turnedNew (t' := tk) (ch := [z, TI, TO, i1, i2]) (fun c o hb q => by
        simp only [List.mem_cons, List.not_mem_nil, or_false, not_or] at hb
        exact (sb.2 c hb.1).trans (hk c o hb.1 hb.2.2.1 hb.2.2.2.1 hb.2.2.2.2 q)) hf (Nat.le_refl _) nw
    refine ⟨.ref s.heap.objs.size, _, I1, rfl, ⟨_, x, y, rfl, I.hok.fresh (Nat.le_refl _), rfl, fun l hl => by rw [DL.Inv.src_inj I hl hqx]; exact hx, fun l hl => by rw [DL.Inv.src_inj I hl hqy]; exact hy⟩, ⟨z'', ?_, ⟨x1, x2, ?_⟩, ?_, ?_⟩, fun c hcm => ?_⟩
    · exact (sb.2 _ D.TIz).trans (hk _ _ D.TIz D.TITO D.TIi1 D.TIi2 hTI)
    · exact (sb.2 _ D.TOz).trans TO'
    · exact itS_at s1'.1 fun o q => (sb.2 _ (Ne.symm D.zi1)).trans q
    · exact itS_at s2'.1 fun o q => (sb.2 _ (Ne.symm D.zi2)).trans q
    · rw [upd_ne (Nat.ne_of_lt (zs c hcm))]
      exact (hf c hcm).1
  done := by
    intro X hP hw hK hc i pins s σ H E I hf st hg
    subst hP hw hK
    obtain ⟨hz, hTI, ⟨x0, y0, hTO⟩, h1, h2⟩ := st
    obtain ⟨xs, ys, hqx, hqy, hend⟩ := hg
    obtain ⟨its, rv, p, la⟩ := DL.Inv.srcAt I hqx
    obtain ⟨its2, rv2, p2, lb⟩ := DL.Inv.srcAt I hqy
    have l1 := rv.length
    have l2 := rv2.length
    have hh : X.A.in1.handled = none := I.ok.hd hc
    exact wpAny_pyNext_zipD2_end D (drawS hh i1 a n1 its.toArray) (drawS hh i2 b n2 its2.toArray) hz hTI hTO ⟨h1, p⟩ ⟨h2, p2⟩ (by simp; omega) (by simp; omega) (by simp; omega) fun h' tk hk =>
      ⟨rfl, I.turnedL (t' := tk) (ch := [z, TI, TO, i1, i2]) (fun c o hb q => by
        simp only [List.mem_cons, List.not_mem_nil, or_false, not_or] at hb
        exact hk c o hb.1 hb.2.2.1 hb.2.2.2.1 hb.2.2.2.2 q) hf⟩
  self := fun A i s Q E st h => wpAny_pyIter_zip st.1 h
def iZipS (K : PySem.W.Frag) (ta : TA) : TI := fun σ H R => ta σ H fun vs H1 => ∃ a b xs ys, vs = [.ref (Src.ad a), .ref (Src.ad b)] ∧ SqS K H1 a xs ∧ SqS K H1 b ys ∧ R (ItzS K a b) H1
theorem pi_zipS {X : Cx} {e e2 : Expr} {ta : TA} {p pos tpos : Pos} {elts : List Expr} {kk : Nat} (hg : Gl X "zip") (hm : X.mg "zip" = none) (ha : PA X [e, e2] ta)
    (hs : starEach [e, e2] X.env = (false, eval e X.env) :: starEach [e2] X.env := by rfl) (hpl : (backTo pos (starEach [e2] X.env)).any (·.1) = false := by rfl) :
    PI X (.Tuple elts kk tpos) (.Call (.Name "zip" p) [e, e2] [] pos) (iZipS X.K ta) := by
  refine ⟨fun pins s σ H R I h => ?_⟩
  refine Call_ (ld_blt I hg hm PyProof.Rows.boot_zip (PyProof.Rows.callWith_type1 (L2.thn (ha.run pos pins s σ H _ I h) fun us s1 ⟨vs, H1, I1, r1, q1⟩ => ?_) hs hpl))
  obtain ⟨a, b, xs, ys, ex, hqx, hqy, q⟩ := q1
  subst ex
  obtain ⟨w1, w2, rfl, r2, r3⟩ := vals2 r1
  cases r2
  cases r3
  obtain ⟨its, rv, p1, la⟩ := DL.Inv.srcAt I1 hqx
  obtain ⟨its2, rv2, p2, lb⟩ := DL.Inv.srcAt I1 hqy
  refine zip_begins2 (begS a its.toArray) (begS b its2.toArray) p1 p2 fun h' hz hTI hTO h1 h2 hsz hk => wpAny_pyIter_zip hz ?_
  have I2 : Inv X pins σ H1 { s1 with heap := h' } := I1.kept (t' := s1.toks) hk
  refine ⟨s1.heap.objs.size + 4, [s1.heap.objs.size + 4, s1.heap.objs.size + 2, s1.heap.objs.size + 3, s1.heap.objs.size, s1.heap.objs.size + 1], _, _, H1, rfl, I2,
    turn_zipS (zip_sep2 (fun b hb => by simp at hb; subst hb; exact la) (fun b hb => by simp at hb; subst hb; exact lb)) (Nat.ne_of_lt la) (Nat.ne_of_lt (Nat.lt_succ_of_lt lb)), ⟨hz, hTI, ⟨_, _, hTO⟩, itS_first h1, itS_first h2⟩, fun c hcm => ?_, q⟩
  have hle : s1.heap.objs.size ≤ c := by
    simp only [List.mem_cons, List.not_mem_nil, or_false] at hcm
    rcases hcm with z | z | z | z | z
    · rw [z]; exact Nat.le_add_right _ _
    · rw [z]; exact Nat.le_add_right _ _
    · rw [z]; exact Nat.le_add_right _ _
    · rw [z]; exact Nat.le_refl _
    · rw [z]; exact Nat.le_add_right _ _
  exact I1.fpOk hle (I1.hok.fresh hle)
def IteS (K : PySem.W.Frag) (a : Src) : It :=
  ⟨fun i H => ∃ (xs : List V) (x : V), SqS K H a xs ∧ xs[i]? = some x, fun i H v H' => ∃ T x, v = .ref T ∧ H T = none ∧ H' = upd H T (.tup [.int (i : Nat), x]) ∧ ∀ xs, SqS K H a xs → xs[i]? = some x, fun i H => ∃ xs : List V, SqS K H a xs ∧ i = xs.length⟩
theorem turn_enumS {P : Program} {w : World} {K : PySem.W.Frag} {elts : List Expr} {kk : Nat} {tpos : Pos} {a : Src} {e it : Addr} (n1 : a.ad ≠ it) (n2 : e ≠ it) (n3 : e ≠ a.ad) :
    Turn P w K (.Tuple elts kk tpos) (IteS K a) [e, it] e (fun i h => (∃ old, IsEnum h e it ((i : Nat) : Int) old) ∧ itS h it i a) where
  mem := by simp
  obj := fun i h st b hb => by
    obtain ⟨⟨old, he⟩, hi⟩ := st
    simp only [List.mem_cons, List.not_mem_nil, or_false] at hb
    rcases hb with rfl | rfl
    · exact ⟨_, he, fun v q => by cases q⟩
    · exact itS_obj hi
  keep := fun i h h' st k => by
    obtain ⟨⟨old, he⟩, hi⟩ := st
    exact ⟨⟨old, k e (by simp) _ he⟩, itS_at hi fun o q => k it (by simp) o q⟩
  item := by
    intro X hP hw hK hc i pins s σ H E I hf st hg
    subst hP hw hK
    obtain ⟨⟨old, he⟩, hit⟩ := st
    obtain ⟨xs, x, hq, hx⟩ := hg
    obtain ⟨its, rv, p, la⟩ := DL.Inv.srcAt I hq
    obtain ⟨u, hu, ru⟩ := rv.get hx
    have hel : e < s.heap.objs.size := Heap.lt_size he
    have hil : it < s.heap.objs.size := by obtain ⟨_, q, _⟩ := itS_obj hit; exact Heap.lt_size q
    have hh : X.A.in1.handled = none := I.ok.hd hc
    refine wpAny_pyNext_enum_itemD (drawS hh it a n1 its.toArray) he ⟨hit, p⟩ (by simpa using (List.getElem?_eq_some_iff.mp hu).1) n2 (by simp [n2, n3]) fun x1 h' tk ex1 ho s1' hT hsz hk => ?_
    have ex1' : x1 = u := by
      rw [show its.toArray[i]? = some u by simpa using hu] at ex1
      exact (Option.some.inj ex1).symm
    subst ex1'
    refine ⟨_, rfl, wpAny_letOwnedTupleGo_enum (s := { s with heap := h', toks := tk + 1 }) ho fun h'' he' sb => ?_⟩
    have hT2 : h''.get? s.heap.objs.size = some { cls := .type "tuple", data := .seq #[.int i tk, x1] } := (sb.2 _ (Nat.ne_of_gt hel)).trans hT
    have nw : ObjOk X.prog X.w (upd H s.heap.objs.size (.tup [.int (i : Nat), x])) h'' s.heap.objs.size (.tup [.int (i : Nat), x]) :=
      ⟨by show 2 ≤ sizeLine; decide, [.int i tk, x1], .cons ⟨_, rfl⟩ (.cons ru .nil), ⟨_, hT2, rfl, _, rfl⟩⟩
    have I1 : Inv X pins σ (upd H s.heap.objs.size (.tup [.int (i : Nat), x])) { s with heap := h'', toks := tk + 1 } :=
      I.turnedNew (t' := tk + 1) (ch := [e, it]) (fun b ob hb q => by
        simp only [List.mem_cons, List.not_mem_nil, or_false, not_or] at hb
        exact (sb.2 b hb.1).trans (hk b ob hb.1 hb.2 q)) hf (Nat.le_refl _) nw
    refine ⟨.ref s.heap.objs.size, _, I1, rfl, ⟨_, x, rfl, I.hok.fresh (Nat.le_refl _), rfl, fun l hl => by rw [DL.Inv.src_inj I hl hq]; exact hx⟩, ⟨⟨x1, ?_⟩, itS_at s1'.1 fun o q => (sb.2 it (Ne.symm n2)).trans q⟩, fun b hb => ?_⟩
    · have e1 : ((i + 1 : Nat) : Int) = (i : Int) + 1 := by omega
      rw [e1]; exact he'
    · have hb' : b < s.heap.objs.size := by
        simp only [List.mem_cons, List.not_mem_nil, or_false] at hb
        rcases hb with z | z
        · rw [z]; exact hel
        · rw [z]; exact hil
      rw [upd_ne (Nat.ne_of_lt hb')]
      exact (hf b hb).1
  done := by
    intro X hP hw hK hc i pins s σ H E I hf st hg
    subst hP hw hK
    obtain ⟨⟨old, he⟩, hit⟩ := st
    obtain ⟨xs, hq, hx⟩ := hg
    obtain ⟨its, rv, p, la⟩ := DL.Inv.srcAt I hq
    obtain ⟨f0, f1, f2, f3, f4, f5⟩ := hf it (by simp)
    have hl := rv.length
    have hh : X.A.in1.handled = none := I.ok.hd hc
    have ei : i = its.toArray.size := by simp; omega
    exact wpAny_pyNext_enum_endD (drawS hh it a n1 its.toArray) he ⟨by rw [← ei]; exact hit, p⟩ fun h' eb => ⟨rfl, I.turned (t' := s.toks) (fun b o hb q => eb b o hb q) f0 f1 f3 f4 f5⟩
  self := fun A i s Q E st h => by
    obtain ⟨⟨_, he⟩, _⟩ := st
    exact wpAny_pyIter_enum he h

/-! ### enumerate(v), v any source -/
set_option maxHeartbeats 4000000 in
theorem meets_enumB {v : Value} {o : Obj} {B : Heap → Prop} (bg : Begins v o B) :
    Meets (Builtin.«enumerate.__new__» ⟨[.type "enumerate", v], []⟩) (fun _ R s => B s.heap ∧
      R (.ok (.ret (.ref (s.heap.push o).objs.size))) { s with heap := (s.heap.push o).push { cls := .type "enumerate", data := .fields #[.none, .bool false, .ref s.heap.objs.size, rawInt 0, .none, .none] } }) :=
  .of_wp fun prog w A R s z => by
    obtain ⟨hp, g, d, tk, os⟩ := s
    obtain ⟨z1, z2⟩ := z
    have hsub := sub_enumerate
    have road : ∀ {A' : Around} {E : Value → Shared → Prop} {Q : Value → Shared → Prop}, Q (.ref hp.objs.size) ⟨hp.push o, g, d, tk, os⟩ → wpAny (model prog w) A' (pyIter v) Q E ⟨hp, g, d, tk, os⟩ :=
      fun q => bg.iter prog w _ _ ⟨hp, g, d, tk, os⟩ _ z1 q
    wp_walk using road
    refine wpAny_stack_any fun st => wpAny_pure ?_
    split
    · rename_i c _ _ _ _ _
      cases (c == Value.type "enumerate")
      · wp_walk using road
        exact ⟨_, rfl, z2⟩
      · wp_walk using road
        exact ⟨_, rfl, z2⟩
    · wp_walk using road
      exact ⟨_, rfl, z2⟩
theorem call_enumB {prog : Program} {w : World} {A : Around} {E : Value → Shared → Prop} {s : Shared} {v : Value} {o : Obj} {B : Heap → Prop} {Q : Value → Shared → Prop} (bg : Begins v o B) (h1 : B s.heap)
    (h : ∀ h', IsEnum h' (s.heap.objs.size + 1) s.heap.objs.size 0 .none → h'.get? s.heap.objs.size = some o → (∀ b u, s.heap.get? b = some u → h'.get? b = some u) → Q (.ref (s.heap.objs.size + 1)) { s with heap := h' }) :
    wpAny (model prog w) A (call (.type "enumerate") [v]) Q E s := by
  refine callType_new F.called_enumerate (by decide) (F.typeCall_enumerate_1 _) (F.newCall_enumerate_1 _) (fun obj => F.args_object_init_2 obj _) F.entry_enumerate_new (meets_enumB bg) ⟨h1, ?_⟩
  have hz : (s.heap.push o).objs.size = s.heap.objs.size + 1 := Heap.size_push ..
  show _ ∧ _
  rw [hz]
  have he : ((s.heap.push o).push { cls := .type "enumerate", data := .fields #[.none, .bool false, .ref s.heap.objs.size, rawInt 0, .none, .none] }).get? (s.heap.objs.size + 1) = some { cls := .type "enumerate", data := .fields #[.none, .bool false, .ref s.heap.objs.size, rawInt 0, .none, .none] } := by
    rw [← hz]
    exact Heap.get?_push_size _ rfl
  exact ⟨⟨_, he, rfl⟩, h _ he (Heap.get?_push_of_some _ (Heap.get?_push_size _ bg.free)) fun b u x => Heap.get?_push_of_some _ (Heap.get?_push_of_some _ x)⟩
def iEnumS (K : PySem.W.Frag) (ta : TA) : TI := fun σ H R => ta σ H fun vs H1 => ∃ a xs, vs = [.ref (Src.ad a)] ∧ SqS K H1 a xs ∧ R (IteS K a) H1
theorem pi_enumS {X : Cx} {e : Expr} {ta : TA} {p pos tpos : Pos} {elts : List Expr} {kk : Nat} (hg : Gl X "enumerate") (hm : X.mg "enumerate" = none) (ha : PA X [e] ta) (hs : starEach [e] X.env = [(false, eval e X.env)] := by rfl) :
    PI X (.Tuple elts kk tpos) (.Call (.Name "enumerate" p) [e] [] pos) (iEnumS X.K ta) := by
  refine ⟨fun pins s σ H R I h => ?_⟩
  refine Call_ (ld_blt I hg hm boot_enumerate (PyProof.Rows.callWith_type1 (L2.thn (ha.run pos pins s σ H _ I h) fun us s1 ⟨vs, H1, I1, r1, q1⟩ => ?_) hs rfl))
  obtain ⟨a, xs, ex, hqx, q⟩ := q1
  subst ex
  obtain ⟨w1, rfl, r2⟩ := vals1 r1
  cases r2
  obtain ⟨its, rv, p1, la⟩ := DL.Inv.srcAt I1 hqx
  refine call_enumB (begS a its.toArray) p1 fun h' he h1 hk => wpAny_pyIter_enum he ?_
  have I2 : Inv X pins σ H1 { s1 with heap := h' } := I1.kept (t' := s1.toks) hk
  refine ⟨s1.heap.objs.size + 1, [s1.heap.objs.size + 1, s1.heap.objs.size], _, _, H1, rfl, I2, turn_enumS (Nat.ne_of_lt la) (Nat.succ_ne_self _) (Nat.ne_of_gt (Nat.lt_succ_of_lt la)), ⟨⟨.none, he⟩, itS_first h1⟩, fun c hcm => ?_, q⟩
  have hle : s1.heap.objs.size ≤ c := by
    simp only [List.mem_cons, List.not_mem_nil, or_false] at hcm
    rcases hcm with z | z
    · rw [z]; exact Nat.le_add_right _ _
    · rw [z]; exact Nat.le_refl _
  exact I1.fpOk hle (I1.hok.fresh hle)
end DL
set_option Elab.async false
set_option linter.all false
set_option maxRecDepth 100000
set_option maxHeartbeats 4000000
namespace DL
open PySem PySem.Spec PyProof.Rows L2

/-! ### what is walked, by deep values -/
def ItY (K : PySem.W.Frag) (F : Hp) (ds : List PyData) : Nat → Hp → V → Hp → Prop := fun i H x H' =>
  ∃ d, ds[i]? = some d ∧ ((H' = H ∧ Rp K F x d) ∨ ∃ T xs es, x = .ref T ∧ H T = none ∧ H' = upd H T (.tup xs) ∧ d = .tuple es ∧ RpL K F xs es)
def ItOk (K : PySem.W.Frag) (J : It) (F : Hp) (ds : List PyData) : Prop := Walk J ds.length (fun H => Same F H) (ItY K F ds)
abbrev FI := EnvD → M (List PyData × EnvD)
def PostI (K : PySem.W.Frag) (mg : Str → Option Value) (W : WX) (G O : Hp) (P : Nat → Option Addr) (ts : List (Sl × V)) (σ : L2.St) (R : It → Hp → Prop) : M (List PyData × EnvD) → Prop
  | none => False
  | some (.ok (ds, env')) => ∀ J F' H', SR K G O P ts env' σ F' H' → ItOk K J F' ds → R J H'
  | some (.err c env') => PErr K mg W G O P σ c env'
def SndI (K : PySem.W.Frag) (mg : Str → Option Value) (W : WX) (wi : TI) (f : FI) : Prop :=
  ∀ G O P ts env σ F H R, SR K G O P ts env σ F H → PostI K mg W G O P ts σ R (f env) → wi σ H R
structure DI (X : Cx) (W : WX) (tg iter : Expr) (f : FI) : Prop where
  ex : ∃ wi, PI X tg iter wi ∧ SndI X.K X.mg W wi f

/-! ### forms -/
def seqI (fa : FE) : FI := fun env => M.bind (fa env) fun p => match frz1 (fz p.1) p.2 with
  | some q => match seqOf q.1 with
    | some ds => M.ok (ds, q.2)
    | none => none
  | none => none
def rngL (lo : Int) : Nat → List PyData
  | 0 => []
  | n + 1 => .int lo :: rngL (lo + 1) n
def smallI (i : Int) : Bool := decide (-1000000 ≤ i) && decide (i ≤ 1000000)
def rng1I (ds : List PyData) : Option (List PyData) :=
  match ds with
  | [.int j] => if smallI j = true then some (rngL 0 j.toNat) else none
  | _ => none
def rng2I (ds : List PyData) : Option (List PyData) :=
  match ds with
  | [.int i, .int j] => if smallI i = true ∧ smallI j = true then some (rngL i (j - i).toNat) else none
  | _ => none
def pairL : List PyData → List PyData → List PyData
  | a :: as, b :: bs => .tuple [a, b] :: pairL as bs
  | _, _ => []
def numL (n : Nat) : List PyData → List PyData
  | [] => []
  | a :: as => .tuple [.int (n : Nat), a] :: numL (n + 1) as
def argI (g : List PyData → Option (List PyData)) (f : FA) : FI := fun env => M.bind (fzA f env) fun p => match g p.1 with
  | some ds => M.ok (ds, p.2)
  | none => none
def zipI (ds : List PyData) : Option (List PyData) :=
  match ds with
  | [a, b] => match seqOf a with
    | some xs => match seqOf b with
      | some ys => some (pairL xs ys)
      | none => none
    | none => none
  | _ => none
def enumI (ds : List PyData) : Option (List PyData) :=
  match ds with
  | [a] => match seqOf a with
    | some xs => some (numL 0 xs)
    | none => none
  | _ => none

theorem rngL_len (lo : Int) : ∀ n : Nat, (rngL lo n).length = n := fun n => by
  induction n generalizing lo with
  | zero => rfl
  | succ n ih => simp [rngL, ih]
theorem rngL_at (lo : Int) : ∀ (n i : Nat), i < n → (rngL lo n)[i]? = some (.int (lo + i)) := fun n => by
  induction n generalizing lo with
  | zero => intro i h; omega
  | succ n ih =>
    intro i h
    cases i with
    | zero => simp [rngL]
    | succ i =>
      simp only [rngL, List.getElem?_cons_succ]
      rw [ih (lo + 1) i (by omega), show lo + 1 + (i : Int) = lo + ((i + 1 : Nat) : Int) by omega]
theorem pairL_len : ∀ (as bs : List PyData), (pairL as bs).length = min as.length bs.length
  | [], bs => by simp [pairL]
  | a :: as, [] => by simp [pairL]
  | a :: as, b :: bs => by simp [pairL, pairL_len as bs]
theorem pairL_at : ∀ (as bs : List PyData) (i : Nat) (a b : PyData), as[i]? = some a → bs[i]? = some b → (pairL as bs)[i]? = some (.tuple [a, b])
  | [], bs, i, a, b, h, _ => by simp at h
  | a :: as, [], i, _, b, _, h => by simp at h
  | a :: as, b :: bs, 0, x, y, h, h' => by simp at h h'; subst h h'; rfl
  | a :: as, b :: bs, i + 1, x, y, h, h' => by
    simp only [pairL, List.getElem?_cons_succ]
    exact pairL_at as bs i x y (by simpa using h) (by simpa using h')
theorem numL_len : ∀ (n : Nat) (as : List PyData), (numL n as).length = as.length
  | n, [] => rfl
  | n, a :: as => by simp [numL, numL_len (n + 1) as]
theorem numL_at : ∀ (n : Nat) (as : List PyData) (i : Nat) (a : PyData), as[i]? = some a → (numL n as)[i]? = some (.tuple [.int ((n + i : Nat) : Int), a])
  | n, [], i, a, h => by simp at h
  | n, a :: as, 0, x, h => by simp at h; subst h; rfl
  | n, a :: as, i + 1, x, h => by
    simp only [numL, List.getElem?_cons_succ]
    rw [numL_at (n + 1) as i x (by simpa using h), show n + 1 + i = n + (i + 1) by omega]
theorem Rp.src {K : PySem.W.Frag} {F : Hp} {v : V} {d : PyData} {ds : List PyData} (h : Rp K F v d) (q : seqOf d = some ds) : ∃ src xs, v = .ref (Src.ad src) ∧ SqS K F src xs ∧ RpL K F xs ds := (Rp.sh (Same.refl F) h).src (Same.refl F) q
section
variable {K : PySem.W.Frag} {F : Hp} {src src2 : Src} {xs ys : List V} {ds es : List PyData}
theorem it_seq (q : SqS K F src xs) (r : RpL K F xs ds) : ItOk K (Its1 K src) F ds := by
  have hl := r.length
  refine ⟨fun i H hi s => ?_, fun H s => ?_, fun i H x H' hi s y => ?_⟩
  · have : i < xs.length := by omega
    cases src with
    | l a => exact ⟨xs, xs[i], same_sqS s q, by simp [this]⟩
    | t a => exact ⟨xs, xs[i], same_sqS s q, by simp [this]⟩
  · cases src with
    | l a => exact ⟨xs, same_sqS s q, by omega⟩
    | t a => exact ⟨xs, same_sqS s q, by omega⟩
  · have z : H' = H ∧ xs[i]? = some x := by
      cases src with
      | l a => exact ⟨y.1, y.2 xs (same_sqS s q)⟩
      | t a => exact ⟨y.1, y.2 xs (same_sqS s q)⟩
    obtain ⟨d, e1, e2⟩ := r.getV z.2
    exact ⟨d, e1, .inl ⟨z.1, e2⟩⟩
theorem it_rng (lo : Int) (n : Nat) : ItOk K (Itr lo n) F (rngL lo n) := by
  refine ⟨fun i H hi s => by rw [rngL_len] at hi; exact hi, fun H s => by rw [rngL_len]; exact Nat.le_refl _, fun i H x H' hi s y => ?_⟩
  rw [rngL_len] at hi
  obtain ⟨rfl, rfl⟩ := y
  exact ⟨_, rngL_at lo n i hi, .inl ⟨rfl, .int _⟩⟩
theorem it_zip (q : SqS K F src xs) (q2 : SqS K F src2 ys) (r : RpL K F xs ds) (r2 : RpL K F ys es) : ItOk K (ItzS K src src2) F (pairL ds es) := by
  have hl := r.length
  have hl2 := r2.length
  refine ⟨fun i H hi s => ?_, fun H s => ?_, fun i H x H' hi s y => ?_⟩
  · rw [pairL_len] at hi
    have h1 : i < xs.length := by omega
    have h2 : i < ys.length := by omega
    exact ⟨xs, ys, xs[i], ys[i], same_sqS s q, same_sqS s q2, by simp [h1], by simp [h2]⟩
  · exact ⟨xs, ys, same_sqS s q, same_sqS s q2, by rw [pairL_len, hl, hl2]⟩
  · obtain ⟨T, x1, x2, rfl, h1, rfl, h2, h3⟩ := y
    obtain ⟨d1, e1, f1⟩ := r.getV (h2 xs (same_sqS s q))
    obtain ⟨d2, e2, f2⟩ := r2.getV (h3 ys (same_sqS s q2))
    exact ⟨_, pairL_at ds es i d1 d2 e1 e2, .inr ⟨T, _, _, rfl, h1, rfl, rfl, .cons f1 (.cons f2 .nil)⟩⟩
theorem it_enum (q : SqS K F src xs) (r : RpL K F xs ds) : ItOk K (IteS K src) F (numL 0 ds) := by
  have hl := r.length
  refine ⟨fun i H hi s => ?_, fun H s => ?_, fun i H x H' hi s y => ?_⟩
  · rw [numL_len] at hi
    have h1 : i < xs.length := by omega
    exact ⟨xs, xs[i], same_sqS s q, by simp [h1]⟩
  · exact ⟨xs, same_sqS s q, by rw [numL_len, hl]⟩
  · obtain ⟨T, x1, rfl, h1, rfl, h2⟩ := y
    obtain ⟨d1, e1, f1⟩ := r.getV (h2 xs (same_sqS s q))
    refine ⟨_, numL_at 0 ds i d1 e1, .inr ⟨T, _, _, rfl, h1, rfl, rfl, .cons ?_ (.cons f1 .nil)⟩⟩
    rw [Nat.zero_add]
    exact .int _
end

section
variable {X : Cx} {W : WX} {e a b c tg iter elt : Expr} {es rest : List Expr} {f fa fb fc : FE} {pos : Pos} {x y : Str} {p tpos : Pos} {st : Stmt} {sts : List Stmt} {u v : FS}
theorem SndE.walked {K : PySem.W.Frag} {mg : Str → Option Value} {G O F H : Hp} {P : Nat → Option Addr} {ts : List (Sl × V)} {env : EnvD} {σ : L2.St} {t : TE} (h : SndE K mg W t f) {R : VK} {RI : It → Hp → Prop} {k : PyData → EnvD → M (List PyData × EnvD)} (S : SR K G O P ts env σ F H)
    (hp : PostI K mg W G O P ts σ RI (M.bind (f env) fun p => match frz1 (fz p.1) p.2 with | some q => k q.1 q.2 | none => none))
    (hk : ∀ d env' v F' H', SR K G O P ts env' σ F' H' → Rp K F' v d → PostI K mg W G O P ts σ RI (k d env') → R v H') : t σ H R := by
  refine h G O P ts env σ F H R S ?_
  cases e : f env with
  | none => rw [e] at hp; exact hp
  | some o =>
    rw [e] at hp
    cases o with
    | err c env' => exact hp
    | ok p =>
      intro v F' H' S' r
      obtain ⟨F2, _, S2⟩ := S'.keep r
      change PostI K mg W G O P ts σ RI (match frz1 (fz p.1) p.2 with | some q => k q.1 q.2 | none => none) at hp
      cases q : frz1 (fz p.1) p.2 with
      | none => rw [q] at hp; exact hp.elim
      | some pr =>
        rw [q] at hp
        obtain ⟨F3, _, S3, r3⟩ := S2.frz1 (S2.tmp (fz p.1, v) (by simp)) q
        exact hk pr.1 pr.2 v F3 H' S3.pop r3 hp
theorem SndA.walked {K : PySem.W.Frag} {mg : Str → Option Value} {G O F H : Hp} {P : Nat → Option Addr} {ts : List (Sl × V)} {env : EnvD} {σ : L2.St} {t : TA} {fA : FA} (h : SndA K mg W t fA) {R : List V → Hp → Prop} {RI : It → Hp → Prop} {k : List PyData → EnvD → M (List PyData × EnvD)} (S : SR K G O P ts env σ F H)
    (hp : PostI K mg W G O P ts σ RI (M.bind (fzA fA env) fun p => k p.1 p.2))
    (hk : ∀ ds env' vs F' H', SR K G O P ts env' σ F' H' → RpL K F' vs ds → PostI K mg W G O P ts σ RI (k ds env') → R vs H') : t σ H R := by
  refine h G O P ts env σ F H R S ?_
  unfold fzA at hp
  cases q : fA env with
  | none => rw [q] at hp; exact hp
  | some o =>
    rw [q] at hp
    cases o with
    | err c env' => exact hp
    | ok p =>
      intro vs F' H' hl S'
      change PostI K mg W G O P ts σ RI (M.bind (match frzAll p.1 p.2 with | some q => M.ok q | none => none) fun p => k p.1 p.2) at hp
      cases z : frzAll p.1 p.2 with
      | none => rw [z] at hp; exact hp.elim
      | some r =>
        rw [z] at hp
        obtain ⟨F2, _, S2, r2⟩ := SR.frzAll (vs := vs) S' (fun p hp => List.mem_append_left _ hp) hl z
        exact hk r.1 r.2 vs F2 H' (S2.sub fun p hp => List.mem_append_right _ hp) r2 hp
theorem di_seq (h : DE X W iter f) : DI X W tg iter (seqI f) := by
  obtain ⟨t, p, s⟩ := h.ex
  refine ⟨_, pi_seq p, fun G O P ts env σ F H R S hp => ?_⟩
  refine s.walked (k := fun d env => match seqOf d with | some ds => M.ok (ds, env) | none => none) S hp fun d env' v F' H' S' r hp' => ?_
  cases q : seqOf d with
  | none => rw [q] at hp'; exact hp'.elim
  | some ds =>
    rw [q] at hp'
    obtain ⟨src, xs, rfl, z1, z2⟩ := r.src q
    exact ⟨src, xs, rfl, same_sqS S'.fh z1, hp' _ F' H' S' (it_seq z1 z2)⟩
theorem argI_ok {K : PySem.W.Frag} {mg : Str → Option Value} {G O : Hp} {P : Nat → Option Addr} {ts : List (Sl × V)} {σ : L2.St} {RI : It → Hp → Prop} {o : Option (List PyData)} {env : EnvD} (h : PostI K mg W G O P ts σ RI (match o with | some ds => M.ok (ds, env) | none => none)) :
    ∃ ds, o = some ds ∧ ∀ J F' H', SR K G O P ts env σ F' H' → ItOk K J F' ds → RI J H' := by
  cases o with
  | none => exact h.elim
  | some ds => exact ⟨ds, rfl, h⟩
theorem small_ok {i : Int} (h : smallI i = true) : -1000000 ≤ i ∧ i ≤ 1000000 := by
  simp only [smallI, Bool.and_eq_true, decide_eq_true_eq] at h
  exact h
theorem di_range1 {fA : FA} (hg : Gl X "range") (hm : X.mg "range" = none) (ha : DA X W [a] fA) (hs : starEach [a] X.env = [(false, eval a X.env)] := by rfl) : DI X W tg (.Call (.Name "range" p) [a] [] pos) (argI rng1I fA) := by
  obtain ⟨t, pa, sa⟩ := ha.ex
  refine ⟨_, pi_range1 hg hm pa hs, fun G O P ts env σ F H R S hp => ?_⟩
  refine sa.walked (k := fun d env => match rng1I d with | some ds => M.ok (ds, env) | none => none) S hp fun ds env' vs F' H' S' r hp' => ?_
  obtain ⟨es, he, q⟩ := argI_ok hp'
  unfold rng1I at he
  split at he
  · split at he
    · rename_i j hj
      cases he
      cases r with
      | cons h1 h2 =>
        cases h1; cases h2
        have := small_ok hj
        exact ⟨_, rfl, by omega, by omega, q _ F' H' S' (it_rng 0 _)⟩
    · cases he
  · cases he
theorem di_range2 {fA : FA} (hg : Gl X "range") (hm : X.mg "range" = none) (ha : DA X W [a, b] fA) (hs : starEach [a, b] X.env = [(false, eval a X.env), (false, eval b X.env)] := by rfl) (hs2 : starEach [b] X.env = [(false, eval b X.env)] := by rfl) : DI X W tg (.Call (.Name "range" p) [a, b] [] pos) (argI rng2I fA) := by
  obtain ⟨t, pa, sa⟩ := ha.ex
  refine ⟨_, pi_range2 hg hm pa hs hs2, fun G O P ts env σ F H R S hp => ?_⟩
  refine sa.walked (k := fun d env => match rng2I d with | some ds => M.ok (ds, env) | none => none) S hp fun ds env' vs F' H' S' r hp' => ?_
  obtain ⟨es, he, q⟩ := argI_ok hp'
  unfold rng2I at he
  split at he
  · split at he
    · rename_i hj
      cases he
      cases r with
      | cons h1 h2 =>
        cases h2 with
        | cons h2 h3 =>
          cases h1; cases h2; cases h3
          have k1 := small_ok hj.1
          have k2 := small_ok hj.2
          exact ⟨_, _, rfl, ⟨by omega, by omega, by omega, by omega⟩, q _ F' H' S' (it_rng _ _)⟩
    · cases he
  · cases he
theorem di_zip {fA : FA} {elts : List Expr} {kk : Nat} (hg : Gl X "zip") (hm : X.mg "zip" = none) (ha : DA X W [a, b] fA) (hs : starEach [a, b] X.env = (false, eval a X.env) :: starEach [b] X.env := by rfl) (hpl : (backTo pos (starEach [b] X.env)).any (·.1) = false := by rfl) : DI X W (.Tuple elts kk tpos) (.Call (.Name "zip" p) [a, b] [] pos) (argI zipI fA) := by
  obtain ⟨t, pa, sa⟩ := ha.ex
  refine ⟨_, pi_zipS hg hm pa hs hpl, fun G O P ts env σ F H R S hp => ?_⟩
  refine sa.walked (k := fun d env => match zipI d with | some ds => M.ok (ds, env) | none => none) S hp fun ds env' vs F' H' S' r hp' => ?_
  obtain ⟨es, he, q⟩ := argI_ok hp'
  unfold zipI at he
  split at he
  · rename_i d1 d2
    cases r with
    | cons h1 h2 =>
      cases h2 with
      | cons h2 h3 =>
        cases h3
        cases q1 : seqOf d1 with
        | none => rw [q1] at he; cases he
        | some xs =>
          rw [q1] at he
          dsimp only at he
          cases q2 : seqOf d2 with
          | none => rw [q2] at he; cases he
          | some ys =>
            rw [q2] at he
            cases he
            obtain ⟨s1, l1, rfl, z1, r1⟩ := h1.src q1
            obtain ⟨s2, l2, rfl, z2, r2⟩ := h2.src q2
            exact ⟨s1, s2, l1, l2, rfl, same_sqS S'.fh z1, same_sqS S'.fh z2, q _ F' H' S' (it_zip z1 z2 r1 r2)⟩
  · cases he
theorem di_enum {fA : FA} {elts : List Expr} {kk : Nat} (hg : Gl X "enumerate") (hm : X.mg "enumerate" = none) (ha : DA X W [a] fA) (hs : starEach [a] X.env = [(false, eval a X.env)] := by rfl) : DI X W (.Tuple elts kk tpos) (.Call (.Name "enumerate" p) [a] [] pos) (argI enumI fA) := by
  obtain ⟨t, pa, sa⟩ := ha.ex
  refine ⟨_, pi_enumS hg hm pa hs, fun G O P ts env σ F H R S hp => ?_⟩
  refine sa.walked (k := fun d env => match enumI d with | some ds => M.ok (ds, env) | none => none) S hp fun ds env' vs F' H' S' r hp' => ?_
  obtain ⟨es, he, q⟩ := argI_ok hp'
  unfold enumI at he
  split at he
  · rename_i d1
    cases r with
    | cons h1 h2 =>
      cases h2
      cases q1 : seqOf d1 with
      | none => rw [q1] at he; cases he
      | some xs =>
        rw [q1] at he
        cases he
        obtain ⟨s1, l1, rfl, z1, r1⟩ := h1.src q1
        exact ⟨s1, l1, rfl, same_sqS S'.fh z1, q _ F' H' S' (it_enum z1 r1)⟩
  · cases he
end

/-! ### for -/
def forL (gt : GT) (u : FS) : List PyData → FS
  | [], env => M.ok (.nx env)
  | d :: r, env => match gt d env with
    | some env1 => M.bind (u env1) fun z => match z with
      | .nx env2 => forL gt u r env2
      | .rt s env2 => M.ok (.rt s env2)
    | none => none
def forF (fi : FI) (gt : GT) (u : FS) : FS := fun env => M.bind (fi env) fun p => forL gt u p.1 p.2
section
variable {X : Cx} {W : WX} {tg iter : Expr} {pos : Pos} {sts : List Stmt} {u : FS} {fi : FI} {g : TG} {gt : GT} {tgs : List Nat}
theorem yield_sr {K : PySem.W.Frag} {G O F F0 H H' : Hp} {P : Nat → Option Addr} {env : EnvD} {σ : L2.St} {ds : List PyData} {i : Nat} {x : V} {d : PyData} (S : SR K G O P [] env σ F H) (m : Same F0 F) (y : ItY K F0 ds i H x H') (hd : ds[i]? = some d) :
    ∃ F', Same F F' ∧ SR K G O P [] env σ F' H' ∧ Rp K F' x d := by
  obtain ⟨d', e1, e2⟩ := y
  rw [hd] at e1
  cases e1
  rcases e2 with ⟨rfl, r⟩ | ⟨T, xs, es, rfl, n, rfl, rfl, r⟩
  · exact ⟨F, Same.refl _, S, Rp.mono m _ _ r⟩
  · obtain ⟨S2, R2⟩ := S.valT n (RpL.mono m _ _ r)
    exact ⟨_, same_new (S.ofree n).1, S2, R2⟩
theorem drop_at {ds : List PyData} {i : Nat} {d : PyData} (h : ds[i]? = some d) : ds.drop i = d :: ds.drop (i + 1) := by
  obtain ⟨h1, h2⟩ := List.getElem?_eq_some_iff.mp h
  rw [← h2]
  exact List.drop_eq_getElem_cons h1
theorem ds_for (hp : PassesOwn (model X.prog X.w) X.A X.env X.xe) (hc : X.calm = true) (hi : DI X W tg iter fi) (hg : DG X tg g gt tgs) (hb : DSs X W sts u) (hs : ∀ x, foldedSetIterable iter X.env x = pure x := by intro _; rfl) : DS X W (.For tg iter sts [] pos) (forF fi gt u) := by
  obtain ⟨wi, pi, si⟩ := hi.ex
  obtain ⟨tb, pb, sb⟩ := hb.ex
  refine ⟨_, ps_for hp hc pi hg.pg pb hs, fun G O P env σ F H D S hp => ?_⟩
  refine si G O P [] env σ F H _ S ?_
  unfold forF at hp
  cases q : fi env with
  | none => rw [q] at hp; exact hp
  | some o =>
    rw [q] at hp
    cases o with
    | err c env' => exact fun C F' H' hc S' => hp C σ F' H' hc S'
    | ok pr =>
      obtain ⟨ds, env0⟩ := pr
      intro J F0 H0 S0 w
      refine for_it w (fun i σ H => ∃ env F, SR X.K G O P [] env σ F H ∧ Same F0 F ∧ PostS X.K X.mg W G O P D (forL gt u (ds.drop i) env)) ⟨env0, F0, S0, Same.refl _, hp⟩ (fun i σ H _ ⟨env, F, S, m, _⟩ => m.trans S.fh) (fun i x σ1 H1 H2 hi ⟨env1, F1, S1, m1, hp1⟩ y => ?_) fun σ1 H1 ⟨env1, F1, S1, m1, hp1⟩ => ?_
      · have hd : ds[i]? = some ds[i] := List.getElem?_eq_getElem hi
        rw [drop_at hd] at hp1
        obtain ⟨F2, m2, S2, r2⟩ := yield_sr S1 m1 y hd
        unfold forL at hp1
        cases q1 : gt ds[i] env1 with
        | none => rw [q1] at hp1; exact hp1.elim
        | some env2 =>
          rw [q1] at hp1
          dsimp only at hp1
          refine hg.sd G O P env1 σ1 F2 H2 x _ env2 _ S2 r2 q1 fun σ3 F3 H3 m3 S3 _ => ?_
          refine sb F3 O P env2 σ3 F3 H3 _ S3.base ?_
          cases q2 : u env2 with
          | none => rw [q2] at hp1; exact hp1
          | some o =>
            rw [q2] at hp1
            cases o with
            | err c env3 => exact fun C σ4 F4 H4 hc S4 => hp1 C σ4 F4 H4 hc (S4.rebase S3.gf)
            | ok z =>
              cases z with
              | nx env3 => exact fun σ4 F4 H4 S4 => ⟨env3, F4, S4.rebase S3.gf, ((m1.trans m2).trans m3).trans S4.gf, hp1⟩
              | rt s env3 => exact fun v σ4 F4 H4 S4 r4 => hp1 v σ4 F4 H4 (S4.rebase S3.gf) r4
      · rw [List.drop_length] at hp1
        exact hp1 σ1 F1 H1 S1
end
end DL
set_option Elab.async false
set_option linter.all false
set_option maxRecDepth 100000
set_option maxHeartbeats 4000000
namespace DL
open PySem PySem.Spec PyProof.Rows L2

/-! ### comprehensions -/
def wipeD (env : EnvD) : List Nat → EnvD
  | [] => env
  | v :: vs => (wipeD env vs).set v none
def lcL (gt : GT) (ft : FT) (fe : FE) (vs : List Nat) : List PyData → List PyData → EnvD → M (List PyData × EnvD)
  | [], acc, env => M.ok (acc, env)
  | d :: r, acc, env => match gt d env with
    | some env1 => match ft env1 with
      | some (.ok p) => match p.1 with
        | true => match fe p.2 with
          | some (.ok q) => match frz1 (fz q.1) q.2 with
            | some z => if acc.length < bigL then lcL gt ft fe vs r (acc ++ [z.1]) (wipeD z.2 vs) else none
            | none => none
          | _ => none
        | false => lcL gt ft fe vs r acc (wipeD p.2 vs)
      | _ => none
    | none => none
def lcF (fi : FI) (gt : GT) (ft : FT) (fe : FE) (vs : List Nat) : FE := fun env => M.bind (fi env) fun p => M.bind (lcL gt ft fe vs p.1 [] (wipeD p.2 vs)) fun q => M.ok (.own (.lst q.1), q.2)
def yesF : FT := fun env => M.ok (true, env)
def WF : WX := fun _ _ _ _ => False
structure DTs (X : Cx) (W : WX) (ifs : List Expr) (f : FT) : Prop where
  ex : ∃ t, PTs X ifs t ∧ SndT X.K X.mg W t f
theorem DTs.can {X : Cx} {W : WX} {e : List Expr} {f : FT} (h : DTs X W e f) : PTs X e (tT X.K X.mg W f) := by
  obtain ⟨t, p, s⟩ := h.ex
  exact ⟨fun pins sh σ H Q I ⟨G, O, P, ts, env, F, S, hp⟩ => p.run pins sh σ H Q I (s G O P ts env σ F H Q S hp)⟩
theorem dts_nil {X : Cx} {W : WX} : DTs X W [] yesF := ⟨_, pts_nil, fun G O P ts env σ F H Q S hp => hp F H S⟩
theorem dts_one {X : Cx} {W : WX} {c : Expr} {f : FT} (h : DT X W c f) : DTs X W [c] f := by
  obtain ⟨t, p, s⟩ := h.ex
  exact ⟨_, pts_one p, s⟩

section
variable {K : PySem.W.Frag} {mg : Str → Option Value} {G G' O F F' H H' : Hp} {P : Nat → Option Addr} {ts : List (Sl × V)} {env env2 : EnvD} {σ σ2 : L2.St} {s : Sl} {v : V} {D : Addr} {u u' : HO}
theorem wipeD_len (env : EnvD) : ∀ vs : List Nat, (wipeD env vs).length = env.length
  | [] => rfl
  | v :: vs => by unfold wipeD; rw [List.length_set, wipeD_len env vs]
theorem wipeD_some {i : Nat} {x : Sl} : ∀ {vs : List Nat}, (wipeD env vs)[i]? = some (some x) → env[i]? = some (some x) ∧ i ∉ vs
  | [], h => ⟨h, by simp⟩
  | v :: vs, h => by
    unfold wipeD at h
    by_cases hi : v = i
    · subst hi
      by_cases hv : v < (wipeD env vs).length
      · rw [List.getElem?_set_self hv] at h; cases h
      · rw [List.getElem?_eq_none (by simpa using hv)] at h; cases h
    · rw [List.getElem?_set_ne hi] at h
      obtain ⟨h1, h2⟩ := wipeD_some h
      exact ⟨h1, by simp only [List.mem_cons, not_or]; exact ⟨fun e => hi e.symm, h2⟩⟩
/-- the slots may be others where nothing is told of them -/
theorem SR.reslot (h : SR K G O P [] env σ F H) (hl : env2.length = σ2.length) (q : ∀ (i : Nat) (x : Sl), env2[i]? = some (some x) → env[i]? = some (some x) ∧ σ2[i]? = σ[i]?) : SR K G O P [] env2 σ2 F H := by
  refine ⟨h.gf, h.fh, h.oh, h.dj, hl, fun i x e => ?_, fun p hp => absurd hp (by simp), fun i j x y a e1 e2 w1 w2 r1 r2 => ?_, h.nt⟩
  · obtain ⟨z1, z2⟩ := q i x e
    obtain ⟨w, f1, f2⟩ := h.slot i x z1
    exact ⟨w, by rw [z2]; exact f1, f2⟩
  · obtain ⟨z1, z2⟩ := q i x e1
    obtain ⟨z3, z4⟩ := q j y e2
    exact h.sep i j x y a z1 z3 w1 w2 (by rw [← z2]; exact r1) (by rw [← z4]; exact r2)
theorem SR.wipe (h : SR K G O P [] env σ F H) (vs : List Nat) : SR K G O P [] (wipeD env vs) (L2.wipe σ vs) F H :=
  h.reslot (by rw [wipeD_len, wipe_length]; exact h.len) fun i x e => ⟨(wipeD_some e).1, wipe_out (wipeD_some e).2⟩
theorem SR.wipe1 (h : SR K G O P [] env σ F H) (vs : List Nat) : SR K G O P [] (wipeD env vs) σ F H :=
  h.reslot (by rw [wipeD_len]; exact h.len) fun i x e => ⟨(wipeD_some e).1, rfl⟩
theorem wipe_only {tgs vs : List Nat} {σ σ' : L2.St} (o : Only tgs (L2.wipe σ vs) σ') (hs : ∀ i ∈ tgs, i ∈ vs) : L2.wipe σ' vs = L2.wipe σ vs := by
  have look : ∀ (τ : L2.St) (i : Nat), i ∈ vs → (L2.wipe τ vs)[i]? = if i < τ.length then some none else none := fun τ i hi => by
    by_cases hl : i < τ.length
    · rw [if_pos hl]
      cases q : (L2.wipe τ vs)[i]? with
      | none =>
        rw [List.getElem?_eq_none_iff, wipe_length] at q
        omega
      | some o =>
        cases o with
        | none => rfl
        | some x => exact absurd hi (wipe_some q).2
    · rw [if_neg hl]
      exact List.getElem?_eq_none (by rw [wipe_length]; omega)
  apply List.ext_getElem?
  intro i
  have hl : σ'.length = σ.length := by rw [o.1, wipe_length]
  by_cases hi : i ∈ vs
  · rw [look σ' i hi, look σ i hi, hl]
  · rw [wipe_out hi, o.2 i fun z => hi (hs i z)]
/-- back to the outer slots -/
theorem SR.unwipe {vs : List Nat} (h : SR K G O P [] env σ2 F H) (e : L2.wipe σ2 vs = L2.wipe σ vs) : SR K G O P [] (wipeD env vs) σ F H :=
  h.reslot (by rw [wipeD_len, h.len, ← wipe_length σ2 vs, e, wipe_length]) fun i x q => by
    obtain ⟨q1, q2⟩ := wipeD_some q
    refine ⟨q1, ?_⟩
    rw [← wipe_out (σ := σ) q2, ← e, wipe_out q2]
/-- the laid-by list is written -/
theorem SR.rehide (h : SR K G (upd O D u) P ts env σ F H) (su : Soft u) (su' : Soft u') : SR K G (upd O D u') P ts env σ F (upd H D u') := by
  have nF : F D = none := h.dj D u upd_same
  have other : ∀ b, upd O D u b = none → b ≠ D ∧ upd O D u' b = none := fun b q => by
    have hb : b ≠ D := fun z => by rw [z, upd_same] at q; cases q
    refine ⟨hb, ?_⟩
    rw [upd_ne hb] at q ⊢
    exact q
  refine ⟨h.gf, fun b x q => ?_, ?_, fun b x q => ?_, h.len, fun i s q => ?_, h.tmp, h.sep, h.nt⟩
  · rw [upd_ne (ne_of_none q nF)]; exact h.fh b x q
  · have hD : H D = some u := h.oh.val D u upd_same
    refine ⟨fun b x q => ?_, fun b ps q => ?_, tabs_chg h.oh.tb hD su⟩
    · by_cases hb : b = D
      · subst hb; rw [upd_same] at q ⊢; exact q
      · rw [upd_ne hb] at q ⊢; exact h.oh.val b x (by rw [upd_ne hb]; exact q)
    · by_cases hb : b = D
      · subst hb; rw [upd_same] at q; exact absurd (Option.some.inj q) (su'.nt ps)
      · rw [upd_ne hb] at q
        exact h.oh.nt b ps (by rw [upd_ne hb]; exact q)
  · by_cases hb : b = D
    · subst hb; exact nF
    · rw [upd_ne hb] at q; exact h.dj b x (by rw [upd_ne hb]; exact q)
  · obtain ⟨w, f1, f2⟩ := h.slot i s q
    refine ⟨w, f1, ?_⟩
    cases s with
    | val d => exact f2
    | own o =>
      obtain ⟨b, rfl, z1, z2, z3⟩ := f2
      obtain ⟨y1, y2⟩ := other b z2
      exact ⟨b, rfl, z1, y2, z3.mono (Same.refl _) (upd_ne y1)⟩
    | pen o =>
      obtain ⟨b, rfl, z0, z1, z2, z3⟩ := f2
      obtain ⟨y1, y2⟩ := other b z2
      exact ⟨b, rfl, z0, z1, y2, z3.mono (Same.refl _) (upd_ne y1)⟩
    | al k => exact f2
/-- the temporaries again -/
theorem SR.retmp (h : SR K G O P [] env2 σ F' H') (h0 : SR K G' O P ts env σ F H) (m : Same F F') : SR K G O P ts env2 σ F' H' :=
  ⟨h.gf, h.fh, h.oh, h.dj, h.len, h.slot, fun p hp => (h0.tmp p hp).mono m, h.sep, h.nt⟩
end

section
variable {X : Cx} {W : WX} {tg iter elt : Expr} {ifs : List Expr} {pos : Pos} {x : Str} {fi : FI} {g : TG} {gt : GT} {ft : FT} {fe : FE} {scope : Scope} {own : List (Str × Nat)} {tgs : List Nat}
/-- what a comprehension's reading asks -/
theorem snd_lc {K : PySem.W.Frag} {mg : Str → Option Value} {wi : TI} {vs : List Nat} (si : SndI K mg W wi fi) (sg : SndG K g gt tgs) (hs : ∀ i ∈ tgs, i ∈ vs) : SndE K mg W (tLc wi g (tT K mg WF ft) (tE K mg WF fe) vs) (lcF fi gt ft fe vs) := by
  intro G O P ts env σ F H Q S hp
  refine si G O P ts env σ F H _ S ?_
  unfold lcF at hp
  cases q : fi env with
  | none => rw [q] at hp; exact hp
  | some o =>
    rw [q] at hp
    cases o with
    | err c env' => exact hp
    | ok pr =>
      obtain ⟨ds, env0⟩ := pr
      intro J F0 H0 S0 w D nD
      have S0' : SR K F0 O P [] env0 σ F0 H0 := (S0.sub (fun p hp => absurd hp (by simp))).base
      have S1 : SR K F0 (upd O D (.lst [])) P [] (wipeD env0 vs) σ F0 (upd H0 D (.lst [])) := by
        have z := (S0'.wipe1 vs).newH (u := .lst []) nD
        exact z.hide (S0.ofree nD).1 (S0.ofree nD).2 upd_same (fun _ z => by cases z) fun i s' e wn => (S0'.wipe1 vs).fresh nD e wn
      refine lc_it w (fun i H => ∃ env F acc xs, SR K F0 (upd O D (.lst xs)) P [] (wipeD env vs) σ F H ∧ RpL K F xs acc ∧ acc.length ≤ bigL ∧
          PostE K mg W G O P ts σ Q (M.bind (lcL gt ft fe vs (ds.drop i) acc (wipeD env vs)) fun q => M.ok (.own (.lst q.1), q.2)))
        ⟨env0, F0, [], [], S1, .nil, Nat.zero_le _, hp⟩ (fun i H _ ⟨env, F, acc, xs, S, _⟩ => S.gf.trans S.fh) (fun i x H1 H2 hi ⟨env1, F1, acc, xs, S2, ra, la, hp1⟩ y => ?_) fun H1 ⟨env1, F1, acc, xs, S2, ra, la, hp1⟩ => ?_
      · have hd : ds[i]? = some ds[i] := List.getElem?_eq_getElem hi
        rw [drop_at hd] at hp1
        obtain ⟨F2, m2, S3, r2⟩ := yield_sr S2 S2.gf y hd
        have S4 : SR K F0 (upd O D (.lst xs)) P [] (wipeD env1 vs) (L2.wipe σ vs) F2 H2 := by
          refine S3.reslot ?_ fun i x e => ⟨e, wipe_out (wipeD_some e).2⟩
          rw [S3.len, wipe_length]
        unfold lcL at hp1
        cases q1 : gt ds[i] (wipeD env1 vs) with
        | none => rw [q1] at hp1; exact hp1.elim
        | some env2 =>
          rw [q1] at hp1
          dsimp only at hp1
          refine sg F0 (upd O D (.lst xs)) P (wipeD env1 vs) (L2.wipe σ vs) F2 H2 x _ env2 _ S4 r2 q1 fun σ3 F2' H2' m2' S5 o3 => ?_
          have ew : L2.wipe σ3 vs = L2.wipe σ vs := wipe_only o3 hs
          refine ⟨ew, F2', upd O D (.lst xs), P, [], env2, F2', S5.base, ?_⟩
          cases q2 : ft env2 with
          | none => rw [q2] at hp1; exact hp1.elim
          | some o =>
            rw [q2] at hp1
            cases o with
            | err c env3 => exact hp1.elim
            | ok p3 =>
              obtain ⟨b, env3⟩ := p3
              intro F3 H3 S6
              dsimp only at hp1
              cases b with
              | false =>
                rw [if_neg (by decide)]
                exact ⟨env3, F3, acc, xs, (S6.rebase S5.gf).unwipe ew, RpL.mono ((m2.trans m2').trans S6.gf) _ _ ra, la, hp1⟩
              | true =>
                rw [if_pos rfl]
                refine ⟨F3, upd O D (.lst xs), P, [], env3, F3, S6.base, ?_⟩
                cases q3 : fe env3 with
                | none => rw [q3] at hp1; exact hp1.elim
                | some o2 =>
                  rw [q3] at hp1
                  cases o2 with
                  | err c env4 => exact hp1.elim
                  | ok p4 =>
                    intro v F4 H4 S7 r7
                    dsimp only at hp1
                    obtain ⟨F5, m5, S8⟩ := S7.keep r7
                    cases q4 : frz1 (fz p4.1) p4.2 with
                    | none => rw [q4] at hp1; exact hp1.elim
                    | some z =>
                      rw [q4] at hp1
                      obtain ⟨d, env5⟩ := z
                      dsimp only at hp1
                      obtain ⟨F6, m6, S9, r9⟩ := S8.frz1 (S8.tmp (fz p4.1, v) (by simp)) q4
                      split at hp1
                      · rename_i hlt
                        have raf : RpL K F6 xs acc := RpL.mono ((((m2.trans m2').trans S6.gf).trans S7.gf).trans (m5.trans m6)) _ _ ra
                        refine ⟨xs, S9.oh.val D _ upd_same, by rw [ra.length]; exact bigL_lt (Nat.le_of_lt hlt), env5, F6, acc ++ [d], xs ++ [v], ?_, raf.app (.cons r9 .nil), by rw [List.length_append]; exact hlt, hp1⟩
                        exact ((S9.pop.rehide (u' := .lst (xs ++ [v])) trivial trivial).rebase ((S5.gf.trans S6.gf))).unwipe ew
                      · exact hp1.elim
      · rw [List.drop_length] at hp1
        obtain ⟨S3, nF, eD, ns⟩ := S2.unhide (S0.ofree nD).2 (fun _ z => by cases z)
        refine hp1 _ F1 H1 ((S3.rebase S0.gf).retmp S0 S2.gf) ⟨D, rfl, nF, (S0.ofree nD).2, ⟨xs, eD, ra⟩, ns⟩
theorem de_lc (hc : X.calm = true) (hN : X.N.Nodup) (hi : DI X W tg iter fi) (ok : BlkOk X.N X.env.scope scope own) (hs : ∀ i ∈ tgs, i ∈ own.map (·.2))
    (hg : ∀ (s : Shared) (H : Hp) (C : Addr) (cl : List (Str × Addr)) (fp : List Addr), DG (X.blk s H scope (compEnvC scope cl C X.env) fp) tg g gt tgs)
    (ht : ∀ (s : Shared) (H : Hp) (C : Addr) (cl : List (Str × Addr)) (fp : List Addr), DTs (X.blk s H scope (compEnvC scope cl C X.env) fp) WF ifs ft)
    (he : ∀ (s : Shared) (H : Hp) (C : Addr) (cl : List (Str × Addr)) (fp : List Addr), DE (X.blk s H scope (compEnvC scope cl C X.env) fp) WF elt fe) (hf : ∀ x, foldedSetIterable iter X.env x = pure x := by intro _; rfl) :
    DE X W (.ListComp elt [⟨tg, iter, ifs, 0⟩] scope pos) (lcF fi gt ft fe (own.map (·.2))) := by
  obtain ⟨wi, pi, si⟩ := hi.ex
  exact ⟨_, pe_lc hc hN pi ok (fun s H C cl fp => (hg s H C cl fp).pg) (fun s H C cl fp => (ht s H C cl fp).can) (fun s H C cl fp => (he s H C cl fp).can) hf, snd_lc si (hg X.s_0 (fun _ => none) 0 [] []).sd hs⟩
theorem ds_asgLc (i : Nat) {py spos : Pos} (hc : X.calm = true) (hN : X.N.Nodup) (hi : DI X W tg iter fi) (ok : BlkOk X.N X.env.scope scope own) (hs : ∀ i ∈ tgs, i ∈ own.map (·.2))
    (hg : ∀ (s : Shared) (H : Hp) (C : Addr) (cl : List (Str × Addr)) (fp : List Addr), DG (X.blk s H scope (compEnvC scope cl C X.env) fp) tg g gt tgs)
    (ht : ∀ (s : Shared) (H : Hp) (C : Addr) (cl : List (Str × Addr)) (fp : List Addr), DTs (X.blk s H scope (compEnvC scope cl C X.env) fp) WF ifs ft)
    (he : ∀ (s : Shared) (H : Hp) (C : Addr) (cl : List (Str × Addr)) (fp : List Addr), DE (X.blk s H scope (compEnvC scope cl C X.env) fp) WF elt fe)
    (hsw : swapsWith (.ListComp elt [⟨tg, iter, ifs, 0⟩] scope pos) (some (.Name x py)) spos.line X.env = pure true) (hy : X.N[i]? = some x := by rfl) (hyl : X.env.scope.names.lookup x = some .local := by rfl) (hf : ∀ x, foldedSetIterable iter X.env x = pure x := by intro _; rfl) :
    DS X W (.Assign [.Name x py] (.ListComp elt [⟨tg, iter, ifs, 0⟩] scope pos) spos) (asgF i (lcF fi gt ft fe (own.map (·.2)))) := by
  obtain ⟨wi, pi, si⟩ := hi.ex
  exact ⟨_, ps_setLc hc hN hy hyl hsw pi ok (fun s H C cl fp => (hg s H C cl fp).pg) (fun s H C cl fp => (ht s H C cl fp).can) (fun s H C cl fp => (he s H C cl fp).can) hf, snd_asg (snd_lc si (hg X.s_0 (fun _ => none) 0 [] []).sd hs)⟩
end

/-! ### raise -/
section
variable {X : Cx} {W : WX} {pos : Pos} {C : Addr} {bmB : List Value} {B newId initId : String}
theorem ds_raise {x m : Str} {j : Nat} {p p2 pos1 : Pos} (hc : X.calm = true) (tk : Takes X W) (F : ExcBaseFacts B newId initId bmB) (q : PySem.W.excIn X.K C bmB newId = true) (gC : X.mg x = some (.ref C)) (kC : PySem.W.keepIn X.K (.ref C) = true) (r : Raises X (.ref C)) (hg : Gl X x)
    (hdb : (x == ("__debug__" : Str)) = false := by decide) : DS X W (.Raise (some (.Call (.Name x p) [.Constant (.str m) j p2] [] pos1)) none pos) (raiseF x) := by
  refine ⟨_, ps_raise hc tk (pmk_own F q gC kC r hg hdb), fun G O P env σ F H D S hp => ?_⟩
  exact hp C σ F H gC S
end
end DL
set_option Elab.async false
set_option linter.all false
set_option maxRecDepth 100000
set_option maxHeartbeats 4000000
namespace DL
open PySem PySem.Spec PyProof.Rows L2

/-! ### chains, negatives -/
def negD (a : PyData) : Option Sl :=
  match a with
  | .int i => vI (-i)
  | _ => none
def eChain (g g' : PyData → PyData → Option Sl) (fa fb fc : FE) : FE := fun env => M.bind (fa env) fun p => M.bind (fb p.2) fun q => match g2 g (rd (fz p.1) q.2) (rd (fz q.1) q.2) with
  | some z => match asB z with
    | some true => M.bind (fc q.2) fun r => fin (g2 g' (rd (fz q.1) r.2) (rd (fz r.1) r.2)) r.2
    | some false => M.ok (.val (.bool false), q.2)
    | none => none
  | none => none
section
variable {X : Cx} {W : WX} {e a b c : Expr} {es rest : List Expr} {f fa fb fc : FE} {pos : Pos} {x : Str} {p : Pos}
theorem ud_neg : UnD X (rU fun i => .int (-i)) negD := by
  intro G O P ts env σ F H x d1 s Q S h1 e q
  unfold negD at e
  split at e
  · cases e; cases h1
    exact ⟨_, rfl, q _ F H S (.int _)⟩
  · cases e
theorem de_neg (ha : DE X W a fa) : DE X W (.UnaryOp .USub a pos) (e1 negD fa) := de_un un_neg ud_neg ha
theorem snd_chain {r r' : R2} {g g' : PyData → PyData → Option Sl} {ta tb tc : TE} (hg : OpD X r g) (hg' : OpD X r' g') (hb1 : ∀ d1 d2 s, g d1 d2 = some s → ∃ k, s = .val (.bool k)) (sa : SndE X.K X.mg W ta fa) (sb : SndE X.K X.mg W tb fb) (sc : SndE X.K X.mg W tc fc) :
    SndE X.K X.mg W (tChain r r' ta tb tc) (eChain g g' fa fb fc) := by
  intro G O P ts env σ F H Q S hp
  refine sa.thn (k := fun s env' => M.bind (fb env') fun q => match g2 g (rd s q.2) (rd (fz q.1) q.2) with
    | some z => match asB z with
      | some true => M.bind (fc q.2) fun r => fin (g2 g' (rd (fz q.1) r.2) (rd (fz r.1) r.2)) r.2
      | some false => M.ok (.val (.bool false), q.2)
      | none => none
    | none => none) S hp fun s env' v F' H' S' hp' => ?_
  refine sb.thn (k := fun s2 env2 => match g2 g (rd s env2) (rd s2 env2) with
    | some z => match asB z with
      | some true => M.bind (fc env2) fun r => fin (g2 g' (rd s2 r.2) (rd (fz r.1) r.2)) r.2
      | some false => M.ok (.val (.bool false), env2)
      | none => none
    | none => none) S' hp' fun s2 env2 v2 F2 H2 S2 hp2 => ?_
  cases q : g2 g (rd s env2) (rd s2 env2) with
  | none => rw [q] at hp2; exact hp2.elim
  | some z =>
    rw [q] at hp2
    obtain ⟨d1, d2, e1, e2, e3⟩ := g2_ok q
    obtain ⟨k, rfl⟩ := hb1 d1 d2 z e3
    refine hg G O P _ env2 σ F2 H2 v v2 d1 d2 _ _ S2 (S2.sh (by simp) e1) (S2.sh (by simp) e2) e3 fun w F3 H3 S3 r3 => ?_
    cases r3
    refine ⟨k, rfl, ?_⟩
    cases k with
    | false =>
      rw [if_neg (by decide)]
      exact hp2 _ F3 H3 S3.pop.pop (.bl false)
    | true =>
      rw [if_pos rfl]
      refine sc.thn (k := fun s3 env3 => fin (g2 g' (rd s2 env3) (rd s3 env3)) env3) S3 hp2 fun s3 env3 v3 F4 H4 S4 hp4 => ?_
      obtain ⟨z4, e0, q4⟩ := fin_ok hp4
      obtain ⟨d3, d4, e5, e6, e7⟩ := g2_ok e0
      exact hg' G O P ts env3 σ F4 H4 v2 v3 d3 d4 z4 Q S4.pop.pop.pop (S4.sh (by simp) e5) (S4.sh (by simp) e6) e7 q4
theorem ord_bool {p : Int → Int → Bool} : ∀ d1 d2 s, ordD p d1 d2 = some s → ∃ k, s = .val (.bool k) := fun d1 d2 s h => by
  unfold ordD at h
  split at h
  · cases h; exact ⟨_, rfl⟩
  · cases h
theorem de_chain {op op' : CmpOp} {r r' : R2} {p p' : Int → Int → Bool} (ho : OpR X (compareOp op) r) (hg : OpD X r (ordD p)) (ho' : OpR X (compareOp op') r') (hg' : OpD X r' (ordD p')) (ha : DE X W a fa) (hb : DE X W b fb) (hc : DE X W c fc)
    (hm : lastMarks [op, op'] [b, c] = false := by with_unfolding_all rfl) : DE X W (.Compare a [op, op'] [b, c] pos) (eChain (ordD p) (ordD p') fa fb fc) := by
  obtain ⟨ta, pa, sa⟩ := ha.ex
  obtain ⟨tb, pb, sb⟩ := hb.ex
  obtain ⟨tc, pc, sc⟩ := hc.ex
  exact ⟨_, pe_chain ho ho' pa pb pc hm, snd_chain hg hg' ord_bool sa sb sc⟩
theorem dt_chain {op op' : CmpOp} {r r' : R2} {p p' : Int → Int → Bool} (ho : OpR X (compareOp op) r) (hg : OpD X r (ordD p)) (ho' : OpR X (compareOp op') r') (hg' : OpD X r' (ordD p')) (ha : DE X W a fa) (hb : DE X W b fb) (hc : DE X W c fc)
    (hm : lastMarks [op, op'] [b, c] = false := by with_unfolding_all rfl) : DT X W (.Compare a [op, op'] [b, c] pos) (eT (eChain (ordD p) (ordD p') fa fb fc)) := by
  obtain ⟨ta, pa, sa⟩ := ha.ex
  obtain ⟨tb, pb, sb⟩ := hb.ex
  obtain ⟨tc, pc, sc⟩ := hc.ex
  exact ⟨_, pt_chain ho ho' pa pb pc hm, snd_test (snd_chain hg hg' ord_bool sa sb sc)⟩
/-! ### a name of the module -/
def GlD (K : PySem.W.Frag) (mg : Str → Option Value) (x : Str) (d : PyData) : Prop := ∃ v u, mg x = some u ∧ RelV v u ∧ ∀ F, Rp K F v d
theorem de_gl {d : PyData} (hg : Gl X x) (h : GlD X.K X.mg x d) (hd : (x == ("__debug__" : Str)) = false := by decide) : DE X W (.Name x p) (eC d) := by
  obtain ⟨v, u, h1, h2, h3⟩ := h
  exact de_const (pe_glob hg h1 h2 hd) h3
/-! ### x[e] = v, x a list of one's own -/
def gtSub (i : Nat) (fi : FE) : GT := fun d env => match lstO i env with
  | some _ => match fi env with
    | some (.ok q) => match asI q.1 with
      | some k => match lstO i q.2 with
        | some (s, ds) => match ixN ds.length k with
          | some j => some (q.2.set i (some (reO s (.lst (ds.set j d)))))
          | none => none
        | none => none
      | none => none
    | _ => none
  | none => none
theorem ixN_len {n : Nat} {i : Int} {j : Nat} (h : ixN n i = some j) : j < n := (ixN_seq h).2.1
theorem dg_sub (i : Nat) {px ps : Pos} (hi : DE X W b fb) (hN : X.N[i]? = some x := by rfl) (hv : Vis X.env.scope x := by first | exact Or.inl rfl | exact Or.inr (Or.inl rfl) | exact Or.inr (Or.inr rfl)) (hd : (x == ("__debug__" : Str)) = false := by decide)
    (hcd : (x == ("__classdict__" : Str)) = false := by decide) (has : ∀ v, assign (.Subscript (.Name x px) b ps) X.env v = (do
      let ov ← holding [v] (eval (.Name x px) X.env)
      let iv ← holding [v, ov] (eval b X.env)
      standAt ps
      holding [v, ov, iv] (setItem ov iv v)
      release [v, ov, iv] []) := by intro _; rfl) :
    DG X (.Subscript (.Name x px) b ps) (gSub (tVar i) (tE X.K X.mg W fb) rSetL) (gtSub i fb) [] := by
  refine ⟨pg_sub (pe_var hN hv hd hcd) hi.can set_list has, fun G O P env σ F H v d env' Q S r e q => ?_⟩
  unfold gtSub at e
  cases q0 : lstO i env with
  | none => rw [q0] at e; cases e
  | some r0 =>
    rw [q0] at e
    dsimp only at e
    obtain ⟨s0, ds0⟩ := r0
    obtain ⟨a0, f1, f2, f3, _, _⟩ := S.slO (lstO_ok q0)
    refine ⟨_, f1, ?_⟩
    refine snd_tE F O P [(.val d, v)] env σ F H _ (S.base.push (s := .val d) r) ?_
    cases q1 : fb env with
    | none => rw [q1] at e; cases e
    | some o =>
      rw [q1] at e
      cases o with
      | err c env2 => cases e
      | ok pr =>
        obtain ⟨s1, env2⟩ := pr
        dsimp only at e
        intro w F2 H2 S2 r2
        cases q2 : asI s1 with
        | none => rw [q2] at e; cases e
        | some k =>
          rw [q2] at e
          dsimp only at e
          have ew := asI_ok q2 r2
          subst ew
          cases q3 : lstO i env2 with
          | none => rw [q3] at e; cases e
          | some r3 =>
            obtain ⟨s3, ds⟩ := r3
            rw [q3] at e
            dsimp only at e
            cases q4 : ixN ds.length k with
            | none => rw [q4] at e; cases e
            | some j =>
              rw [q4] at e
              cases e
              obtain ⟨a, g1, g2, g3, ⟨xs, g4, g5⟩, _⟩ := S2.slO (lstO_ok q3)
              rw [f1] at g1
              cases g1
              have rv : Rp X.K F2 v d := S2.tmp (.val d, v) (by simp)
              refine ⟨a0, xs, k, j, rfl, rfl, g4, by rw [g5.length]; exact q4, ?_⟩
              have hw : OwnAt X.K F2 (upd H2 a0 (.lst (xs.set j v))) a0 (.lst (ds.set j d)) := ⟨_, upd_same, g5.set j rv⟩
              exact q σ F2 _ S2.gf ((S2.pop.reown (lstO_ok q3) f1 hw).rebase S.gf) Only.refl
end
end DL
set_option Elab.async false
set_option linter.all false
set_option maxRecDepth 100000
set_option maxHeartbeats 4000000
namespace DL
open PySem PySem.Spec PyProof.Rows L2

/-! ### short words for the printed terms -/
structure Callee (gd : Bool) (P : Program) (w : World) (K : PySem.W.Frag) (mg : Str → Option Value) (base : Heap) (k : Nat) (x : Str) (ps : List Str) (m : MF) : Prop where
  ex : ∃ f fd, FnG gd P w K mg base (L2.CX P w) k f fd ps (spD K mg m) ∧ mg x = some (.ref f) ∧ PySem.W.keepIn K (.ref f) = true ∧ Binds K fd ps []
/-- a def of the text as it stands behind the top -/
structure Has (K : PySem.W.Frag) (mg : Str → Option Value) (x : Str) (st : Stmt) (ps : List Str) : Prop where
  ex : ∃ f fd, Fun K x x st f fd ∧ mg x = some (.ref f) ∧ Binds K fd ps []
/-- an own class of errors -/
structure ClsX (K : PySem.W.Frag) (mg : Str → Option Value) (x : Str) : Prop where
  ex : ∃ C, mg x = some (.ref C) ∧ PySem.W.excIn K C [.type "ValueError", .type "Exception", .type "BaseException", .type "object"] "ValueError.__new__" = true ∧ PySem.W.keepIn K (.ref C) = true ∧
    PySem.W.subIn K (.ref C) (.type "BaseException") = some true ∧ PySem.W.typeIn K (.ref C) = some (.type "type")
theorem takesF {X : Cx} : Takes X WF := L2.takes0
section
variable {X : Cx} {W : WX} {e : Expr} {es : List Expr} {pos : Pos} {x : Str} {p : Pos} {k j : Nat} {fA : FA} {ps : List Str} {m : MF}
theorem de_c {gd gd' : Bool} (C : Callee gd' X.prog X.w X.K X.mg X.base k x ps m) (hr : RG gd j X.A) (hj : k ≤ j) (tk : Takes X W) (hg : Gl X x) (ha : DA X W (e :: es) fA) (hdb : (x == ("__debug__" : Str)) = false := by decide) (he : starEach (e :: es) X.env = (false, eval e X.env) :: starEach es X.env := by rfl) (hpl : (backTo pos (starEach es X.env)).any (·.1) = false := by rfl) (hle : (!gd' || gd) = true := by rfl) :
    DE X W (.Call (.Name x p) (e :: es) [] pos) (callV m [] fA) := by
  obtain ⟨f, fd, h1, h2, h3, h4⟩ := C.ex
  exact de_call h1 ((hr.mono hj).le hle) hg h2 h3 h4 .nil (fun _ => .nil) tk ha hdb he hpl
theorem de_cP {gd gd' : Bool} (C : Callee gd' X.prog X.w X.K X.mg X.base k x ps m) (hr : RG gd j X.A) (hj : k ≤ j) (tk : Takes X W) (hg : Gl X x) (ha : DA X W (e :: es) fA) (hdb : (x == ("__debug__" : Str)) = false := by decide) (he : starEach (e :: es) X.env = (false, eval e X.env) :: starEach es X.env := by rfl) (hpl : (backTo pos (starEach es X.env)).any (·.1) = false := by rfl) (hle : (!gd' || gd) = true := by rfl) :
    DE X W (.Call (.Name x p) (e :: es) [] pos) (callP m fA) := by
  obtain ⟨f, fd, h1, h2, h3, h4⟩ := C.ex
  exact de_callP h1 ((hr.mono hj).le hle) hg h2 h3 h4 tk ha hdb he hpl
theorem ds_raiseC {mm : Str} {jj : Nat} {p2 pos1 : Pos} (hX : ClsX X.K X.mg x) (hc : X.calm = true) (tk : Takes X W) (hg : Gl X x) (hdb : (x == ("__debug__" : Str)) = false := by decide) : DS X W (.Raise (some (.Call (.Name x p) [.Constant (.str mm) jj p2] [] pos1)) none pos) (raiseF x) := by
  obtain ⟨C, h1, h2, h3, h4, h5⟩ := hX.ex
  exact ds_raise hc tk PySem.F.excBase_ValueError h2 h1 h3 (raises_own h4 h5) hg hdb
end
section
variable {P : Program} {w : World} {K : PySem.W.Frag} {mg : Str → Option Value} {base : Heap}
theorem callee_ok {gd : Bool} {x : Str} {st : Stmt} {N ps : List Str} {k : Nat} {fS : FS} (h : Has K mg x st ps) (S : FnScope N ps (defScope st))
    (hb : ∀ (f : Addr) (cdv : Value) (A : Around) (outer : List Env) (s : Shared) (H : Hp) (E : XK), RG gd k (A.deeper (envOfC x (defScope st) s.heap.objs.size f cdv)) → mg x = some (.ref f) → CdOf K f cdv →
      DSs (cxOf (L2.CX P w) P w K mg base N x (defScope st) f cdv A outer s H E) (WD E) (defBody st) fS) : Callee gd P w K mg base (k + 1) x ps (bodyF ps.length N.length fS) := by
  obtain ⟨f, fd, h1, h2, h3⟩ := h.ex
  exact ⟨f, fd, def_ok h1 S fun cdv A outer s H E hr hc => hb f cdv A outer s H E hr h2 hc, h2, h1.kp, h3⟩
end
theorem bt_abs : bootBuiltins "abs" = some (.builtin "abs") := by decide +kernel
theorem bt_len : bootBuiltins "len" = some (.builtin "len") := by decide +kernel
theorem bt_all : bootBuiltins "all" = some (.builtin "all") := by decide +kernel
theorem bt_any : bootBuiltins "any" = some (.builtin "any") := by decide +kernel
theorem bt_max : bootBuiltins "max" = some (.builtin "max") := by decide +kernel
theorem bt_min : bootBuiltins "min" = some (.builtin "min") := by decide +kernel
theorem bt_int : bootBuiltins "int" = some (.type "int") := by decide +kernel
theorem bt_bool : bootBuiltins "bool" = some (.type "bool") := by decide +kernel
theorem bt_str : bootBuiltins "str" = some (.type "str") := by decide +kernel
theorem bt_list : bootBuiltins "list" = some (.type "list") := by decide +kernel
theorem bt_tuple : bootBuiltins "tuple" = some (.type "tuple") := by decide +kernel
theorem bt_repr : bootBuiltins "repr" = some (.builtin "repr") := by decide +kernel
end DL
set_option Elab.async false
set_option linter.all false
set_option maxRecDepth 100000
set_option maxHeartbeats 4000000
namespace DL
open PySem PySem.Spec PyProof.Rows L2

/-! ### room -/
theorem ru64 {g : Bool} {k : Nat} {A : Around} (h : RG g k A) : A.units + 64 < cLine := h.rm.units
theorem ru65 {g : Bool} {k : Nat} {A : Around} (h : RG g k A) : A.units + 65 < cLine := by have := h.rm.un; omega
theorem ru128 {g : Bool} {k : Nat} {A : Around} (h : RG g k A) : A.units + 128 < cLine := by have := h.rm.un; omega
def muI (i : Nat) (env : EnvD) : Nat := match env[i]? with
  | some (some (.val (.int k))) => k.natAbs + 1
  | _ => 0
theorem dg_tupC {X : Cx} {K : PySem.W.Frag} {es : List Expr} {p : Pos} {k n : Nat} {gs : TGs} {gts : GTs} {tgs : List Nat} (hc : X.calm = true) (h : DGs X es gs gts tgs) (hl : gtsLen gts n)
    (hn : (assignEach es X.env).length = n := by rfl) (hst : (assignEach es X.env).findIdx? (·.1) = none := by rfl) (hK : X.K = K := by rfl) : DG X (.Tuple es k p) (gTup K n gs) (gtTup gts) tgs := by
  subst hK
  exact dg_tup h hl (pg_tup hc h.pg hn hst)

/-! ### constants of the text, at any depth -/
mutual
def cB (K : PySem.W.Frag) : PyData → Value → Bool
  | .none, u => (match u with
    | .none => true
    | _ => false)
  | .bool b, u => (match u with
    | .bool c => b == c
    | _ => false)
  | .int i, u => (match u with
    | .int j _ => decide (i = j)
    | _ => false)
  | .str x, u => (match u with
    | .str y _ => decide (x = y)
    | _ => false)
  | .tuple ds, u => (match u with
    | .ref a => (match K.lookup a with
      | some ⟨.type c, _, .seq its _, _⟩ => decide (c = "tuple") && (decide (its.size ≤ sizeLine) && cBs K ds its.toList)
      | _ => false)
    | _ => false)
  | _, _ => false
def cBs (K : PySem.W.Frag) : List PyData → List Value → Bool
  | [], us => us.isEmpty
  | d :: ds, us => (match us with
    | u :: us => cB K d u && cBs K ds us
    | _ => false)
end
mutual
theorem cB_ok {K : PySem.W.Frag} : ∀ (d : PyData) (u : Value), cB K d u = true → ∃ v, RelV v u ∧ ∀ F, Rp K F v d
  | .none, u, h => by
    cases u with
    | none => exact ⟨.non, rfl, fun _ => .non⟩
    | _ => simp [cB] at h
  | .bool b, u, h => by
    cases u with
    | bool c => simp [cB] at h; subst h; exact ⟨.bl b, rfl, fun _ => .bl b⟩
    | _ => simp [cB] at h
  | .int i, u, h => by
    cases u with
    | int j t => simp [cB] at h; subst h; exact ⟨.int i, ⟨t, rfl⟩, fun _ => .int i⟩
    | _ => simp [cB] at h
  | .str x, u, h => by
    cases u with
    | str y t => simp [cB] at h; subst h; exact ⟨.str x, ⟨t, rfl⟩, fun _ => .str x⟩
    | _ => simp [cB] at h
  | .tuple ds, u, h => by
    cases u with
    | ref a =>
      unfold cB at h
      dsimp only at h
      split at h
      · rename_i c od its n sl hl
        simp only [Bool.and_eq_true, decide_eq_true_eq] at h
        obtain ⟨h1, h2, h3⟩ := h
        obtain ⟨vs, r1, r2⟩ := cBs_ok ds its.toList h3
        exact ⟨.ref a, rfl, fun F => .tup (.inr ⟨_, its, n, hl, congrArg Value.type h1, rfl, h2, r1⟩) (r2 F)⟩
      · cases h
    | _ => simp [cB] at h
  | .list _, u, h => by simp [cB] at h
  | .dict _, u, h => by simp [cB] at h
theorem cBs_ok {K : PySem.W.Frag} : ∀ (ds : List PyData) (us : List Value), cBs K ds us = true → ∃ vs, Vals vs us ∧ ∀ F, RpL K F vs ds
  | [], us, h => by
    cases us with
    | nil => exact ⟨[], .nil, fun _ => .nil⟩
    | cons _ _ => simp [cBs] at h
  | d :: ds, us, h => by
    cases us with
    | nil => simp [cBs] at h
    | cons u us =>
      simp only [cBs, Bool.and_eq_true] at h
      obtain ⟨v, r1, r2⟩ := cB_ok d u h.1
      obtain ⟨vs, r3, r4⟩ := cBs_ok ds us h.2
      exact ⟨v :: vs, .cons r1 r3, fun F => .cons (r2 F) (r4 F)⟩
end
/-- the module's name x stands for the constant d -/
def glB (K : PySem.W.Frag) (x : Str) (d : PyData) : Bool := match PySem.W.nsIn K mainGlobals x with
  | some (some u) => cB K d u
  | _ => false
theorem glB_ok {K : PySem.W.Frag} {h : Heap} {mg : Str → Option Value} (X : K.In h) (G : h.Ns mainGlobals mg) {x : Str} {d : PyData} (c : glB K x d = true) : GlD K mg x d := by
  unfold glB at c
  split at c
  · rename_i u e
    obtain ⟨v, r1, r2⟩ := cB_ok d u c
    exact ⟨v, u, PySem.W.mg_of X G e, r1, r2⟩
  · cases c

/-! ### d.get(k), d a dict of the module with text keys -/
def KD (K : PySem.W.Frag) (w : World) (a : Addr) : Prop := ∃ es n, K.lookup a = some ⟨.type "dict", none, .dict es n, #[]⟩ ∧ PySem.W.KeysLit w.params es.toList ∧ (a == sysModules) = false
def KGet (K : PySem.W.Frag) (a : Addr) (z : Str) : Option V → Prop
  | none => PySem.W.nsIn K a z = some none
  | some v => ∃ u, PySem.W.nsIn K a z = some (some u) ∧ RelV v u
def tKGet (K : PySem.W.Frag) (w : World) (td ty : TE) : TE := fun σ H Q => td σ H fun x H1 => ∃ a, x = .ref a ∧ KD K w a ∧ ty σ H1 fun y H2 => ∃ z ov, y = .str z ∧ KGet K a z ov ∧ Q (ov.getD .non) H2
section
variable {X : Cx} {W : WX} {o e : Expr} {apos cpos : Pos} {td ty : TE} {f : FE}
theorem pe_kget (ho : PE X o td) (he : PE X e ty) (m : M1 X o "get" apos e cpos) : PE X (.Call (.Attribute o "get" apos) [e] [] cpos) (tKGet X.K X.w td ty) := by
  refine ⟨fun pins s σ H Q I h => ?_⟩
  refine wpAny_Call_method m.base m.few m.line PySem.F.plainAttrs_dict PySem.F.slot_dict_get PySem.F.type_dict_get (thn (ho.run pins s σ H _ I h) fun u s1 ⟨x, H1, I1, rx, a, ex, d, q1⟩ => ?_)
  subst ex
  obtain rfl : u = Value.ref a := rx
  obtain ⟨es, n, hl, hk, low⟩ := d
  have hm1 := PySem.W.mapOf_K (prog := X.prog) (w := X.w) I1.kIn hl hk
  refine ⟨hm1.typeIs, fun b q => ?_, ?_⟩
  · cases q
    exact ⟨_, I1.kIn _ _ hl, rfl⟩
  rw [m.trees]
  refine Calls.callWith_builtin rfl (Calls.evalArgs_plain (Calls.spliced_cons (thn (he.run pins s1 σ H1 _ I1 q1) fun iv s2 ⟨y, H2, I2, ry, z, ov, ey, g, q2⟩ => Calls.spliced_nil ?_)))
  subst ey
  obtain ⟨t, rfl⟩ := (show ∃ t, iv = Value.str z t from ry)
  have hm2 := PySem.W.mapOf_K (prog := X.prog) (w := X.w) I2.kIn hl hk
  refine call_meetsIn PySem.F.slot_dict_get hm2.typeIs PySem.F.entry_dict_get (PySem.F.args_dict_get_2 _ _) (meets_dict_get (strKind X.prog X.w) a (strKind_is X.prog X.w z t) low) ⟨_, hm2, ?_⟩
  cases ov with
  | none =>
    rw [PySem.W.find_K hl g]
    exact ⟨.non, H2, I2.tok _, rfl, q2⟩
  | some v =>
    obtain ⟨u, g1, g2⟩ := g
    rw [PySem.W.find_K hl g1]
    exact ⟨_, H2, I2.tok _, g2, q2⟩
end
def lookS (z : Str) : List (Str × PyData) → Option PyData
  | [] => none
  | (k, d) :: r => if k = z then some d else lookS z r
/-- the module's name x stands for that dict -/
structure KDic (K : PySem.W.Frag) (w : World) (mg : Str → Option Value) (x : Str) (es : List (Str × PyData)) : Prop where
  ex : ∃ a, mg x = some (.ref a) ∧ KD K w a ∧ ∀ z, match lookS z es with
    | none => PySem.W.nsIn K a z = some none
    | some d => ∃ u v, PySem.W.nsIn K a z = some (some u) ∧ RelV v u ∧ ∀ F, Rp K F v d
def kgetD (es : List (Str × PyData)) : Sl → EnvD → M (Sl × EnvD) := fun s env => match rd s env with
  | some (.str z) => match lookS z es with
    | none => M.ok (.val .none, env)
    | some d => M.ok (.val d, env)
  | _ => none
def eKGet (es : List (Str × PyData)) (f : FE) : FE := fun env => M.bind (f env) fun p => kgetD es (fz p.1) p.2
section
variable {X : Cx} {W : WX} {o e : Expr} {apos cpos : Pos} {f : FE}
theorem de_kget {x : Str} {p : Pos} {es : List (Str × PyData)} (h : KDic X.K X.w X.mg x es) (hg : Gl X x) (he : DE X W e f) (m : M1 X (.Name x p) "get" apos e cpos) (hd : (x == ("__debug__" : Str)) = false := by decide) :
    DE X W (.Call (.Attribute (.Name x p) "get" apos) [e] [] cpos) (eKGet es f) := by
  obtain ⟨t, pe, se⟩ := he.ex
  obtain ⟨a, h1, h2, h3⟩ := h.ex
  refine ⟨_, pe_kget (pe_glob (v := .ref a) hg h1 rfl hd) pe m, fun G O P ts env σ F H Q S hp => ?_⟩
  refine ⟨a, rfl, h2, se.thn S hp fun s env' v F' H' S' hp' => ?_⟩
  unfold kgetD at hp'
  cases q : rd s env' with
  | none => rw [q] at hp'; exact hp'.elim
  | some d =>
    rw [q] at hp'
    have rv := S'.sh (s := s) (v := v) (by simp) q
    cases d with
    | str z =>
      cases rv
      have h4 := h3 z
      cases q2 : lookS z es with
      | none =>
        rw [q2] at h4
        simp only [q2] at hp'
        exact ⟨z, none, rfl, h4, hp' .non F' H' S'.pop Rp.non⟩
      | some d =>
        rw [q2] at h4
        simp only [q2] at hp'
        obtain ⟨u, v, y1, y2, y3⟩ := h4
        exact ⟨z, some v, rfl, ⟨u, y1, y2⟩, hp' v F' H' S'.pop (y3 F')⟩
    | _ => exact hp'.elim
end
end DL
set_option Elab.async false
set_option linter.all false
set_option maxRecDepth 100000
set_option maxHeartbeats 4000000
namespace DL
open PySem PySem.Spec PyProof.Rows L2

/-! ### l.index(x), l.count(x) -/
def rCountD (K : PySem.W.Frag) : V → List V → Hp → VK → Prop := fun x xs H Q => ∃ (a : Addr) (y : V) (d : PyData) (ds : List PyData), x = V.ref a ∧ xs = [y] ∧ Dp K H (V.ref a) (.list ds) ∧ Dp K H y d ∧
  SeqAt.shaped (.list ds) = true ∧ SeqAt.shaped d = true ∧ Q (.int (ds.countP fun z => PyData.eqv z d : Nat)) H
theorem mt_countD {X : Cx} (hu : X.A.units + 65 < cLine) : MtR X "list.count" (rCountD X.K) := by
  intro pins s σ H x xs v us Q I rx rxs h
  obtain ⟨a, y, d, ds, rfl, rfl, hl, hy, sl, sd, q⟩ := h
  cases rx
  cases rxs with
  | cons ry rt =>
    rename_i uy ut
    cases rt
    obtain ⟨bs, r1⟩ := Dp.reads I d y uy hy ry
    have hxs : PyData.canLayAll0 ds = true := SeqAt.canLay_of_shaped sl
    have hroom : X.A.units + 1 + min (PyData.depthAll ds) d.depth < cLine := room_in_shaped sd hu
    cases hl with
    | lst hs ha =>
      obtain ⟨its, rv, ⟨⟨cls, dd, data, sls⟩, n, ho, hc, hdn, hdt⟩, hlen⟩ := I.list hs
      simp only at hc hdt
      subst hc hdt
      obtain ⟨as, h4⟩ := Dp.readsAll I ds _ its ha rv
      have hmap : its.map (SeqAt.readOf s.heap) = ds := SeqAt.readsAll_map ds its as hxs h4
      refine call_meets PySem.F.slot_list_count ⟨_, ho, rfl⟩ PySem.F.entry_list_count (PySem.F.args_list_count_2 _ _)
        (SeqAt.list_countAt a its.toArray n dd sls uy (fun u => PyData.eqv (SeqAt.readOf s.heap u) d)) ⟨ho, SeqAt.items_eqAt (vs := its.toArray) (show ReadsAll s.heap its.toArray.toList ds as from h4) r1 hxs (SeqAt.canLay_of_shaped sd) hroom, ?_⟩
      have e1 : its.toArray.toList.countP (fun u => PyData.eqv (SeqAt.readOf s.heap u) d) = ds.countP fun z => PyData.eqv z d := by
        rw [← hmap, List.countP_map] <;> rfl
      rw [e1]
      exact ⟨.int (ds.countP fun z => PyData.eqv z d : Nat), H, I.tok _, ⟨_, rfl⟩, q⟩
/-- the first place of an equal one -/
def idxN (ds : List PyData) (d : PyData) : Nat → Option Nat := fun k => match ds with
  | [] => none
  | z :: r => if PyData.eqv z d = true then some k else idxN r d (k + 1)
theorem idxN_ok {d : PyData} : ∀ {ds : List PyData} {k j : Nat}, idxN ds d k = some j → ∃ z, k ≤ j ∧ ds[j - k]? = some z ∧ PyData.eqv z d = true ∧ ∀ (m : Nat) (z' : PyData), m < j - k → ds[m]? = some z' → PyData.eqv z' d = false
  | [], k, j, h => by cases h
  | z :: r, k, j, h => by
    unfold idxN at h
    split at h
    · cases h
      exact ⟨z, Nat.le_refl _, by simp, by assumption, fun m z' hm _ => by omega⟩
    · rename_i hz
      obtain ⟨y, h1, h2, h3, h4⟩ := idxN_ok h
      have e : j - k = (j - (k + 1)) + 1 := by omega
      refine ⟨y, by omega, by rw [e]; simpa using h2, h3, fun m z' hm hz' => ?_⟩
      cases m with
      | zero =>
        simp at hz'
        subst hz'
        simpa using hz
      | succ m => exact h4 m z' (by omega) (by simpa using hz')
def indexD (l d : PyData) : Option Sl := match l with
  | .list ds => if SeqAt.shaped (.list ds) = true ∧ SeqAt.shaped d = true then (match idxN ds d 0 with
    | some j => some (.val (.int (j : Nat)))
    | none => none) else none
  | _ => none
def countD (l d : PyData) : Option Sl := match l with
  | .list ds => if SeqAt.shaped (.list ds) = true ∧ SeqAt.shaped d = true then some (.val (.int (ds.countP fun z => PyData.eqv z d : Nat))) else none
  | _ => none
def MtD (X : Cx) (r : V → List V → Hp → VK → Prop) (g : PyData → PyData → Option Sl) : Prop := ∀ (G O : Hp) (P : Nat → Option Addr) (ts : List (Sl × V)) (env : EnvD) (σ : L2.St) (F H : Hp) (x y : V) (d1 d2 : PyData) (s : Sl) (Q : VK),
  SR X.K G O P ts env σ F H → Sh X.K F H x d1 → Sh X.K F H y d2 → g d1 d2 = some s → (∀ v F' H', SR X.K G O P ts env σ F' H' → RsOk X.K F' H' O env σ s v → Q v H') → r x [y] H Q
theorem md_index {X : Cx} : MtD X (rIndexD X.K) indexD := by
  intro G O P ts env σ F H x y d1 d2 s Q S h1 h2 e q
  unfold indexD at e
  split at e
  · rename_i ds
    split at e
    · rename_i hs
      split at e
      · rename_i j hj
        cases e
        obtain ⟨z, _, z1, z2, z3⟩ := idxN_ok hj
        obtain ⟨a, xs, rfl, q1, r1⟩ := id h1
        exact ⟨a, y, d2, ds, j, z, rfl, rfl, Sh.dp S.fh (SeqAt.canLay_of_shaped hs.1) h1, Sh.dp S.fh (SeqAt.canLay_of_shaped hs.2) h2, hs.1, hs.2, z1, z2, z3, q _ F H S (.int _)⟩
      · cases e
    · cases e
  · cases e
theorem md_count {X : Cx} : MtD X (rCountD X.K) countD := by
  intro G O P ts env σ F H x y d1 d2 s Q S h1 h2 e q
  unfold countD at e
  split at e
  · rename_i ds
    split at e
    · rename_i hs
      cases e
      obtain ⟨a, xs, rfl, q1, r1⟩ := id h1
      exact ⟨a, y, d2, ds, rfl, rfl, Sh.dp S.fh (SeqAt.canLay_of_shaped hs.1) h1, Sh.dp S.fh (SeqAt.canLay_of_shaped hs.2) h2, hs.1, hs.2, q _ F H S (.int _)⟩
    · cases e
  · cases e
def eM1 (g : PyData → PyData → Option Sl) (fo fe : FE) : FE := fun env => M.bind (fo env) fun p => match rd (fz p.1) p.2 with
  | some (.list _) => M.bind (fe p.2) fun q => fin (g2 g (rd (fz p.1) q.2) (rd (fz q.1) q.2)) q.2
  | _ => none
section
variable {X : Cx} {W : WX} {o e : Expr} {apos cpos : Pos} {fo fe : FE} {name : Str} {id : String} {r : V → List V → Hp → VK → Prop} {g : PyData → PyData → Option Sl}
theorem de_m1 (slot : Slot "list" name id) (hty : typeOf (.builtin id) = pure (.type "method_descriptor")) (hm : MtR X id r) (hg : MtD X r g) (ho : DE X W o fo) (he : DE X W e fe)
    (hbase : attributeBase o name X.env (eval o X.env) = eval o X.env := by rfl)
    (hfew : ((backTo cpos (starEach [e] X.env)).all (fun x => !x.1) && (backToKw cpos (keywordEach [] X.env)).all (fun x => x.1.isSome)
      && decide (([e] : List Expr).length + ([] : List Keyword).length + (if ([] : List Keyword).isEmpty then 0 else 1) < 30)) = true := by rfl)
    (hline : (apos.endLine == cpos.line) = true := by rfl) (hs : starEach [e] X.env = (false, eval e X.env) :: starEach [] X.env := by rfl) (hplain : (backTo cpos (starEach [] X.env)).any (·.1) = false := by rfl) :
    DE X W (.Call (.Attribute o name apos) [e] [] cpos) (eM1 g fo fe) := by
  obtain ⟨to, po, so⟩ := ho.ex
  obtain ⟨te, pe, se⟩ := he.ex
  refine ⟨_, pe_bm PySem.F.plainAttrs_list slot hty hm po (pa_cons pe pa_nil hs) hbase hfew hline hs hplain, fun G O P ts env σ F H Q S hp => ?_⟩
  refine so.thn (k := fun s env' => match rd s env' with
    | some (.list _) => M.bind (fe env') fun q => fin (g2 g (rd s q.2) (rd (fz q.1) q.2)) q.2
    | _ => none) S hp fun s env' v F' H' S' hp' => ?_
  cases q : rd s env' with
  | none => rw [q] at hp'; exact hp'.elim
  | some d =>
    rw [q] at hp'
    cases d with
    | list ds =>
      dsimp only at hp'
      have h1 := S'.sh (s := s) (v := v) (by simp) q
      obtain ⟨a, xs, rfl, q1, r1⟩ := (show Sh X.K F' H' v (.list ds) from h1)
      refine ⟨.inl ⟨rfl, xs, .inl q1⟩, ?_⟩
      refine se.thn (k := fun s2 env2 => fin (g2 g (rd s env2) (rd s2 env2)) env2) S' hp' fun s2 env2 v2 F2 H2 S2 hp2 => ?_
      obtain ⟨sr, e0, q2⟩ := fin_ok hp2
      unfold g2 at e0
      split at e0
      · rename_i da z1
        split at e0
        · rename_i db z2
          have y1 := S2.sh (s := s) (v := .ref a) (by simp) z1
          have y2 := S2.sh (s := s2) (v := v2) (by simp) z2
          exact hg G O P ts env2 σ F2 H2 _ _ da db sr Q (S2.sub fun p hp => by simp [hp]) y1 y2 e0 q2
        · cases e0
      · cases e0
    | _ => exact hp'.elim
end
end DL
set_option Elab.async false
set_option linter.all false
set_option maxRecDepth 100000
set_option maxHeartbeats 4000000
namespace DL
open PySem PySem.Spec PyProof.Rows L2

/-! ### repr of lists and tuples -/
def reprOk (d : PyData) : Bool := PyData.layable0 d && (d.showable && (!d.hasDict && d.intsShort 13))
def reprD : List PyData → Option Sl := fun ds => match ds with
  | [.list xs] => if reprOk (.list xs) = true then some (.val (.str (PyData.shown (.list xs)))) else none
  | [.tuple xs] => if reprOk (.tuple xs) = true then some (.val (.str (PyData.shown (.tuple xs)))) else none
  | _ => none
def rRepr (K : PySem.W.Frag) : List V → Hp → VK → Prop := fun xs H Q => ∃ a d, xs = [.ref a] ∧ Dp K H (.ref a) d ∧ reprOk d = true ∧ Q (.str d.shown) H
section
variable {X : Cx}
theorem call_reprD (hg : X.A.guards = some []) (hu : X.A.units + 128 < cLine) : CallR X (.builtin "repr") (rRepr X.K) := by
  intro pins s σ H xs us Q I r h
  obtain ⟨a, d, rfl, hd, hok, q⟩ := h
  obtain ⟨u, rfl, ru⟩ := r.one
  cases ru
  obtain ⟨as, r1⟩ := Dp.reads I d (.ref a) (.ref a) hd rfl
  unfold reprOk at hok
  simp only [Bool.and_eq_true, Bool.not_eq_true'] at hok
  obtain ⟨h1, h2, h3, h4⟩ := hok
  have h5 : d.shown.length ≤ sizeLine := by
    have := shown_le13 h1 h4
    rw [sizeLine_eq]; omega
  have h6 : d.depth ≤ 64 := by
    have h7 : (PyData.canLay0 d && decide (PyData.depth d ≤ 64) && decide (PyData.weight d ≤ 2 ^ 20)) = true := h1
    simp only [Bool.and_eq_true, decide_eq_true_eq] at h7
    exact h7.1.2
  exact repr_of_reads' r1 h2 (PyData.noDict_hsm h3) hg (by omega) (fun _ _ e => e) (fun h' u tk hk => ⟨.str d.shown, H, I.kept (t' := tk) hk, ⟨u, rfl⟩, q⟩) h5
theorem reprOk_lay {d : PyData} (h : reprOk d = true) : d.canLay0 = true := by
  unfold reprOk at h
  simp only [Bool.and_eq_true] at h
  have h1 : (PyData.canLay0 d && decide (PyData.depth d ≤ 64) && decide (PyData.weight d ≤ 2 ^ 20)) = true := h.1
  simp only [Bool.and_eq_true] at h1
  exact h1.1.1
theorem cd_repr : CallD X (rRepr X.K) reprD := by
  intro G O P ts env σ F H vs ds s Q S h e q
  unfold reprD at e
  split at e
  · split at e
    · rename_i hk
      cases e
      cases h with
      | cons h1 h2 =>
        cases h2
        obtain ⟨a, xs, rfl, z⟩ := id h1
        exact ⟨a, _, rfl, Sh.dp S.fh (reprOk_lay hk) h1, hk, q _ F H S (.str _)⟩
    · cases e
  · split at e
    · rename_i hk
      cases e
      cases h with
      | cons h1 h2 =>
        cases h2
        obtain ⟨a, xs, rfl, z⟩ := Sh.tup S.fh h1
        exact ⟨a, _, rfl, Sh.dp S.fh (reprOk_lay hk) h1, hk, q _ F H S (.str _)⟩
    · cases e
  · cases e
end

/-! ### isinstance of the error that a suite holds -/
/-- the text's classes of errors: each is of itself alone, a ValueError, a WaterError -/
structure ErrF (K : PySem.W.Frag) (mg : Str → Option Value) (cs : List Str) : Prop where
  ex : ∀ c ∈ cs, ∃ D, mg c = some (.ref D) ∧ ExcC K D ∧ PySem.W.kitOne K (.ref D) (.type "ValueError") = some true ∧ (∃ CW, mg "WaterError" = some (.ref CW) ∧ PySem.W.exmOne K (.ref D) (.ref CW) = some true) ∧
    ∀ x ∈ cs, ∃ Cx, mg x = some (.ref Cx) ∧ PySem.W.kitOne K (.ref D) (.ref Cx) = some (decide (c = x))
def eIsE (i a : Nat) (b : Bool) : FE := fun env => match env[i]? with
  | some (some (.al j)) => if j = a then M.ok (.val (.bool b), env) else none
  | _ => none
section
variable {X : Cx} {W : WX} {c x n : Str} {D a : Addr} {oe : Obj} {pn : List (Addr × Obj)} {cs : List Str} {p pe px pos : Pos}
theorem snd_isE {K : PySem.W.Frag} {mg : Str → Option Value} {i : Nat} {b : Bool} {cv : V} {u : Value} (hu : ∀ z, RelV cv z → z = u) (hk : PySem.W.kitOne K (.ref D) u = some b) {tc : TE} (ht : ∀ σ H (Q : VK), Q cv H → tc σ H Q) :
    SndE K mg W (tCB (rIsE K D a) (tCons (tVar i) (tCons tc tNil))) (eIsE i a b) := by
  intro G O P ts env σ F H Q S hp
  unfold eIsE at hp
  cases q : env[i]? with
  | none => rw [q] at hp; exact hp.elim
  | some o =>
    rw [q] at hp
    cases o with
    | none => exact hp.elim
    | some s =>
      cases s with
      | al j =>
        dsimp only at hp
        split at hp
        · rename_i hj
          subst hj
          obtain ⟨v, f1, f2⟩ := S.slot i _ q
          cases f2
          exact ⟨.ref j, f1, ht _ _ _ ⟨cv, u, b, rfl, hu, hk, hp (.bl b) F H S (.bl b)⟩⟩
        · exact hp.elim
      | val _ => exact hp.elim
      | own _ => exact hp.elim
      | pen _ => exact hp.elim
theorem de_isX (i : Nat) (EF : ErrF X.K X.mg cs) (hc : c ∈ cs) (hD : X.mg c = some (.ref D)) (hx : x ∈ cs) (hz : Zc (.ref D) none oe) (hf : ∃ vs, oe.data = .fields vs) (hgi : Gl (X.suite a ((a, oe) :: pn)) "isinstance") (hmi : X.mg "isinstance" = none) (hgx : Gl (X.suite a ((a, oe) :: pn)) x)
    (hN : (X.suite a ((a, oe) :: pn)).N[i]? = some n) (hv : Vis (X.suite a ((a, oe) :: pn)).env.scope n) (hd : (n == ("__debug__" : Str)) = false := by decide) (hcd : (n == ("__classdict__" : Str)) = false := by decide) (hdx : (x == ("__debug__" : Str)) = false := by decide)
    (he : starEach [.Name n pe, .Name x px] (X.suite a ((a, oe) :: pn)).env = (false, eval (.Name n pe) (X.suite a ((a, oe) :: pn)).env) :: starEach [.Name x px] (X.suite a ((a, oe) :: pn)).env := by rfl) (he2 : starEach [.Name x px] (X.suite a ((a, oe) :: pn)).env = (false, eval (.Name x px) (X.suite a ((a, oe) :: pn)).env) :: starEach [] (X.suite a ((a, oe) :: pn)).env := by rfl)
    (hpl : (backTo pos (starEach [.Name x px] (X.suite a ((a, oe) :: pn)).env)).any (·.1) = false := by rfl) :
    DE (X.suite a ((a, oe) :: pn)) W (.Call (.Name "isinstance" p) [.Name n pe, .Name x px] [] pos) (eIsE i a (decide (c = x))) := by
  obtain ⟨D', h1, h2, h3, h4, h5⟩ := EF.ex c hc
  rw [hD] at h1
  cases h1
  obtain ⟨Cx, g1, g2⟩ := h5 x hx
  have pc : PE (X.suite a ((a, oe) :: pn)) (.Name x px) _ := pe_glob (X := X.suite a ((a, oe) :: pn)) (v := .ref Cx) hgx g1 rfl hdx
  exact ⟨_, pe_callB (call_isE h2 hz hf) hgi hmi (by decide +kernel) (pa_cons (pe_var hN hv hd hcd) (pa_cons pc pa_nil he2) he) (by decide) (by decide) he hpl, snd_isE (cv := .ref Cx) (u := .ref Cx) (fun z r => r) g2 fun σ H Q q => q⟩
theorem de_isV (i : Nat) (EF : ErrF X.K X.mg cs) (hc : c ∈ cs) (hD : X.mg c = some (.ref D)) (hz : Zc (.ref D) none oe) (hf : ∃ vs, oe.data = .fields vs) (hgi : Gl (X.suite a ((a, oe) :: pn)) "isinstance") (hmi : X.mg "isinstance" = none) (hgx : Gl (X.suite a ((a, oe) :: pn)) "ValueError") (hmx : X.mg "ValueError" = none)
    (hN : (X.suite a ((a, oe) :: pn)).N[i]? = some n) (hv : Vis (X.suite a ((a, oe) :: pn)).env.scope n) (hd : (n == ("__debug__" : Str)) = false := by decide) (hcd : (n == ("__classdict__" : Str)) = false := by decide)
    (he : starEach [.Name n pe, .Name "ValueError" px] (X.suite a ((a, oe) :: pn)).env = (false, eval (.Name n pe) (X.suite a ((a, oe) :: pn)).env) :: starEach [.Name "ValueError" px] (X.suite a ((a, oe) :: pn)).env := by rfl) (he2 : starEach [.Name "ValueError" px] (X.suite a ((a, oe) :: pn)).env = (false, eval (.Name "ValueError" px) (X.suite a ((a, oe) :: pn)).env) :: starEach [] (X.suite a ((a, oe) :: pn)).env := by rfl)
    (hpl : (backTo pos (starEach [.Name "ValueError" px] (X.suite a ((a, oe) :: pn)).env)).any (·.1) = false := by rfl) :
    DE (X.suite a ((a, oe) :: pn)) W (.Call (.Name "isinstance" p) [.Name n pe, .Name "ValueError" px] [] pos) (eIsE i a true) := by
  obtain ⟨D', h1, h2, h3, h4, h5⟩ := EF.ex c hc
  rw [hD] at h1
  cases h1
  have pc : PE (X.suite a ((a, oe) :: pn)) (.Name "ValueError" px) _ := pe_bltn (X := X.suite a ((a, oe) :: pn)) (v := .ty "ValueError") hgx hmx (by decide +kernel) rfl (by decide) (by decide)
  exact ⟨_, pe_callB (call_isE h2 hz hf) hgi hmi (by decide +kernel) (pa_cons (pe_var hN hv hd hcd) (pa_cons pc pa_nil he2) he) (by decide) (by decide) he hpl, snd_isE (cv := .ty "ValueError") (u := .type "ValueError") (fun z r => r) h3 fun σ H Q q => q⟩
end
end DL
set_option Elab.async false
set_option linter.all false
set_option maxRecDepth 100000
set_option maxHeartbeats 4000000
namespace DL
open PySem PySem.Spec PyProof.Rows L2 LamX

/-! ### x(lambda: ..), x a def that tells what the lambda tells, or a word of the refusal -/
def tSD (K : PySem.W.Frag) (mg : Str → Option Value) (W : WX) (f : FS) : TS := fun D σ H => ∃ G O P env F, SR K G O P [] env σ F H ∧ PostS K mg W G O P D (f env)
theorem DSs.can {X : Cx} {W : WX} {st : List Stmt} {f : FS} (h : DSs X W st f) : PSs X st (tSD X.K X.mg W f) := by
  obtain ⟨t, p, s⟩ := h.ex
  exact ⟨fun pins sh σ H D I ⟨G, O, P, env, F, S, hp⟩ => p.run pins sh σ H D I (s G O P env σ F H D S hp)⟩
section
variable {K : PySem.W.Frag} {mg : Str → Option Value} {G O F F' F2 H H1 H2 H3 : Hp} {P : Nat → Option Addr} {ts : List (Sl × V)} {env : EnvD} {σ : L2.St}
/-- a lambda was made -/
theorem SR.lam (h : SR K G O P ts env σ F H) (e : ExtN H H1) (t : Tabs (TabK K) H1) : SR K G O P ts env σ F H1 := by
  refine ⟨h.gf, fun b x q => e b x (h.fh b x q) fun ps z => h.nt b ps (z ▸ q), h.oh.lam e t, h.dj, h.len, fun i s q => ?_, h.tmp, h.sep, h.nt⟩
  obtain ⟨v, f1, f2⟩ := h.slot i s q
  refine ⟨v, f1, ?_⟩
  cases s with
  | val d => exact f2
  | own o =>
    obtain ⟨a, rfl, z1, z2, z3⟩ := f2
    obtain ⟨u, y1, y2⟩ := z3.soft
    exact ⟨a, rfl, z1, z2, z3.mono (Same.refl _) (by rw [e a u y1 y2.nt, y1])⟩
  | pen o =>
    obtain ⟨a, rfl, z0, z1, z2, z3⟩ := f2
    obtain ⟨u, y1, y2⟩ := z3.soft
    exact ⟨a, rfl, z0, z1, z2, z3.mono (Same.refl _) (by rw [e a u y1 y2.nt, y1])⟩
  | al j => exact f2
def mrg (F F' : Hp) : Hp := fun b => match F b with
  | some x => some x
  | none => F' b
theorem mrg_l : Same F (mrg F F') := fun b x q => by unfold mrg; rw [q]
theorem mrg_r (h : ∀ b x, F b = some x → F' b = none) : Same F' (mrg F F') := fun b x q => by
  unfold mrg
  cases e : F b with
  | none => exact q
  | some y => rw [h b y e] at q; cases q
/-- something else's heap behind it -/
theorem SR.mrg (h : SR K G O P ts env σ F2 H2) (e : ∀ b x, H2 b = some x → (∀ ps, x ≠ .tbl ps) → H3 b = some x ∧ F' b = none) (t : Tabs (TabK K) H3) (sf : Same F' H3) (nt : NoT F') : SR K G O P ts env σ (mrg F2 F') H3 := by
  have cs : ∀ b x, DL.mrg F2 F' b = some x → F2 b = some x ∨ (F2 b = none ∧ F' b = some x) := fun b x q => by
    unfold DL.mrg at q
    cases z : F2 b with
    | none => rw [z] at q; exact .inr ⟨rfl, q⟩
    | some y => rw [z] at q; exact .inl q
  have nn : ∀ b, F2 b = none → F' b = none → DL.mrg F2 F' b = none := fun b q1 q2 => by unfold DL.mrg; rw [q1]; exact q2
  refine ⟨h.gf.trans mrg_l, fun b x q => ?_, ⟨fun b x q => (e b x (h.oh.val b x q) fun ps z => h.oh.nt b ps (z ▸ q)).1, h.oh.nt, t⟩, fun b x q => ?_, h.len, fun i s q => ?_, fun p hp => (h.tmp p hp).mono mrg_l, h.sep, fun b ps q => ?_⟩
  · rcases cs b x q with z | ⟨_, z⟩
    · exact (e b x (h.fh b x z) fun ps y => h.nt b ps (y ▸ z)).1
    · exact sf b x z
  · exact nn b (h.dj b x q) (e b x (h.oh.val b x q) fun ps z => h.oh.nt b ps (z ▸ q)).2
  · obtain ⟨v, f1, f2⟩ := h.slot i s q
    refine ⟨v, f1, ?_⟩
    cases s with
    | val d => exact Rp.mono mrg_l _ _ f2
    | own o =>
      obtain ⟨a, rfl, z1, z2, z3⟩ := f2
      obtain ⟨u, y1, y2⟩ := z3.soft
      obtain ⟨g1, g2⟩ := e a u y1 y2.nt
      exact ⟨a, rfl, nn a z1 g2, z2, z3.mono mrg_l (by rw [g1, y1])⟩
    | pen o =>
      obtain ⟨a, rfl, z0, z1, z2, z3⟩ := f2
      obtain ⟨u, y1, y2⟩ := z3.soft
      obtain ⟨g1, g2⟩ := e a u y1 y2.nt
      exact ⟨a, rfl, z0, nn a z1 g2, z2, z3.mono mrg_l (by rw [g1, y1])⟩
    | al j => exact f2
  · rcases cs b _ q with z | ⟨_, z⟩
    · exact h.nt b ps z
    · exact nt b ps z
end
/-- what the def that calls wishes of a refusal -/
def EchS (K : PySem.W.Frag) (mg : Str → Option Value) (cs : List Str) (said : Str → PyData) (Q : VK) : XK := fun cls d H1 => d = none ∧ ∃ c C, cls = .ref C ∧ mg c = some (.ref C) ∧ c ∈ cs ∧ Tabs (TabK K) H1 ∧
  ∀ v F' H2, (∀ b x, H1 b = some x → (∀ ps, x ≠ .tbl ps) → H2 b = some x ∧ F' b = none) → Tabs (TabK K) H2 → Same F' H2 → NoT F' → Rp K F' v (said c) → Q v H2
def TTs (K : PySem.W.Frag) (mg : Str → Option Value) (cs : List Str) (told : Str) (said : Str → PyData) : (XK → Hp → VK → Prop) → Hp → VK → Prop := fun tl H Q =>
  tl (EchS K mg cs said Q) H fun v H1 => ([V.str told, v] : List V).length ≤ sizeLine ∧ ∀ p, H1 p = none → Q (.ref p) (upd H1 p (.tup [.str told, v]))
def hEnv (n i a : Nat) : EnvD := (List.replicate n none).set i (some (.al a))
theorem sr_hand {K : PySem.W.Frag} {H1 : Hp} {σ : L2.St} {n i a : Nat} (hn : σ.length = n) (hi : i < n) (t : Tabs (TabK K) H1) : SR K (fun _ => none) (fun b => match H1 b with | some (.tbl _) => none | o => o) (fun _ => none) [] (hEnv n i a) (σ.set i (some (.ref a))) (fun _ => none) H1 := by
  have at_ : ∀ (j : Nat) (s : Sl), (hEnv n i a)[j]? = some (some s) → j = i ∧ s = .al a := fun j s q => by
    unfold hEnv at q
    by_cases hj : i = j
    · subst hj
      rw [List.getElem?_set_self (by simpa using hi)] at q
      cases q
      exact ⟨rfl, rfl⟩
    · rw [List.getElem?_set_ne hj, List.getElem?_replicate] at q
      split at q <;> cases q
  refine ⟨Same.refl _, fun b x q => (by cases q), ⟨fun b x q => ?_, fun b ps q => ?_, t⟩, fun _ _ _ => rfl, by simp [hEnv, hn], fun j s q => ?_, fun p hp => absurd hp (by simp), fun j k s s' b q1 q2 w1 => ?_, fun b ps q => (by cases q)⟩
  · split at q
    · cases q
    · exact q
  · split at q
    · cases q
    · rename_i z
      exact z ps q
  · obtain ⟨rfl, rfl⟩ := at_ j s q
    exact ⟨.ref a, by rw [List.getElem?_set_self (by omega)], rfl⟩
  · obtain ⟨_, rfl⟩ := at_ j s q1
    exact w1.elim
section
variable {X : Cx}
theorem said_gives {Ng : List Str} {x a e q told : Str} {sg : Scope} {g CW : Addr} {cdg : Value} {i j kk : Nat} {p0 p1 p2 p3 p4 p7 p8 pt : Pos} {b0 : Stmt} {suite : List Stmt} {cs : List Str} {hS : Str → Nat → FS} {said : Str → PyData} (EF : ErrF X.K X.mg cs)
    (hge : sg.names.lookup ("WaterError" : Str) = some .globalImplicit) (hCW : X.mg "WaterError" = some (.ref CW)) (hN : Ng.Nodup) (hi : Ng[i]? = some e) (hle : sg.names.lookup e = some .local) (h0 : ∀ f : Addr, (L2.start Ng [V.ref f])[0]? = some (some (V.ref f)))
    (hH : ∀ (s : Shared) (H : Hp) (c : Str) (D ad : Addr) (oe : Obj) (pn : List (Addr × Obj)), c ∈ cs → X.mg c = some (.ref D) → Zc (.ref D) none oe → (∃ vs, oe.data = .fields vs) →
      DSs (((cxOf C8.CX0 X.prog X.w X.K X.mg X.base Ng x sg g cdg X.A X.stack s H C8.E0).nox).suite ad ((ad, oe) :: pn)) WF (b0 :: suite) (hS c ad))
    (hv : ∀ c ad, c ∈ cs → ∃ env', hS c ad (hEnv Ng.length i ad) = M.ok (.rt (.val (said c)) env')) :
    GivesTo X Ng x sg g cdg [.Try [.Return (some (.Tuple [.Constant (.str told) j p0, .Call (.Name a p1) [] [] p2] kk pt)) p3] [.ExceptHandler (some (.Name "WaterError" p4)) (some e) (b0 :: suite) p7] [] [] p8] a q (TTs X.K X.mg cs told said) := by
  intro f c' s H Q tl act hc h
  have hgl : Gl (cxOf C8.CX0 X.prog X.w X.K X.mg X.base Ng x sg g cdg X.A X.stack s H C8.E0).nox "WaterError" := hge
  have hin : i < Ng.length := (List.getElem?_eq_some_iff.mp hi).1
  refine ⟨_, pss_one (ps_try_as (X := (cxOf C8.CX0 X.prog X.w X.K X.mg X.base Ng x sg g cdg X.A X.stack s H C8.E0).nox) (c := .ref CW) (i := i) (n := e)
      (tb := fun W D σ H => ∃ Ech : XK, (∀ cls d σ' H', Ech cls d H' → W cls d σ' H') ∧ σ[0]? = some (some (.ref f)) ∧ H c' = some (CodeO c' q) ∧ tl Ech H fun v H1 => ([V.str told, v] : List V).length ≤ sizeLine ∧ ∀ p, H1 p = none → D.rt (.ref p) (upd H1 p (.tup [.str told, v])))
      (ts := fun ad cls d D σ H => σ.length = Ng.length → ∃ c C, cls = .ref C ∧ d = none ∧ X.mg c = some (.ref C) ∧ c ∈ cs ∧ tSD X.K X.mg WF (hS c ad) D σ H)
      rfl rfl hN hi hle ⟨hgl, by decide, .inl hCW⟩ L2.takes0 (fun W pn xe tk _ => ?_) (fun ad oe cls d pn hz hf => ?_)), ?_⟩
  · refine ⟨fun pins s' σ H' D I h' => ?_⟩
    obtain ⟨Ech, hW, h1, h2, h3⟩ := h'
    have hp := act W pn xe Ech p1 p2 tk hW
    have hq := pss_one (ps_ret (pos := p3) (pe_tup (x1 := kk) (pos := pt) (pa_cons (pe_str (x := told) (j := j) (pos := p0)) (pa_cons hp pa_nil))))
    exact hq.run pins s' σ H' D I ⟨h1, h2, h3⟩
  · refine ⟨fun pins sh σ H' D I hh => ?_⟩
    obtain ⟨c, C, rfl, rfl, hcm, hcs, h1⟩ := hh I.len
    exact (hH s H c C ad oe pn hcs hcm hz hf).can.run pins sh σ H' D I h1
  · refine ⟨EchS X.K X.mg cs said Q, fun cls d σ' H' hE => ?_, h0 f, hc, h⟩
    obtain ⟨rfl, c, C, rfl, hcm, hcs, tb, hq⟩ := hE
    obtain ⟨D', y1, y2, y3, ⟨CW', y4, y5⟩, y6⟩ := EF.ex c hcs
    rw [hcm] at y1
    cases y1
    rw [hCW] at y4
    cases y4
    refine ⟨true, y5, fun _ ad na hl => ⟨c, C, rfl, rfl, hcm, hcs, ?_⟩, fun z => by cases z⟩
    have hl' : σ'.length = Ng.length := by simpa using hl
    refine ⟨_, _, _, _, _, sr_hand hl' hin tb, ?_⟩
    obtain ⟨env', e1⟩ := hv c ad hcs
    rw [e1]
    intro v σ2 F' H2 S2 r2
    refine hq v F' H2 (fun b x hb hx => ?_) S2.oh.tb S2.fh S2.nt r2
    have ho : (match H' b with | some (.tbl _) => none | o => o) = some x := by
      rw [hb]
      cases x with
      | tbl ps => exact absurd rfl (hx ps)
      | _ => rfl
    exact ⟨S2.oh.val b x ho, S2.dj b x ho⟩
end
def saidF (cs : List Str) (told : Str) (said : Str → PyData) (fb : FE) : FE := fun env => match fb env with
  | none => none
  | some (.ok p) => match frz1 (fz p.1) p.2 with
    | some q => M.ok (.val (.tuple [.str told, q.1]), q.2)
    | none => none
  | some (.err c env1) => if c ∈ cs then M.ok (.val (said c), env1) else none
section
variable {X : Cx} {W : WX}
theorem snd_said {cs : List Str} {told : Str} {said : Str → PyData} {fb : FE} {σ : L2.St} : SndE X.K X.mg W (tLam (TabK X.K) (TTs X.K X.mg cs told said) fun E => tE X.K X.mg (WD E) fb) (saidF cs told said fb) := by
  intro G O P ts env σ F H Q S hp
  refine ⟨S.oh.tb, fun H1 eN T1 => ?_⟩
  have S1 := S.lam eN T1
  refine ⟨F, O, P, [], env, F, (S1.sub (ts' := []) (fun p hp => absurd hp (by simp))).base, ?_⟩
  unfold saidF at hp
  cases e : fb env with
  | none => rw [e] at hp; exact hp.elim
  | some o =>
    rw [e] at hp
    cases o with
    | ok pr =>
      intro v F2 H2 S2 r2
      refine ⟨by rw [sizeLine_eq]; show 2 ≤ 16777216; decide, fun p np => ?_⟩
      dsimp only at hp
      obtain ⟨F3, m3, S3⟩ := S2.keep r2
      cases e2 : frz1 (fz pr.1) pr.2 with
      | none => rw [e2] at hp; exact hp.elim
      | some q =>
        obtain ⟨d, env2⟩ := q
        rw [e2] at hp
        obtain ⟨F4, m4, S4, r4⟩ := S3.frz1 (S3.tmp (fz pr.1, v) (by simp)) e2
        obtain ⟨S5, r5⟩ := (S4.pop).valT np (.cons (Rp.str told) (.cons r4 .nil))
        exact hp _ _ _ ((S5.retmp S1 S5.gf).rebase S.gf) r5
    | err c env1 =>
      dsimp only at hp
      split at hp
      · rename_i hc
        intro C F2 H2 hcm S2
        refine ⟨rfl, c, C, rfl, hcm, hc, S2.oh.tb, fun v F' H3 e3 T3 sf nt r => ?_⟩
        have dis : ∀ b x, F2 b = some x → F' b = none := fun b x q => (e3 b x (S2.fh b x q) fun ps z => S2.nt b ps (z ▸ q)).2
        exact hp v _ H3 (((S2.retmp S1 S2.gf).mrg e3 T3 sf nt).rebase S.gf) (Rp.mono (mrg_r dis) _ _ r)
      · exact hp.elim
theorem de_said {cs : List Str} {told : Str} {said : Str → PyData} {fb : FE} {x a : Str} {g c P : Addr} {k : Nat} {pg : Arguments} {bg : List Stmt} {sg : Scope} {dV kV doc pm cdv ct oc : Value} {an od : Option Addr} {osl : Array (Option Value)} {Ng : List Str}
    {params : Arguments} {body : Expr} {scope : Scope} {p lpos pos : Pos} (hg : Gl X x) (hm : X.mg x = some (.ref g)) (hk : PySem.W.keepIn X.K (.ref g) = true)
    (lk : X.K.lookup g = some ⟨oc, od, .func (PySem.W.fnOf x x pg bg sg dV kV doc pm an cdv ct), osl⟩) (hcg : PySem.W.codeIn X.K cdv x = true) (hb : L2.Binds X.K (PySem.W.fnOf x x pg bg sg dV kV doc pm an cdv ct) [a] []) (Sg : FnScope Ng [a] sg) (hNg : Ng[0]? = some a) (hva : Vis sg a)
    (hG : GivesTo X Ng x sg g cdv bg a (X.env.qual ++ "<lambda>") (TTs X.K X.mg cs told said))
    (TB : TabB X.base X.mg c P) (hcode : X.env.code = .ref c) (hmT : (P, X.env.qual ++ "<lambda>") ∈ TabK X.K) (hu : ∀ p ∈ TabK X.K, p.1 = P → p.2 = X.env.qual ++ "<lambda>") (hr : Room (k + 2) X.A) (L : LamS X.env.scope scope) (hdef : defaultsOf params X.env = ([], []))
    (hbind : ∀ (q : Str) (cl : List (Str × Addr)) (pm cv ctv : Value), bindArgs (PySem.W.kla_fn "<lambda>" q params body scope cl pm cv ctv) ⟨[], []⟩ = pure [])
    (hbody : ∀ (A : Around) (outer : List Env) (s : Shared) (H : Hp) (E : XK) (f c' : Addr), Room k (A.deeper (lamEnv X scope s.heap.objs.size f c')) → DE (lamCx X A outer s H E scope f c') (WD E) body fb)
    (hdb : (x == ("__debug__" : Str)) = false := by decide) (hd : (a == ("__debug__" : Str)) = false := by decide) (hcd : (a == ("__classdict__" : Str)) = false := by decide) :
    DE X W (.Call (.Name x p) [.Lambda params body scope lpos] [] pos) (saidF cs told said fb) :=
  ⟨_, pe_lamcall (k := k) hg hm hk lk hcg hb Sg hNg hva hG TB hcode hmT hu hr L hdef hbind (fun A outer s H E f c' hr2 => (hbody A outer s H E f c' hr2).can) hdb hd hcd, snd_said (σ := [])⟩
end
end DL
set_option Elab.async false
set_option linter.all false
set_option maxRecDepth 100000
set_option maxHeartbeats 4000000
namespace DL
open PySem PySem.Spec PyProof.Rows L2 LamX

/-! ### the end of a law's row: the script stays, the tables grow -/
/-- the heap that is tracked at the law's beginning: the script at a, the tables -/
def H0 (a : Addr) (vs : List Value) (ns : List Int) (T : List Addr) : Hp := fun b => if b = a then some (.frz { cls := .type "list", data := .seq vs.toArray } (.lst (ns.map V.int))) else if b ∈ T then some (.tbl #[]) else none
theorem law_end {P : Program} {w : World} {K : PySem.W.Frag} {mg mb : Str → Option Value} {k : Nat} {fa a : Addr} {cs : List (Addr × Addr)} {x : Str} {m : MF} {s₁ : Shared} {vs : List Value} {ns : List Int}
    (KX : K.In s₁.heap) (hns : s₁.heap.Ns mainGlobals mg) (hb : s₁.heap.Ns builtinsNs mb) (hbb : ∀ x : Str, x ≠ "__name__" → mb x = bootBuiltins x) (hlim : s₁.heap.NoLimit) (hg : s₁.gens = #[])
    (hT : ∀ p ∈ cs, s₁.heap.get? p.2 = some { cls := .none, data := .fields #[] }) (nT : ∀ p ∈ cs, K.lookup p.2 = none) (C : ∀ p ∈ cs, PySem.W.CodeHd s₁.heap p.1 p.2) (hTK : ∀ p ∈ TabK K, p.1 ∈ cs.map (·.2))
    (hbm : ∃ (bm : Addr) (ob : Obj), mg "__builtins__" = some (.ref bm) ∧ bm ≠ builtinsNs ∧ s₁.heap.get? bm = some ob ∧ ob.cls = .type "module" ∧ ob.dict = some builtinsNs ∧ ob.data = .plain)
    (ha : s₁.heap.get? a = some { cls := .type "list", data := .seq vs.toArray }) (nK : K.lookup a = none) (hi : IntsAre vs ns) (hl : ns.length ≤ sizeLine) (hr : Room k callerA)
    (F : ∀ base : Heap, K.In base → base.Ns mainGlobals mg → (∀ p ∈ cs, TabB base mg p.1 p.2) → ∃ fd, FnG true P w K mg base (L2.CX P w) k fa fd [x] (spD K mg m) ∧ L2.Binds K fd [x] [])
    (hm : ∃ outs, m [.val (.list (ns.map PyData.int))] = M.ok (.val (.bool true), outs)) :
    codeAny (model P w) callerA (.call (.ref fa) ⟨[.ref a], []⟩) (fun r s' => r = .ok (.ret (.bool true)) ∧ OldK s₁.heap s'.heap ∧ s'.os = s₁.os ∧ AllBare s'.gens) s₁ := by
  have rv := vals_ints hi
  let T := cs.map (·.2)
  let H := H0 a vs ns T
  have tab : ∀ b ∈ T, s₁.heap.get? b = some { cls := .none, data := .fields #[] } := fun b hb => by
    obtain ⟨p, hp, rfl⟩ := List.mem_map.mp hb
    exact hT p hp
  have naT : a ∉ T := fun z => by
    have q := tab a z
    rw [ha] at q
    have z' : Data.seq vs.toArray _ = Data.fields #[] := congrArg Obj.data (Option.some.inj q)
    cases z'
  have Ha : H a = some (.frz { cls := .type "list", data := .seq vs.toArray } (.lst (ns.map V.int))) := if_pos rfl
  have HT : ∀ b ∈ T, H b = some (.tbl #[]) := fun b hb => (if_neg fun z : b = a => naT (by rw [← z]; exact hb)).trans (if_pos hb)
  have HN : ∀ b, b ≠ a → b ∉ T → H b = none := fun b h1 h2 => (if_neg h1).trans (if_neg h2)
  have cases3 : ∀ b, b = a ∨ b ∈ T ∨ H b = none := fun b => by
    by_cases h1 : b = a
    · exact .inl h1
    · by_cases h2 : b ∈ T
      · exact .inr (.inl h2)
      · exact .inr (.inr (HN b h1 h2))
  -- what is no list and no empty table is not tracked
  have off : ∀ {b : Addr} {o : Obj}, s₁.heap.get? b = some o → (∀ vs n, o.data ≠ .seq vs n) → o.data ≠ .fields #[] → H b = none := fun {b o} e h1 h2 => by
    rcases cases3 b with rfl | z | z
    · rw [ha] at e; cases e; exact (h1 _ _ rfl).elim
    · rw [tab b z] at e; cases e; exact (h2 rfl).elim
    · exact z
  have offD : ∀ {b : Addr} {o : Obj} {es : Array DictEntry} {ep : Nat}, s₁.heap.get? b = some o → o.data = .dict es ep → H b = none := fun {b o es ep} e d => off e (fun vs n z => by rw [d] at z; cases z) fun z => by rw [d] at z; cases z
  have nsK : ∀ {b : Addr} {m : Str → Option Value}, s₁.heap.Ns b m → (hidT s₁.heap H).Ns b m := fun {b m} ⟨o, es, ep, e, d, r⟩ => ⟨o, es, ep, hidT_get e (offD e d), d, r⟩
  have hok : HOk P w H s₁.heap := fun b u z => by
    rcases cases3 b with rfl | y | y
    · rw [Ha] at z; cases z
      exact ⟨ha, by rw [List.length_map]; exact hl, vs, _, rv, ha⟩
    · rw [HT b y] at z; cases z
      exact tab b y
    · rw [y] at z; cases z
  have hKb : K.In (hidT s₁.heap H) := fun b o e => hidT_get (KX b o e) (by
    rcases cases3 b with rfl | y | y
    · rw [nK] at e; cases e
    · obtain ⟨p, hp, rfl⟩ := List.mem_map.mp y
      rw [nT p hp] at e; cases e
    · exact y)
  have TB : ∀ p ∈ cs, TabB (hidT s₁.heap H) mg p.1 p.2 := fun p hp => by
    have hTp := hT p hp
    refine ⟨?_, ?_, fun z => ?_⟩
    · obtain ⟨o, us, file, tf, flags, tg, inF, text, tt, e1, r1, r2, r3, r4, r5, r6, r7, r8, hne⟩ := C p hp
      refine ⟨o, us, file, tf, flags, tg, inF, text, tt, hidT_get e1 (off e1 (fun vs n z => ?_) fun z => ?_), r1, r2, r3, r4, r5, r6, r7, r8, hne⟩
      · rw [r2] at z; cases z
      · rw [r2] at z; cases z; simp at r3
    · obtain ⟨bm, ob, b1, b2, b3, b4, b5, b6⟩ := hbm
      refine ⟨bm, ob, b1, b2, fun q => ?_, fun q => ?_, hidT_get b3 (off b3 (fun vs n z => ?_) fun z => ?_), b4, b5, b6⟩
      · obtain ⟨o, es, ep, e, hd, _⟩ := hns
        rw [q, e] at b3; cases b3; rw [hd] at b6; cases b6
      · rw [q, hTp] at b3; cases b3; cases b6
      · rw [b6] at z; cases z
      · rw [b6] at z; cases z
    · obtain ⟨o, es, ep, e, hd, _⟩ := hns
      rw [z, hTp] at e; cases e; cases hd
  have e0 : Env0 P w K mg (hidT s₁.heap H) callerA [] s₁ H := ⟨rfl, ⟨hKb, nsK hns, ⟨mb, nsK hb, hbb⟩, let ⟨mc, h1, h2⟩ := hlim; ⟨mc, nsK h1, h2⟩⟩, fun b o e => of_hidT e, Nat.le_of_eq (hidT_size _ _), trivial, fun b hb => absurd (show b ∈ ([] : List Addr) from hb) (by simp), hok, .of_eq hg⟩
  have hsp : spD K mg m [.ref a] H (fun v _ => v = .bl true) fun _ _ _ => False := by
    have rl : ∀ (G : Hp) (ns : List Int), RpL K G (ns.map V.int) (ns.map PyData.int) := fun G ns => by
      induction ns with
      | nil => exact .nil
      | cons i r ih => exact .cons (.int i) ih
    refine ⟨[.val (.list (ns.map PyData.int))], fun _ => none, fun b => if b = a then H b else none, fun _ => none, fun s hs => ?_, ⟨Same.refl _, fun b x q => ?_, ⟨fun b x q => (by cases q), fun b ps q => (by cases q), fun p hp => ?_⟩, fun _ _ q => (by cases q), rfl, fun i s q => ?_, fun p hp => absurd hp (by simp), fun i j s t b q1 q2 w1 => ?_, fun b ps q => ?_⟩, ?_⟩
    · simp at hs; subst hs; trivial
    · split at q
      · exact q
      · cases q
    · exact TabS.nil (HT p.1 (hTK p hp))
    · cases i with
      | zero =>
        simp at q
        subst q
        exact ⟨.ref a, rfl, .lst (.inr ⟨_, (if_pos rfl).trans Ha⟩) (rl _ ns)⟩
      | succ i => simp at q
    · cases i with
      | zero =>
        simp at q1
        subst q1
        exact w1.elim
      | succ i => simp at q1
    · split at q
      · rename_i h
        subst h
        rw [Ha] at q; cases q
      · cases q
    · obtain ⟨outs, e⟩ := hm
      rw [e]
      intro v F' H' S r
      cases r
      rfl
  obtain ⟨fd, hF, hbd⟩ := F _ hKb (nsK hns) TB
  refine codeAny_mono (hF.run callerA [] s₁ H ⟨[.ref a], []⟩ [.ref a] [.ref a] _ _ ⟨hr, fun _ => rfl⟩ e0 (hbd s₁ [.ref a] KX rfl) (.cons rfl .nil) hsp) fun r s' h => ?_
  match r, h with
  | .error e, h =>
    exact False.elim (by
      obtain ⟨_, _, _, _, _, _, _, _, _, _, _, _, _, _, _, z⟩ := h)
  | .ok .next, h => exact False.elim h
  | .ok .brk, h => exact False.elim h
  | .ok .cont, h => exact False.elim h
  | .ok (.ret u), h =>
    obtain ⟨v, H', os, bare, un, hok', r', q⟩ := h
    obtain rfl : v = .bl true := q
    obtain rfl : u = Value.bool true := r'
    have key : ∀ b o, b ∉ T → s₁.heap.get? b = some o → s'.heap.get? b = some o := fun b o nb e => by
      rcases cases3 b with rfl | y | y
      · obtain ⟨e2, _⟩ := hok' _ _ (un.frzs _ _ _ Ha)
        rw [ha] at e; cases e
        exact e2
      · exact absurd y nb
      · exact un.keep b o e y (by intro z; exact absurd (show b ∈ ([] : List Addr) from z) (by simp)) (by simp)
    have grown : ∀ b ∈ T, ∃ more : Array Value, s'.heap.get? b = some { cls := .none, data := .fields more } := fun b hb => by
      obtain ⟨more, z⟩ := un.tbls b #[] (HT b hb)
      exact ⟨_, hok' b _ z⟩
    refine ⟨rfl, ⟨fun b o e => ?_, fun b o e => ?_⟩, os, bare⟩
    · by_cases hb : b ∈ T
      · obtain ⟨more, hm⟩ := grown b hb
        rw [tab b hb] at e
        cases e
        obtain ⟨p, hp, rfl⟩ := List.mem_map.mp hb
        exact .inr (.inl ⟨((C p hp).tab (hT p hp)).isCodeTable, rfl, #[], more, rfl, by rw [Array.empty_append]; exact hm⟩)
      · exact .inl (key b o hb e)
    · by_cases hb : b ∈ T
      · obtain ⟨more, hm⟩ := grown b hb
        exact ⟨_, hm⟩
      · exact ⟨o, key b o hb e⟩
end DL
set_option Elab.async false
set_option linter.all false
set_option maxRecDepth 100000
set_option maxHeartbeats 4000000
namespace DL
open PySem PySem.Spec PyProof.Rows L2 LamX He

/-! ### what the head tells, read by checks of its part of the heap -/
/-- no list of the text stands there -/
def noLst (K : PySem.W.Frag) : Bool := K.all fun p => !decide (p.2.cls = .type "list")
theorem noLst_ok {K : PySem.W.Frag} {h : Heap} {a : Addr} {vs : Array Value} (X : K.In h) (c : noLst K = true) (ha : h.get? a = some { cls := .type "list", data := .seq vs }) : K.lookup a = none := by
  cases q : K.lookup a with
  | none => rfl
  | some o =>
    have e := X a o q
    rw [ha] at e
    have z := List.all_eq_true.mp c _ (lookup_mem q)
    rw [← Option.some.inj e] at z
    simp at z
/-- the module's name x is a written dict of these -/
def dicEs (K : PySem.W.Frag) : List (Str × PyData) → List DictEntry → Bool
  | [], es => es.isEmpty
  | (k, d) :: r, es => match es with
    | e :: es => (match e.key with
      | .str y _ => decide (y = k)
      | _ => false) && (cB K d e.val && dicEs K r es)
    | [] => false
def dicB (K : PySem.W.Frag) (x : Str) (es : List (Str × PyData)) : Bool := match K.lookup (ga K x) with
  | some ⟨_, _, .dict des _, _⟩ => dicEs K es des.toList
  | _ => false
theorem dicEs_get {K : PySem.W.Frag} : ∀ {es : List (Str × PyData)} {des : List DictEntry}, dicEs K es des = true → ∀ z, match lookS z es with
    | none => des.find? (fun e => e.key.isStr z) = none ∧ des.any (·.refKey) = false
    | some d => ∃ e v, des.find? (fun e => e.key.isStr z) = some e ∧ RelV v e.val ∧ ∀ F, Rp K F v d
  | [], des, h, z => by
    cases des with
    | nil => exact ⟨rfl, rfl⟩
    | cons _ _ => simp [dicEs] at h
  | (k, d) :: r, des, h, z => by
    cases des with
    | nil => simp [dicEs] at h
    | cons e des =>
      unfold dicEs at h
      dsimp only at h
      simp only [Bool.and_eq_true] at h
      obtain ⟨h1, h2, h3⟩ := h
      obtain ⟨v, r1, r2⟩ := cB_ok d _ h2
      have ih := dicEs_get h3 z
      cases ek : e.key with
      | str y t =>
        rw [ek] at h1
        have hy : y = k := of_decide_eq_true h1
        subst hy
        have hs : e.key.isStr z = decide (y = z) := by
          rw [ek]
          show (y == z) = decide (y = z)
          rw [Bool.eq_iff_iff, beq_iff_eq, decide_eq_true_eq]
        have hr : e.refKey = false := by simp [DictEntry.refKey, ek]
        unfold lookS
        by_cases hz : y = z
        · subst hz
          rw [if_pos rfl]
          exact ⟨e, v, by rw [List.find?_cons, hs]; simp, r1, r2⟩
        · rw [if_neg hz]
          cases q : lookS z r with
          | none =>
            rw [q] at ih
            exact ⟨by rw [List.find?_cons, hs]; simp [hz]; simpa using ih.1, by rw [List.any_cons, hr, ih.2]; rfl⟩
          | some d' =>
            rw [q] at ih
            obtain ⟨e', v', i1, i2, i3⟩ := ih
            exact ⟨e', v', by rw [List.find?_cons, hs]; simp only [hz, decide_false]; exact i1, i2, i3⟩
      | _ => rw [ek] at h1; cases h1
theorem dicB_ok {K : PySem.W.Frag} {w : World} {h : Heap} {mg : Str → Option Value} (X : K.In h) (G : h.Ns mainGlobals mg) {x : Str} {es : List (Str × PyData)} (hg : (Fa.glo x).ok K = true) (hd : ∃ des n, KDict K w (ga K x) des n) (c : dicB K x es = true) : KDic K w mg x es := by
  obtain ⟨des, n, hl, hk, hn⟩ := hd
  unfold dicB at c
  rw [hl] at c
  dsimp only at c
  refine ⟨ga K x, glo_ok X G hg, ⟨des, n, hl, hk, hn⟩, fun z => ?_⟩
  have g := dicEs_get c z
  cases q : lookS z es with
  | none =>
    rw [q] at g
    show PySem.W.nsIn K (ga K x) z = some none
    unfold PySem.W.nsIn
    rw [hl]
    dsimp only
    rw [g.1]
    dsimp only
    rw [g.2]
    rfl
  | some d =>
    rw [q] at g
    obtain ⟨e, v, g1, g2, g3⟩ := g
    refine ⟨e.val, v, ?_, g2, g3⟩
    unfold PySem.W.nsIn
    rw [hl]
    dsimp only
    rw [g1]
/-- the classes of errors -/
def excCB (K : PySem.W.Frag) (D : Addr) : Bool := eqO (PySem.W.findIn K (.ref D) "__getattribute__") (some (some (.builtin "BaseException.__getattribute__"))) && (eqO (PySem.W.findIn K (.ref D) "__getattr__") (some none) && (decide (PySem.W.subIn K (.ref D) (.type "BaseException") = some true) && (PySem.W.hasDictIn K D &&
  (eqO (PySem.W.findIn K (.ref D) "__class__") (some (some (.builtin "object.__class__"))) && (eqO (PySem.W.specialIn K (.builtin "object.__class__") "__get__") (some (some (.builtin "getset_descriptor.__get__"))) && (decide (PySem.W.takesIn K (.builtin "object.__class__") = some true) && decide (PySem.W.mroIn K D (.type "object") = some true)))))))
theorem excCB_ok {K : PySem.W.Frag} {D : Addr} (h : excCB K D = true) : ExcC K D := by
  unfold excCB at h
  simp only [Bool.and_eq_true, decide_eq_true_eq] at h
  obtain ⟨h1, h2, h3, h4, h5, h6, h7, h8⟩ := h
  exact ⟨eqO_ok h1, eqO_ok h2, h3, h4, eqO_ok h5, eqO_ok h6, h7, h8⟩
def errB (K : PySem.W.Frag) (cs : List Str) : Bool := cs.all fun c => (Fa.glo c).ok K && (excCB K (ga K c) && (decide (PySem.W.kitOne K (.ref (ga K c)) (.type "ValueError") = some true) && ((Fa.glo "WaterError").ok K && (decide (PySem.W.exmOne K (.ref (ga K c)) (.ref (ga K "WaterError")) = some true) &&
  cs.all fun x => decide (PySem.W.kitOne K (.ref (ga K c)) (.ref (ga K x)) = some (decide (c = x)))))))
theorem errB_ok {K : PySem.W.Frag} {h : Heap} {mg : Str → Option Value} (X : K.In h) (G : h.Ns mainGlobals mg) {cs : List Str} (c : errB K cs = true) : ErrF K mg cs := by
  have all := fun c0 hc => List.all_eq_true.mp c c0 hc
  refine ⟨fun c0 hc => ?_⟩
  have z := all c0 hc
  simp only [Bool.and_eq_true, decide_eq_true_eq] at z
  obtain ⟨h1, h2, h3, h4, h5, h6⟩ := z
  refine ⟨ga K c0, glo_ok X G h1, excCB_ok h2, h3, ⟨_, glo_ok X G h4, h5⟩, fun x hx => ⟨ga K x, ?_, ?_⟩⟩
  · have y := all x hx
    simp only [Bool.and_eq_true] at y
    exact glo_ok X G y.1
  · have y := List.all_eq_true.mp h6 x hx
    exact of_decide_eq_true y
theorem clsX_ok {K : PySem.W.Frag} {h : Heap} {mg : Str → Option Value} (X : K.In h) (G : h.Ns mainGlobals mg) {x : Str} (h1 : (Fa.glo x).ok K = true) (h2 : (Fa.exc x).ok K = true) : ClsX K mg x := by
  obtain ⟨a, b, c, d⟩ := exc_ok h2
  exact ⟨ga K x, glo_ok X G h1, a, b, c, d⟩
/-- a def -/
theorem fun_of {K : PySem.W.Frag} {x : Str} {st : Stmt} {f : Addr} {fd : FuncData} (F : FunD K x x (defArgs st) (defBody st) (defScope st) [] [] f fd) : Fun K x x st f fd := by
  obtain ⟨oc, od, dV, kV, doc, pm, an, cdv, ct, osl, rfl, lk, hcd, dv, kw⟩ := F.ex
  rcases dv with ⟨_, rfl⟩ | ⟨z, _⟩
  · exact ⟨⟨oc, od, kV, doc, pm, an, cdv, ct, osl, rfl, lk, hcd⟩, F.kp⟩
  · exact absurd rfl z
def defD (x : Str) (st : Stmt) : DefD := ⟨(x, none), x, x, defArgs st, defBody st, defScope st, [], []⟩
theorem has_of {K : PySem.W.Frag} {h : Heap} {mg : Str → Option Value} (X : K.In h) (G : h.Ns mainGlobals mg) {fa : List Fa} {fn : List DefD} (c : SaysD fa fn K) {x : Str} {st : Stmt} {ps : List Str} (i j : Nat) (hi : fn[i]? = some (defD x st)) (hj : fa[j]? = some (.glo x))
    (hb : ∀ (kV doc pm : Value) (an : Option Addr) (cdv ct : Value) (us : List Value), us.length = ps.length → bindArgs (PySem.W.fnOf x x (defArgs st) (defBody st) (defScope st) .none kV doc pm an cdv ct) ⟨us, []⟩ = pure (ps.zip us)) : Has K mg x st ps := by
  obtain ⟨fd, F⟩ := c.def_ i hi
  have Fu := fun_of F
  exact ⟨_, fd, Fu, glo_ok X G (c.fact j hj), Fu.binds hb⟩

/-! ### lambdas of a def -/
structure LamAt (K : PySem.W.Frag) (mg : Str → Option Value) (base : Heap) (x : Str) : Prop where
  ex : ∀ f cdv, mg x = some (.ref f) → CdOf K f cdv → ∃ c P, cdv = .ref c ∧ TabB base mg c P ∧ (P, x ++ ".<locals>." ++ "<lambda>") ∈ TabK K ∧ ∀ p ∈ TabK K, p.1 = P → p.2 = x ++ ".<locals>." ++ "<lambda>"
/-- the defs of these names, and no other that TabK looks for, have tables: the i-th's is (cT K (x, none)).2 -/
def tabB (K : PySem.W.Frag) (xs : List Str) : Bool := decide (TabK K = xs.map fun x => ((cT K (x, none)).2, x ++ ".<locals>." ++ "<lambda>")) && decide ((xs.map fun x => (cT K (x, none)).2).Nodup)
theorem lamAt_of {K : PySem.W.Frag} {h base : Heap} {mg : Str → Option Value} (X : K.In h) (G : h.Ns mainGlobals mg) {xs : List Str} (ht : tabB K xs = true) {x : Str} (hx : x ∈ xs) (hg : (Fa.glo x).ok K = true) (hc : (Fa.code (x, none) x).ok K = true) (TB : TabB base mg (cT K (x, none)).1 (cT K (x, none)).2) : LamAt K mg base x := by
  unfold tabB at ht
  simp only [Bool.and_eq_true, decide_eq_true_eq] at ht
  obtain ⟨e1, e2⟩ := ht
  refine ⟨fun f cdv hf hcd => ?_⟩
  have g := glo_ok X G hg
  rw [hf] at g
  cases g
  obtain ⟨oc, od, fd, osl, lk, rfl⟩ := hcd.ex
  have c2 : (match K.lookup (fAd K (x, none)) with
    | some ⟨_, _, .func fd, _⟩ => PySem.W.codeIn K fd.code x
    | _ => false) = true := hc
  rw [show fAd K (x, none) = ga K x from rfl, lk] at c2
  obtain ⟨c, ec⟩ := codeIn_ref c2
  have e3 : codeOf K (x, none) = c := codeOf_eq (p := (x, none)) lk ec
  have e4 : (cT K (x, none)).1 = c := e3
  refine ⟨c, (cT K (x, none)).2, ec, e4 ▸ TB, ?_, fun p hp ep => ?_⟩
  · rw [e1]
    exact List.mem_map.mpr ⟨x, hx, rfl⟩
  · rw [e1] at hp
    obtain ⟨y, hy, rfl⟩ := List.mem_map.mp hp
    have inj : y = x := by
      by_cases z : y = x
      · exact z
      · exact absurd ep (nodup_map_ne e2 hy hx z)
    rw [inj]
where
  nodup_map_ne : ∀ {α β : Type} {f : α → β} {l : List α} {a b : α}, (l.map f).Nodup → a ∈ l → b ∈ l → a ≠ b → f a ≠ f b := by
    intro α β f l a b h ha hb ne e
    induction l with
    | nil => cases ha
    | cons c r ih =>
      rw [List.map_cons, List.nodup_cons] at h
      rcases List.mem_cons.mp ha with rfl | ha
      · rcases List.mem_cons.mp hb with rfl | hb
        · exact ne rfl
        · exact h.1 (List.mem_map.mpr ⟨b, hb, e.symm⟩)
      · rcases List.mem_cons.mp hb with hb | hb
        · exact h.1 (List.mem_map.mpr ⟨a, ha, by rw [e, hb]⟩)
        · exact ih h.2 ha hb

theorem ru_deep {k : Nat} {A : Around} (h : Room (k + 1) A) (env : Env) : (A.deeper env).units + 65 < cLine := by
  have := (h.deeper env).un
  omega
theorem ru64d {k : Nat} {A : Around} (h : Room (k + 1) A) (env : Env) : (A.deeper env).units + 64 < cLine := by
  have := (h.deeper env).un
  omega
theorem ru128d {k : Nat} {A : Around} (h : Room (k + 1) A) (env : Env) : (A.deeper env).units + 128 < cLine := by
  have := (h.deeper env).un
  omega
section
variable {X : Cx} {W : WX}
theorem de_saidC {gd : Bool} {cs : List Str} {told : Str} {said : Str → PyData} {fb : FE} {x a lx : Str} {f : Addr} {k j : Nat} {st : Stmt} {Ng : List Str} {params : Arguments} {body : Expr} {scope : Scope} {p lpos pos : Pos}
    (Hs : Has X.K X.mg x st [a]) (Sg : FnScope Ng [a] (defScope st)) (hG : ∀ g cdv, GivesTo X Ng x (defScope st) g cdv (defBody st) a (X.env.qual ++ "<lambda>") (TTs X.K X.mg cs told said))
    (LA : LamAt X.K X.mg X.base lx) (hf : X.mg lx = some (.ref f)) (hcf : CdOf X.K f X.env.code) (hq : X.env.qual = lx ++ ".<locals>.") (hr : RG gd j X.A) (hj : k + 2 ≤ j) (hg : Gl X x) (hNg : Ng[0]? = some a) (hva : Vis (defScope st) a)
    (L : LamS X.env.scope scope) (hdef : defaultsOf params X.env = ([], [])) (hbind : ∀ (q : Str) (cl : List (Str × Addr)) (pm cv ctv : Value), bindArgs (PySem.W.kla_fn "<lambda>" q params body scope cl pm cv ctv) ⟨[], []⟩ = pure [])
    (hbody : ∀ (A : Around) (outer : List Env) (s : Shared) (H : Hp) (E : XK) (f c' : Addr), Room k (A.deeper (lamEnv X scope s.heap.objs.size f c')) → DE (lamCx X A outer s H E scope f c') (WD E) body fb)
    (hdb : (x == ("__debug__" : Str)) = false := by decide) (hd : (a == ("__debug__" : Str)) = false := by decide) (hcd : (a == ("__classdict__" : Str)) = false := by decide) :
    DE X W (.Call (.Name x p) [.Lambda params body scope lpos] [] pos) (saidF cs told said fb) := by
  obtain ⟨g, fd, Fu, hm, hb⟩ := Hs.ex
  obtain ⟨oc, od, kV, doc, pm, an, cdv, ct, osl, rfl, lk, hcg⟩ := Fu.ex
  obtain ⟨c, P, ec, TB, m1, m2⟩ := LA.ex f _ hf hcf
  rw [← hq] at m1 m2
  exact de_said hg hm Fu.kp lk hcg hb Sg hNg hva (hG g cdv) TB ec m1 m2 (hr.rm.mono hj) L hdef hbind hbody hdb hd hcd
end

/-- the law's walk, of a row whose head is read by hookX -/
theorem walk_D {l : PySem.W.OpenLaw} {n k N : Nat} {q : Program} {loose : List Str} {XP : (Str → Option Value) → Heap → Prop} {d : DefRec} {x : Str} {fa : List Fa} {fn : List DefD} {tabs : List Tab} {tf : List Defn} {ex : PySem.W.Frag → Bool} {m : MF}
    (hn : l.most = some n) (hn2 : n ≤ sizeLine) (hdf : d.params.defaults = []) (hr : Room k callerA) (hdn : d.name = "law") (hx : ∀ K, ex K = true → noLst K = true) (htk : ∀ K, ex K = true → ∀ p ∈ TabK K, p.1 ∈ (tf.map (cT K)).map (·.2))
    (F : ∀ (w : World) (K : PySem.W.Frag) (h : Heap) (mg : Str → Option Value), K.In h → h.Ns mainGlobals mg → SaysX fa fn tabs tf ex w h K → ∀ base : Heap, (∀ p ∈ tf.map (cT K), TabB base mg p.1 p.2) → Callee true l.prog w K mg base k "law" [x] m)
    (hm : ∀ ns : List Int, ns.length ≤ n → (∀ z ∈ ns, Builtin.Int.intBits z ≤ 1048576) → ∃ outs, m [.val (.list (ns.map PyData.int))] = M.ok (.val (.bool true), outs)) :
    PySem.W.WalkO q loose XP (hookX N fa fn tabs tf ex).says l.row.toRowW d [] (fun f vs => PySem.call f vs) := by
  refine Att.attach_callB hn hdf fun w s₀ s₁ mg mb fa' o pm cd doc a vs ns G Y ho hd hcd hmg hobj hints hlen hbits hg => ?_
  obtain ⟨K, KX, c⟩ := Y
  rw [hdn] at hmg
  have mem : ∀ p ∈ tf.map (cT K), ∃ y ∈ tf, cT K y = p := fun p hp => List.mem_map.mp hp
  refine law_end (k := k) (cs := tf.map (cT K)) (x := x) (m := m) KX G.T.g G.T.b G.T.builtins G.T.nolimit hg (fun p hp => ?_) (fun p hp => ?_) (fun p hp => ?_) (htk K c.more) G.T.bmain hobj (noLst_ok KX (hx K c.more) hobj) hints (Nat.le_trans hlen hn2) hr (fun base hK hB TB => ?_) (hm ns hlen hbits)
  · obtain ⟨y, hy, rfl⟩ := mem p hp
    exact c.empty y hy
  · obtain ⟨y, hy, rfl⟩ := mem p hp
    exact c.out y hy
  · obtain ⟨y, hy, rfl⟩ := mem p hp
    exact PySem.W.codeHd_of_K KX (c.hd y hy)
  · obtain ⟨f, fd, h1, h2, h3, h4⟩ := (F w K _ mg KX G.T.g c base TB).ex
    rw [hmg] at h2
    cases h2
    exact ⟨fd, h1, h4⟩
theorem htk_of {K : PySem.W.Frag} {xs : List Str} (h : tabB K xs = true) : ∀ p ∈ TabK K, p.1 ∈ ((xs.map fun x => ((x, none) : Defn)).map (cT K)).map (·.2) := fun p hp => by
  unfold tabB at h
  simp only [Bool.and_eq_true, decide_eq_true_eq] at h
  rw [h.1] at hp
  obtain ⟨y, hy, rfl⟩ := List.mem_map.mp hp
  exact List.mem_map.mpr ⟨cT K (y, none), List.mem_map.mpr ⟨(y, none), List.mem_map.mpr ⟨y, hy, rfl⟩, rfl⟩, rfl⟩
end DL
set_option Elab.async false
set_option linter.all false
set_option maxRecDepth 100000
set_option maxHeartbeats 4000000
namespace DL
open PySem PySem.Spec PyProof.Rows L2

/-! ### the functions, reckoned by simp -/
section
variable {α β : Type} {a : α} {f : α → M β} {c : Str} {e env : EnvD} {fa fb fe fo : FE} {u v : FS} {fc ft : FT} {fA : FA} {i j n l : Nat} {g g' : PyData → PyData → Option Sl} {s : Sl} {d : PyData} {o : Own}
@[simp] theorem s_bok : M.bind (some (.ok a)) f = f a := rfl
@[simp] theorem s_berr : M.bind (some (.err c e) : M α) f = some (.err c e) := rfl
@[simp] theorem s_bnone : M.bind (none : M α) f = none := rfl
@[simp] theorem s_eC : eC d env = some (.ok (.val d, env)) := rfl
@[simp] theorem s_eVar : eVar i env = match env[i]? with
  | some (some (.val d)) => M.ok (.val d, env)
  | some (some (.own _)) => M.ok (.al i, env)
  | some (some (.pen _)) => M.ok (.al i, env)
  | _ => none := rfl
@[simp] theorem s_fz1 : fz (.val d) = .val d := rfl
@[simp] theorem s_fz2 : fz (.al i) = .al i := rfl
@[simp] theorem s_fz3 : fz (.own o) = .val o.d := rfl
@[simp] theorem s_rd1 : rd (.val d) env = some d := rfl
@[simp] theorem s_rd2 : rd (.al i) env = match env[i]? with
    | some (some (.val d)) => some d
    | some (some (.own o)) => some o.d
    | some (some (.pen o)) => some o.d
    | _ => none := rfl
@[simp] theorem s_g1n (g : PyData → Option Sl) : g1 g none = none := rfl
@[simp] theorem s_g1 (g : PyData → Option Sl) : g1 g (some d) = g d := rfl
@[simp] theorem s_g2 {d' : PyData} : g2 g (some d) (some d') = g d d' := rfl
@[simp] theorem s_fin : fin (some s) env = some (.ok (s, env)) := rfl
@[simp] theorem s_finn : fin none env = none := rfl
@[simp] theorem s_e1 (g : PyData → Option Sl) : e1 g fa env = M.bind (fa env) fun p => fin (g1 g (rd (fz p.1) p.2)) p.2 := rfl
@[simp] theorem s_e2 : e2 g fa fb env = M.bind (fa env) fun p => M.bind (fb p.2) fun q => fin (g2 g (rd (fz p.1) q.2) (rd (fz q.1) q.2)) q.2 := rfl
@[simp] theorem s_asB {b : Bool} : asB (.val (.bool b)) = some b := rfl
@[simp] theorem s_eT : eT fa env = M.bind (fa env) fun p => match asB p.1 with
  | some b => M.ok (b, p.2)
  | none => none := rfl
@[simp] theorem s_eAnd : eAnd fa fb env = M.bind (fa env) fun p => match asB p.1 with
  | some true => fb p.2
  | some false => M.ok (.val (.bool false), p.2)
  | none => none := rfl
@[simp] theorem s_eOr : eOr fa fb env = M.bind (fa env) fun p => match asB p.1 with
  | some true => M.ok (.val (.bool true), p.2)
  | some false => fb p.2
  | none => none := rfl
@[simp] theorem s_eNot : eNot fa env = M.bind (fa env) fun p => match asB p.1 with
  | some b => M.ok (.val (.bool (!b)), p.2)
  | none => none := rfl
@[simp] theorem s_tAnd {f1 f2 : FT} : tAndF f1 f2 env = M.bind (f1 env) fun p => match p.1 with
  | true => f2 p.2
  | false => M.ok (false, p.2) := rfl
@[simp] theorem s_tOr {f1 f2 : FT} : tOrF f1 f2 env = M.bind (f1 env) fun p => match p.1 with
  | true => M.ok (true, p.2)
  | false => f2 p.2 := rfl
@[simp] theorem s_tNot : tNotF fc env = M.bind (fc env) fun p => M.ok (!p.1, p.2) := rfl
@[simp] theorem s_eIf : eIf fc fa fb env = M.bind (fc env) fun p => match p.1 with
  | true => fa p.2
  | false => fb p.2 := rfl
@[simp] theorem s_aNil : aNil env = some (.ok ([], env)) := rfl
@[simp] theorem s_aCons : aCons fa fA env = M.bind (fa env) fun p => M.bind (fA p.2) fun q => M.ok (fz p.1 :: q.1, q.2) := rfl
@[simp] theorem s_seqF : seqF u v env = M.bind (u env) fun r => match r with
  | .nx env' => v env'
  | .rt s env' => M.ok (.rt s env') := rfl
@[simp] theorem s_nilF : nilF env = some (.ok (.nx env)) := rfl
@[simp] theorem s_dropF : dropF fa env = M.bind (fa env) fun p => M.ok (.nx p.2) := rfl
@[simp] theorem s_un1 : unal (.val d) env = some (.val d, env) := rfl
@[simp] theorem s_un2 : unal (.own o) env = some (.own o, env) := rfl
@[simp] theorem s_un3 : unal (.al i) env = match frz1 (.al i) env with
    | some (d, env2) => some (.val d, env2)
    | none => none := rfl
@[simp] theorem s_fr1 : frz1 (.val d) env = some (d, env) := rfl
@[simp] theorem s_fr2 : frz1 (.al i) env = match env[i]? with
    | some (some (.val d)) => some (d, env)
    | some (some (.own o)) => some (o.d, env.set i (some (.val o.d)))
    | _ => none := rfl
@[simp] theorem s_fa0 : frzAll [] env = some ([], env) := rfl
@[simp] theorem s_fa1 {ss : List Sl} : frzAll (s :: ss) env = match frz1 s env with
    | some (d, env1) => match frzAll ss env1 with
      | some (ds, env2) => some (d :: ds, env2)
      | none => none
    | none => none := rfl
@[simp] theorem s_put1 : putS i (.val d) env = match env[i]? with
    | some (some (.pen _)) => none
    | some _ => some (env.set i (some (.val d)))
    | none => none := rfl
@[simp] theorem s_put2 : putS i (.own o) env = match env[i]? with
    | some (some (.pen _)) => none
    | some _ => some (env.set i (some (.own o)))
    | none => none := rfl
@[simp] theorem s_asgF : asgF i fa env = M.bind (fa env) fun p => match unal p.1 p.2 with
  | some q => match putS i q.1 q.2 with
    | some env2 => M.ok (.nx env2)
    | none => none
  | none => none := rfl
@[simp] theorem s_asgG {gt : GT} : asgG gt fa env = M.bind (fa env) fun p => match frz1 (fz p.1) p.2 with
  | some q => match gt q.1 q.2 with
    | some env2 => M.ok (.nx env2)
    | none => none
  | none => none := rfl
@[simp] theorem s_retF : retF fa env = M.bind (fa env) fun p => M.ok (.rt p.1 p.2) := rfl
@[simp] theorem s_ifF : ifF fc u v env = M.bind (fc env) fun p => match p.1 with
  | true => u p.2
  | false => v p.2 := rfl
@[simp] theorem s_raiseF : raiseF c env = some (.err c env) := rfl
@[simp] theorem s_gtName : gtName i d env = putS i (.val d) env := rfl
@[simp] theorem s_gtTup {gs : GTs} {ds : List PyData} : gtTup gs (.tuple ds) env = gs ds env := rfl
@[simp] theorem s_gtNil : gtNil [] env = some env := rfl
@[simp] theorem s_gtCons {gt : GT} {gs : GTs} {ds : List PyData} : gtCons gt gs (d :: ds) env = match gt d env with
  | some env1 => gs ds env1
  | none => none := rfl
@[simp] theorem s_bodyF {args : List Sl} : bodyF n l u args = if args.length = n then endF args (u (args.map some ++ List.replicate (l - n) none)) else none := rfl
@[simp] theorem s_end0 {args : List Sl} : endF args none = none := rfl
@[simp] theorem s_end1 {args : List Sl} : endF args (some (.err c env)) = some (.err c (outsA args env)) := rfl
@[simp] theorem s_end2 {args : List Sl} : endF args (some (.ok (.nx env))) = some (.ok (.val .none, outsA args env)) := rfl
@[simp] theorem s_end3 {args : List Sl} : endF args (some (.ok (.rt s env))) = fin (resOut s env) (outsA args env) := rfl
@[simp] theorem s_ro1 : resOut (.val d) env = some (.val d) := rfl
@[simp] theorem s_ro2 : resOut (.own o) env = some (.own o) := rfl
@[simp] theorem s_ro3 : resOut (.al i) env = match env[i]? with
    | some (some (.own o)) => some (.own o)
    | some (some (.val d)) => some (.val d)
    | _ => none := rfl
@[simp] theorem s_oa0 : outsA [] env = [] := rfl
@[simp] theorem s_oa1 {ss : List Sl} : outsA (.val d :: ss) env = some (.val d) :: outsA ss env.tail := rfl
@[simp] theorem s_oa2 {ss : List Sl} : outsA (.pen o :: ss) env = (match env with
      | some (.pen o) :: _ => some (.pen o)
      | _ => none) :: outsA ss env.tail := rfl
@[simp] theorem s_lend {ds : List PyData} : (Own.lst ds).d = .list ds := rfl
@[simp] theorem s_resV1 : resV (.val d) = some (.val d) := rfl
@[simp] theorem s_resV2 : resV (.own o) = some (.own o) := rfl
@[simp] theorem s_cr1 {outs : EnvD} : callR1 (some (.ok (s, outs))) env = fin (resV s) env := rfl
@[simp] theorem s_cr1e {outs : EnvD} : callR1 (some (.err c outs)) env = some (.err c env) := rfl
@[simp] theorem s_cr1n : callR1 none env = none := rfl
@[simp] theorem s_callV {m : MF} {dds : List PyData} : callV m dds fA env = M.bind (fzA fA env) fun p => callR1 (m ((p.1 ++ dds).map .val)) p.2 := rfl
@[simp] theorem s_callP {m : MF} : callP m fA env = M.bind (fA env) fun p => match penA p.1 p.2 with
  | some (i, ds, env2) => match slotO i env2 with
    | some (s, o) => callR2 (m (.pen o :: ds.map .val)) i s env2
    | none => none
  | none => none := rfl
@[simp] theorem s_penA {ss : List Sl} : penA (.al i :: ss) env = match frzAll ss env with
    | some (ds, env2) => some (i, ds, env2)
    | none => none := rfl
@[simp] theorem s_slotO : slotO i env = match env[i]? with
  | some (some (.own o)) => some (.own o, o)
  | some (some (.pen o)) => some (.pen o, o)
  | _ => none := rfl
@[simp] theorem s_cr2 {outs : EnvD} {s' : Sl} : callR2 (some (.ok (s, outs))) i s' env = fin (resV s) (updPen i s' outs env) := rfl
@[simp] theorem s_up {outs : EnvD} {o' : Own} : updPen i s (some (.pen o) :: outs) env = env.set i (some (reO s o)) := rfl
@[simp] theorem s_re1 {o' : Own} : reO (.own o') o = .own o := rfl
@[simp] theorem s_re2 {o' : Own} : reO (.pen o') o = .pen o := rfl
@[simp] theorem s_vI {i : Int} : vI i = some (.val (.int i)) := rfl
@[simp] theorem s_vB {b : Bool} : vB b = some (.val (.bool b)) := rfl
@[simp] theorem s_fzA : fzA fA env = M.bind (fA env) fun p => match frzAll p.1 p.2 with
  | some q => M.ok q
  | none => none := rfl
@[simp] theorem s_eTup : eTup fA env = M.bind (fzA fA env) fun p => if p.1.length ≤ bigL then M.ok (.val (.tuple p.1), p.2) else none := rfl
@[simp] theorem s_eLst : eLst fA env = M.bind (fzA fA env) fun p => if p.1.length ≤ bigL then M.ok (.own (.lst p.1), p.2) else none := rfl
@[simp] theorem s_bigL : bigL = 100000 := rfl
@[simp] theorem s_so1 {ds : List PyData} : seqOf (.list ds) = some ds := rfl
@[simp] theorem s_so2 {ds : List PyData} : seqOf (.tuple ds) = some ds := rfl
@[simp] theorem s_ixL {ds : List PyData} {k : Int} : ixD (.list ds) (.int k) = match atI ds k with
    | some d => some (.val d)
    | none => none := rfl
@[simp] theorem s_ixT {ds : List PyData} {k : Int} : ixD (.tuple ds) (.int k) = match atI ds k with
    | some d => some (.val d)
    | none => none := rfl
@[simp] theorem s_addI {i j : Int} : addD (.int i) (.int j) = some (.val (.int (i + j))) := rfl
@[simp] theorem s_subI {i j : Int} : subD (.int i) (.int j) = some (.val (.int (i - j))) := rfl
@[simp] theorem s_mulI {i j : Int} : mulD (.int i) (.int j) = if i.natAbs.log2 + j.natAbs.log2 < 1000000 then some (.val (.int (i * j))) else none := rfl
@[simp] theorem s_divI {i j : Int} : divD (.int i) (.int j) = if j ≠ 0 ∧ j.natAbs.log2 < 9000 then some (.val (.int (i.fdiv j))) else none := rfl
@[simp] theorem s_modI {i j : Int} : modD (.int i) (.int j) = if j ≠ 0 then some (.val (.int (i.fmod j))) else none := rfl
@[simp] theorem s_ord {p : Int → Int → Bool} {i j : Int} : ordD p (.int i) (.int j) = some (.val (.bool (p i j))) := rfl
@[simp] theorem s_eqI {i j : Int} : eqD (.int i) (.int j) = some (.val (.bool (i == j))) := rfl
@[simp] theorem s_neI {i j : Int} : neD (.int i) (.int j) = some (.val (.bool (!(i == j)))) := rfl
@[simp] theorem s_eqS {x y : Str} : eqD (.str x) (.str y) = some (.val (.bool (x == y))) := by simp only [eqD, isStrD, vB, PyData.eqv]; simp
@[simp] theorem s_neS {x y : Str} : neD (.str x) (.str y) = some (.val (.bool (!(x == y)))) := by simp only [neD, isStrD, vB, PyData.eqv]; simp
@[simp] theorem s_gtSub {fi : FE} : gtSub i fi d env = match lstO i env with
  | some _ => match fi env with
    | some (.ok q) => match asI q.1 with
      | some k => match lstO i q.2 with
        | some (s, ds) => match ixN ds.length k with
          | some j => some (q.2.set i (some (reO s (.lst (ds.set j d)))))
          | none => none
        | none => none
      | none => none
    | _ => none
  | none => none := rfl
@[simp] theorem s_lstO : lstO i env = match slotO i env with
  | some (s, .lst ds) => some (s, ds)
  | _ => none := rfl
@[simp] theorem s_asI {k : Int} : asI (.val (.int k)) = some k := rfl
@[simp] theorem s_parF {fa fb : FE} : parF i j fa fb env = M.bind (fa env) fun p => match unal p.1 p.2 with
  | some r => M.bind (fb r.2) fun q => match unal q.1 q.2 with
    | some t => match putS i r.1 t.2 with
      | some env3 => match putS j t.1 env3 with
        | some env4 => M.ok (.nx env4)
        | none => none
      | none => none
    | none => none
  | none => none := rfl
@[simp] theorem s_eApp : eApp i fa env = match lstO i env with
  | some _ => M.bind (fa env) fun p => match frz1 (fz p.1) p.2 with
    | some q => match lstO i q.2 with
      | some r => if r.2.length < bigL then M.ok (.val .none, q.2.set i (some (reO r.1 (.lst (r.2 ++ [q.1]))))) else none
      | none => none
    | none => none
  | none => none := rfl
@[simp] theorem s_ra0 : rdAll [] env = some [] := rfl
@[simp] theorem s_ra1 {ss : List Sl} : rdAll (s :: ss) env = match rd s env with
    | some d => match rdAll ss env with
      | some ds => some (d :: ds)
      | none => none
    | none => none := rfl
@[simp] theorem s_gL {h : List PyData → Option Sl} {ds : List PyData} : gL h (some ds) = h ds := rfl
@[simp] theorem s_eCB {h : List PyData → Option Sl} : eCB h fA env = M.bind (fA env) fun p => fin (gL h (rdAll p.1 p.2)) p.2 := rfl
@[simp] theorem s_lenL {xs : List PyData} : lenD [.list xs] = some (.val (.int xs.length)) := rfl
@[simp] theorem s_lenT {xs : List PyData} : lenD [.tuple xs] = some (.val (.int xs.length)) := rfl
@[simp] theorem s_abs {k : Int} : absD [.int k] = some (.val (.int (if k < 0 then -k else k))) := rfl
@[simp] theorem s_max {k m : Int} : maxD [.int k, .int m] = some (.val (.int (if m > k then m else k))) := rfl
@[simp] theorem s_min {k m : Int} : minD [.int k, .int m] = some (.val (.int (if m < k then m else k))) := rfl
@[simp] theorem s_int1 {k : Int} : intD [.int k] = some (.val (.int k)) := rfl
@[simp] theorem s_int2 {b : Bool} : intD [.bool b] = some (.val (.int (if b then 1 else 0))) := rfl
@[simp] theorem s_listL {xs : List PyData} : listD [.list xs] = some (.own (.lst xs)) := rfl
@[simp] theorem s_listT {xs : List PyData} : listD [.tuple xs] = some (.own (.lst xs)) := rfl
@[simp] theorem s_tupL {xs : List PyData} : tupleD [.list xs] = some (.val (.tuple xs)) := rfl
@[simp] theorem s_tupT {xs : List PyData} : tupleD [.tuple xs] = some (.val (.tuple xs)) := rfl
@[simp] theorem s_all {xs : List PyData} : allD [.list xs] = match boolsOf xs with
    | some bs => vB (bs.all id)
    | none => none := rfl
@[simp] theorem s_any {xs : List PyData} : anyD [.list xs] = match boolsOf xs with
    | some bs => vB (bs.any id)
    | none => none := rfl
@[simp] theorem s_chain {fc : FE} : eChain g g' fa fb fc env = M.bind (fa env) fun p => M.bind (fb p.2) fun q => match g2 g (rd (fz p.1) q.2) (rd (fz q.1) q.2) with
  | some z => match asB z with
    | some true => M.bind (fc q.2) fun r => fin (g2 g' (rd (fz q.1) r.2) (rd (fz r.1) r.2)) r.2
    | some false => M.ok (.val (.bool false), q.2)
    | none => none
  | none => none := rfl
@[simp] theorem s_neg {k : Int} : negD (.int k) = some (.val (.int (-k))) := rfl
@[simp] theorem s_oNone : oNone env = some (.ok (none, env)) := rfl
@[simp] theorem s_oSome : oSome fa env = M.bind (fa env) fun p => match asI p.1 with
  | some i => M.ok (some i, p.2)
  | none => none := rfl
@[simp] theorem s_eSl {fl fh : FO} : eSl fa fl fh env = M.bind (fa env) fun p => M.bind (fl p.2) fun q => M.bind (fh q.2) fun r => fin (g1 (slD q.1 r.1) (rd (fz p.1) r.2)) r.2 := rfl
@[simp] theorem s_slL {lo hi : Option Int} {ds : List PyData} : slD lo hi (.list ds) = some (.own (.lst (cutD ds lo hi))) := rfl
@[simp] theorem s_slT {lo hi : Option Int} {ds : List PyData} : slD lo hi (.tuple ds) = some (.val (.tuple (cutD ds lo hi))) := rfl
@[simp] theorem s_addL {xs ys : List PyData} : addD (.list xs) (.list ys) = if xs.length + ys.length ≤ bigL then some (.own (.lst (xs ++ ys))) else none := rfl
@[simp] theorem s_addT {xs ys : List PyData} : addD (.tuple xs) (.tuple ys) = if xs.length + ys.length ≤ bigL then some (.val (.tuple (xs ++ ys))) else none := rfl
@[simp] theorem s_mulL {xs : List PyData} {k : Int} : mulD (.list xs) (.int k) = if xs.length ≤ 1000 ∧ 0 ≤ k ∧ k ≤ 100 then some (.own (.lst (List.replicate k.toNat xs).flatten)) else none := rfl
@[simp] theorem s_mulT {xs : List PyData} {k : Int} : mulD (.tuple xs) (.int k) = if xs.length ≤ 1000 ∧ xs ≠ [] ∧ 2 ≤ k ∧ k ≤ 100 then some (.val (.tuple (List.replicate k.toNat xs).flatten)) else none := rfl
@[simp] theorem s_isD {d' : PyData} : isD d d' = if isNon d' = true then some (.val (.bool (isNon d))) else none := rfl
@[simp] theorem s_isntD {d' : PyData} : isntD d d' = if isNon d' = true then some (.val (.bool (!isNon d))) else none := rfl
@[simp] theorem s_isi {T : BT} : isiD T d = some (.val (.bool (isiB T d))) := rfl
@[simp] theorem s_and {k m : Int} : andD (.int k) (.int m) = some (.val (.int (Builtin.bitAnd k m))) := rfl
end
end DL
set_option Elab.async false
set_option linter.all false
set_option maxRecDepth 100000
set_option maxHeartbeats 4000000
namespace DL
open PySem PySem.Spec PyProof.Rows L2

/-! ### comprehensions and loops, turn by turn -/
def lcStep (gt : GT) (ft : FT) (fe : FE) (vs : List Nat) (d : PyData) (env : EnvD) : Option (Option PyData × EnvD) := match gt d env with
  | some env1 => match ft env1 with
    | some (.ok p) => match p.1 with
      | true => match fe p.2 with
        | some (.ok q) => match frz1 (fz q.1) q.2 with
          | some z => some (some z.1, wipeD z.2 vs)
          | none => none
        | _ => none
      | false => some (none, wipeD p.2 vs)
    | _ => none
  | none => none
theorem lcL_step {gt : GT} {ft : FT} {fe : FE} {vs : List Nat} {d : PyData} {r acc : List PyData} {env : EnvD} : lcL gt ft fe vs (d :: r) acc env = match lcStep gt ft fe vs d env with
    | some (some z, e) => if acc.length < bigL then lcL gt ft fe vs r (acc ++ [z]) e else none
    | some (none, e) => lcL gt ft fe vs r acc e
    | none => none := by
  conv => lhs; unfold lcL
  unfold lcStep
  cases gt d env with
  | none => rfl
  | some e1 =>
    cases h1 : ft e1 with
    | none => simp only [h1]
    | some o =>
      cases o with
      | err c e => simp only [h1]
      | ok p =>
        obtain ⟨b, e2⟩ := p
        simp only [h1]
        cases b with
        | false => rfl
        | true =>
          cases h2 : fe e2 with
          | none => simp only [h2]
          | some o2 =>
            cases o2 with
            | err c e => simp only [h2]
            | ok q =>
              simp only [h2]
              cases h3 : frz1 (fz q.1) q.2 with
              | none => simp only [h3]
              | some z => simp only [h3]
/-- nothing else is changed: the comprehension is a filterMap -/
theorem lcL_pure {gt : GT} {ft : FT} {fe : FE} {vs : List Nat} {env : EnvD} {h : PyData → Option PyData} : ∀ {ds acc : List PyData}, (∀ d ∈ ds, lcStep gt ft fe vs d env = some (h d, env)) → acc.length + ds.length ≤ bigL → lcL gt ft fe vs ds acc env = M.ok (acc ++ ds.filterMap h, env)
  | [], acc, _, _ => by simp [lcL]
  | d :: r, acc, hs, hl => by
    rw [lcL_step, hs d List.mem_cons_self]
    simp only [List.length_cons] at hl
    cases e : h d with
    | none =>
      dsimp only
      rw [lcL_pure (fun x hx => hs x (List.mem_cons_of_mem _ hx)) (by omega), List.filterMap_cons, e]
    | some z =>
      dsimp only
      rw [if_pos (by omega), lcL_pure (fun x hx => hs x (List.mem_cons_of_mem _ hx)) (by rw [List.length_append, List.length_singleton]; omega), List.filterMap_cons, e, List.append_assoc]
      rfl
/-- what holds of the slots and of each that is made -/
theorem lcL_inv {gt : GT} {ft : FT} {fe : FE} {vs : List Nat} {Inv : EnvD → Prop} {Pd : PyData → Prop} : ∀ {ds acc : List PyData} {env : EnvD}, (∀ d ∈ ds, ∀ env, Inv env → ∃ z env', lcStep gt ft fe vs d env = some (some z, env') ∧ Pd z ∧ Inv env') → Inv env → (∀ x ∈ acc, Pd x) → acc.length + ds.length ≤ bigL →
    ∃ out env', lcL gt ft fe vs ds acc env = M.ok (out, env') ∧ Inv env' ∧ (∀ x ∈ out, Pd x) ∧ out.length = acc.length + ds.length
  | [], acc, env, _, hi, ha, _ => ⟨acc, env, rfl, hi, ha, rfl⟩
  | d :: r, acc, env, hs, hi, ha, hl => by
    simp only [List.length_cons] at hl
    obtain ⟨z, e1, h1, h2, h3⟩ := hs d List.mem_cons_self env hi
    obtain ⟨out, e2, g1, g2, g3, g4⟩ := lcL_inv (ds := r) (acc := acc ++ [z]) (fun x hx => hs x (List.mem_cons_of_mem _ hx)) h3 (fun x hx => by
      rcases List.mem_append.mp hx with y | y
      · exact ha x y
      · rw [List.mem_singleton.mp y]; exact h2) (by rw [List.length_append, List.length_singleton]; omega)
    refine ⟨out, e2, ?_, g2, g3, by rw [g4, List.length_append, List.length_singleton, List.length_cons]; omega⟩
    rw [lcL_step, h1]
    dsimp only
    rw [if_pos (by omega), g1]
theorem lcL_invF {gt : GT} {ft : FT} {fe : FE} {vs : List Nat} {Inv : EnvD → Prop} {Pd : PyData → Prop} : ∀ {ds acc : List PyData} {env : EnvD}, (∀ d ∈ ds, ∀ env, Inv env → ∃ z env', lcStep gt ft fe vs d env = some (z, env') ∧ (∀ y, z = some y → Pd y) ∧ Inv env') → Inv env → (∀ x ∈ acc, Pd x) → acc.length + ds.length ≤ bigL →
    ∃ out env', lcL gt ft fe vs ds acc env = M.ok (out, env') ∧ Inv env' ∧ (∀ x ∈ out, Pd x)
  | [], acc, env, _, hi, ha, _ => ⟨acc, env, rfl, hi, ha⟩
  | d :: r, acc, env, hs, hi, ha, hl => by
    simp only [List.length_cons] at hl
    obtain ⟨z, e1, h1, h2, h3⟩ := hs d List.mem_cons_self env hi
    have tl : ∀ d ∈ r, ∀ env, Inv env → ∃ z env', lcStep gt ft fe vs d env = some (z, env') ∧ (∀ y, z = some y → Pd y) ∧ Inv env' := fun x hx => hs x (List.mem_cons_of_mem _ hx)
    cases z with
    | none =>
      obtain ⟨out, e2, g1, g2, g3⟩ := lcL_invF (ds := r) (acc := acc) tl h3 ha (by omega)
      exact ⟨out, e2, by rw [lcL_step, h1]; exact g1, g2, g3⟩
    | some z =>
      obtain ⟨out, e2, g1, g2, g3⟩ := lcL_invF (ds := r) (acc := acc ++ [z]) tl h3 (fun x hx => by
        rcases List.mem_append.mp hx with y | y
        · exact ha x y
        · rw [List.mem_singleton.mp y]; exact h2 z rfl) (by rw [List.length_append, List.length_singleton]; omega)
      exact ⟨out, e2, by rw [lcL_step, h1]; dsimp only; rw [if_pos (by omega)]; exact g1, g2, g3⟩
def forStep (gt : GT) (u : FS) (d : PyData) (env : EnvD) : M Flo := match gt d env with
  | some env1 => u env1
  | none => none
theorem forL_step {gt : GT} {u : FS} {d : PyData} {r : List PyData} {env : EnvD} : forL gt u (d :: r) env = M.bind (forStep gt u d env) fun z => match z with
      | .nx env2 => forL gt u r env2
      | .rt s env2 => M.ok (.rt s env2) := by
  conv => lhs; unfold forL
  unfold forStep
  cases gt d env <;> rfl
/-- each turn runs on -/
theorem forL_inv {gt : GT} {u : FS} {Inv : Nat → EnvD → Prop} : ∀ {ds : List PyData} {env : EnvD} {k : Nat}, (∀ j d, ds[j]? = some d → ∀ env, Inv (k + j) env → ∃ env', forStep gt u d env = M.ok (.nx env') ∧ Inv (k + j + 1) env') → Inv k env → ∃ env', forL gt u ds env = M.ok (.nx env') ∧ Inv (k + ds.length) env'
  | [], env, k, _, hi => ⟨env, rfl, hi⟩
  | d :: r, env, k, hs, hi => by
    obtain ⟨e1, h1, h2⟩ := hs 0 d rfl env hi
    obtain ⟨e2, g1, g2⟩ := forL_inv (ds := r) (env := e1) (k := k + 1) (fun j x hx env he => by
      have := hs (j + 1) x (by simpa using hx) env (by rw [show k + (j + 1) = k + 1 + j from by omega]; exact he)
      rw [show k + (j + 1) + 1 = k + 1 + j + 1 from by omega] at this
      exact this) h2
    refine ⟨e2, by rw [forL_step, h1]; exact g1, by rw [List.length_cons, show k + (r.length + 1) = k + 1 + r.length from by omega]; exact g2⟩
section
variable {env : EnvD} {fi : FI} {gt : GT} {ft : FT} {fe fa : FE} {vs : List Nat} {u : FS} {fA : FA}
@[simp] theorem lcL_nil {acc : List PyData} : lcL gt ft fe vs [] acc env = some (.ok (acc, env)) := by unfold lcL; rfl
@[simp] theorem forL_nil : forL gt u [] env = some (.ok (.nx env)) := by unfold forL; rfl
@[simp] theorem s_lcF : lcF fi gt ft fe vs env = M.bind (fi env) fun p => M.bind (lcL gt ft fe vs p.1 [] (wipeD p.2 vs)) fun q => M.ok (.own (.lst q.1), q.2) := rfl
@[simp] theorem s_forF : forF fi gt u env = M.bind (fi env) fun p => forL gt u p.1 p.2 := rfl
@[simp] theorem s_yes : yesF env = some (.ok (true, env)) := rfl
@[simp] theorem s_seqI : seqI fa env = M.bind (fa env) fun p => match frz1 (fz p.1) p.2 with
  | some q => match seqOf q.1 with
    | some ds => M.ok (ds, q.2)
    | none => none
  | none => none := rfl
@[simp] theorem s_argI {g : List PyData → Option (List PyData)} : argI g fA env = M.bind (fzA fA env) fun p => match g p.1 with
  | some ds => M.ok (ds, p.2)
  | none => none := rfl
@[simp] theorem s_rng1 {j : Int} : rng1I [.int j] = if smallI j = true then some (rngL 0 j.toNat) else none := rfl
@[simp] theorem s_rng2 {i j : Int} : rng2I [.int i, .int j] = if smallI i = true ∧ smallI j = true then some (rngL i (j - i).toNat) else none := rfl
@[simp] theorem s_zip {a b : PyData} : zipI [a, b] = match seqOf a with
    | some xs => match seqOf b with
      | some ys => some (pairL xs ys)
      | none => none
    | none => none := rfl
@[simp] theorem s_enum {a : PyData} : enumI [a] = match seqOf a with
    | some xs => some (numL 0 xs)
    | none => none := rfl
@[simp] theorem s_wipe0 : wipeD env [] = env := rfl
@[simp] theorem s_wipe1 {v : Nat} : wipeD env (v :: vs) = (wipeD env vs).set v none := rfl
@[simp] theorem s_lcStep {d : PyData} : lcStep gt ft fe vs d env = match gt d env with
  | some env1 => match ft env1 with
    | some (.ok p) => match p.1 with
      | true => match fe p.2 with
        | some (.ok q) => match frz1 (fz q.1) q.2 with
          | some z => some (some z.1, wipeD z.2 vs)
          | none => none
        | _ => none
      | false => some (none, wipeD p.2 vs)
    | _ => none
  | none => none := rfl
@[simp] theorem s_forStep {d : PyData} : forStep gt u d env = match gt d env with
  | some env1 => u env1
  | none => none := rfl
theorem smallI_ok {i : Int} (h1 : -1000000 ≤ i) (h2 : i ≤ 1000000) : smallI i = true := by simp [smallI, h1, h2]
end

/-! ### it tells something that is so -/
def OkM {α : Type} (m : M α) (Q : α → Prop) : Prop := ∃ a, m = some (.ok a) ∧ Q a
theorem ok_bind {α β : Type} {m : M α} {f : α → M β} {P : α → Prop} {Q : β → Prop} (h : OkM m P) (k : ∀ a, P a → OkM (f a) Q) : OkM (M.bind m f) Q := by
  obtain ⟨a, rfl, ha⟩ := h
  exact k a ha
theorem ok_ok {α : Type} {a : α} {Q : α → Prop} (h : Q a) : OkM (some (.ok a)) Q := ⟨a, rfl, h⟩
theorem ok_seq {u v : FS} {env : EnvD} {Q : Flo → Prop} (h : OkM (u env) fun r => ∃ e, r = .nx e ∧ OkM (v e) Q) : OkM (seqF u v env) Q :=
  ok_bind h fun a ⟨e, ha, hq⟩ => by subst ha; exact hq
theorem ok_asg {i : Nat} {fa : FE} {env : EnvD} {Q : Flo → Prop} (h : OkM (fa env) fun p => ∃ q env2, unal p.1 p.2 = some q ∧ putS i q.1 q.2 = some env2 ∧ Q (.nx env2)) : OkM (asgF i fa env) Q :=
  ok_bind h fun p ⟨q, env2, h1, h2, h3⟩ => by
    rw [h1]
    dsimp only
    rw [h2]
    exact ok_ok h3
theorem ok_body {n l : Nat} {f : FS} {args : List Sl} {Q : Sl × EnvD → Prop} (hl : args.length = n) (h : OkM (f (args.map some ++ List.replicate (l - n) none)) fun r => OkM (endF args (some (.ok r))) Q) : OkM (bodyF n l f args) Q := by
  unfold bodyF
  rw [if_pos hl]
  obtain ⟨r, h1, h2⟩ := h
  rw [h1]
  exact h2
theorem ok_imp {α : Type} {m : M α} {P Q : α → Prop} (h : OkM m P) (k : ∀ a, P a → Q a) : OkM m Q := by
  obtain ⟨a, e, ha⟩ := h
  exact ⟨a, e, k a ha⟩
theorem beqF {a b : Int} (h : ¬ a = b) : (a == b) = false := by simpa using h
theorem log_small {j : Int} (h1 : 0 ≤ j) (h2 : j < 18446744073709551616) : j.natAbs.log2 < 64 := by
  rcases Nat.eq_zero_or_pos j.natAbs with h | h
  · rw [h]; decide
  · exact (Nat.log2_lt (by omega)).mpr (by omega)
theorem lcL_map {gt : GT} {ft : FT} {fe : FE} {vs : List Nat} {env : EnvD} {h : PyData → PyData} {ds : List PyData} (hs : ∀ d ∈ ds, lcStep gt ft fe vs d env = some (some (h d), env)) (hl : ds.length ≤ bigL) : lcL gt ft fe vs ds [] env = some (.ok (ds.map h, env)) := by
  rw [lcL_pure (h := fun d => some (h d)) hs (by simpa using hl)]
  simp
theorem lcL_filt {gt : GT} {ft : FT} {fe : FE} {vs : List Nat} {env : EnvD} {h : PyData → Bool} {ds : List PyData} (hs : ∀ d ∈ ds, lcStep gt ft fe vs d env = some (if h d then some d else none, env)) (hl : ds.length ≤ bigL) : lcL gt ft fe vs ds [] env = some (.ok (ds.filter h, env)) := by
  rw [lcL_pure (h := fun d => if h d then some d else none) hs (by simpa using hl)]
  simp [List.filterMap_eq_filter]
  congr 2
  induction ds with
  | nil => rfl
  | cons d r ih =>
    have ih := ih (fun x hx => hs x (List.mem_cons_of_mem _ hx)) (by simp at hl ⊢; omega)
    rw [List.filterMap_cons, List.filter_cons]
    cases h d <;> simp [ih]
theorem boolsOf_map {α : Type} {l : List α} {f : α → Bool} : boolsOf (l.map fun x => .bool (f x)) = some (l.map f) := by
  induction l with
  | nil => rfl
  | cons a r ih => simp [boolsOf, asBool, ih]
@[simp] theorem all_tt {α : Type} {l : List α} : (l.all fun _ => true) = true := List.all_eq_true.mpr fun _ _ => rfl
theorem atI_nat {α : Type} {l : List α} {k : Nat} (h : k < l.length) : atI l (k : Int) = l[k]? := by
  unfold atI ixN
  rw [if_pos (by omega), if_pos (by omega)]
  simp
@[simp] theorem at_0 {α : Type} {x0 : α} {l : List α} : atI (x0 :: l) 0 = some x0 := (atI_nat (k := 0) (by simp; try omega)).trans rfl
@[simp] theorem at_1 {α : Type} {x0 x1 : α} {l : List α} : atI (x0 :: x1 :: l) 1 = some x1 := (atI_nat (k := 1) (by simp; try omega)).trans rfl
@[simp] theorem at_2 {α : Type} {x0 x1 x2 : α} {l : List α} : atI (x0 :: x1 :: x2 :: l) 2 = some x2 := (atI_nat (k := 2) (by simp; try omega)).trans rfl
@[simp] theorem at_3 {α : Type} {x0 x1 x2 x3 : α} {l : List α} : atI (x0 :: x1 :: x2 :: x3 :: l) 3 = some x3 := (atI_nat (k := 3) (by simp; try omega)).trans rfl
@[simp] theorem at_4 {α : Type} {x0 x1 x2 x3 x4 : α} {l : List α} : atI (x0 :: x1 :: x2 :: x3 :: x4 :: l) 4 = some x4 := (atI_nat (k := 4) (by simp; try omega)).trans rfl
@[simp] theorem at_5 {α : Type} {x0 x1 x2 x3 x4 x5 : α} {l : List α} : atI (x0 :: x1 :: x2 :: x3 :: x4 :: x5 :: l) 5 = some x5 := (atI_nat (k := 5) (by simp; try omega)).trans rfl
@[simp] theorem at_6 {α : Type} {x0 x1 x2 x3 x4 x5 x6 : α} {l : List α} : atI (x0 :: x1 :: x2 :: x3 :: x4 :: x5 :: x6 :: l) 6 = some x6 := (atI_nat (k := 6) (by simp; try omega)).trans rfl
@[simp] theorem at_7 {α : Type} {x0 x1 x2 x3 x4 x5 x6 x7 : α} {l : List α} : atI (x0 :: x1 :: x2 :: x3 :: x4 :: x5 :: x6 :: x7 :: l) 7 = some x7 := (atI_nat (k := 7) (by simp; try omega)).trans rfl
theorem lcL_sub {gt : GT} {ft : FT} {fe : FE} {vs : List Nat} {Inv : EnvD → Prop} : ∀ {ds acc : List PyData} {env : EnvD}, (∀ d ∈ ds, ∀ env, Inv env → ∃ (b : Bool) (env' : EnvD), lcStep gt ft fe vs d env = some (if b then some d else none, env') ∧ Inv env') → Inv env → acc.length + ds.length ≤ bigL →
    ∃ out env', lcL gt ft fe vs ds acc env = M.ok (acc ++ out, env') ∧ Inv env' ∧ out.Sublist ds
  | [], acc, env, _, hi, _ => ⟨[], env, by simp [lcL], hi, List.Sublist.refl _⟩
  | d :: r, acc, env, hs, hi, hl => by
    simp only [List.length_cons] at hl
    obtain ⟨b, e1, h1, h3⟩ := hs d List.mem_cons_self env hi
    have tl : ∀ d ∈ r, ∀ env, Inv env → ∃ (b : Bool) (env' : EnvD), lcStep gt ft fe vs d env = some (if b then some d else none, env') ∧ Inv env' := fun x hx => hs x (List.mem_cons_of_mem _ hx)
    cases b with
    | false =>
      obtain ⟨out, e2, g1, g2, g3⟩ := lcL_sub (ds := r) (acc := acc) tl h3 (by omega)
      exact ⟨out, e2, by rw [lcL_step, h1]; exact g1, g2, g3.trans (List.sublist_cons_self _ _)⟩
    | true =>
      obtain ⟨out, e2, g1, g2, g3⟩ := lcL_sub (ds := r) (acc := acc ++ [d]) tl h3 (by rw [List.length_append, List.length_singleton]; omega)
      refine ⟨d :: out, e2, ?_, g2, g3.cons₂ d⟩
      rw [lcL_step, h1]
      simp only [if_true]
      rw [if_pos (by omega), g1, List.append_assoc]
      rfl
end DL
set_option Elab.async false
set_option linter.all false
set_option maxRecDepth 100000
set_option maxHeartbeats 4000000
namespace DL
open PySem PySem.Spec PyProof.Rows L2
/-! ### things of bounded depth and weight: what repr and == ask -/
structure Sm (w k : Nat) (d : PyData) : Prop where
  lay : d.canLay0 = true
  dep : d.depth ≤ k
  wt : d.weight ≤ w
  sh : d.showable = true
  nd : d.hasDict = false
  sho : d.intsShort 13 = true
theorem Sm.mono {w k w' k' : Nat} {d : PyData} (h : Sm w k d) (hw : w ≤ w') (hk : k ≤ k') : Sm w' k' d := ⟨h.lay, Nat.le_trans h.dep hk, Nat.le_trans h.wt hw, h.sh, h.nd, h.sho⟩
theorem Sm.repr {w k : Nat} {d : PyData} (h : Sm w k d) (hw : w ≤ 1048576 := by decide) (hk : k ≤ 64 := by decide) : reprOk d = true := by
  have h1 := h.dep
  have h2 := h.wt
  have e : (2 : Nat) ^ 20 = 1048576 := by decide
  unfold reprOk PyData.layable0
  simp only [h.lay, h.sh, h.nd, h.sho, Bool.true_and, Bool.and_true, Bool.not_false, Bool.and_eq_true, decide_eq_true_eq]
  omega
theorem Sm.shaped {w k : Nat} {d : PyData} (h : Sm w k d) (hk : k ≤ 64 := by decide) : SeqAt.shaped d = true := by
  have h1 := h.dep
  unfold SeqAt.shaped
  simp only [h.lay, Bool.true_and, decide_eq_true_eq]
  omega
theorem Sm.none {w k : Nat} : Sm w k .none := ⟨rfl, by simp [PyData.depth], by simp [PyData.weight], rfl, rfl, rfl⟩
theorem Sm.bool {w k : Nat} {b : Bool} : Sm w k (.bool b) := ⟨rfl, by simp [PyData.depth], by simp [PyData.weight], rfl, rfl, rfl⟩
theorem Sm.int {w k : Nat} {i : Int} (h : i.natAbs < 10 ^ 12) (hw : 40 ≤ w := by omega) : Sm w k (.int i) := by
  have l : i.natAbs.log2 < 40 := by
    rcases Nat.eq_zero_or_pos i.natAbs with z | z
    · rw [z]; decide
    · exact (Nat.log2_lt (by omega)).mpr (Nat.lt_of_lt_of_le h (by decide))
  refine ⟨rfl, by simp [PyData.depth], ?_, ?_, rfl, ?_⟩
  · unfold PyData.weight
    split <;> omega
  · unfold PyData.showable
    simp only [decide_eq_true_eq]
    omega
  · unfold PyData.intsShort
    simp only [decide_eq_true_eq]
    exact PyData.shown_int_le h
theorem Sm.str {w k : Nat} {x : Str} (h : PyData.canLay0 (.str x) = true) (hl : x.cps.size ≤ w) : Sm w k (.str x) := ⟨h, by simp [PyData.depth], by simpa [PyData.weight] using hl, rfl, rfl, rfl⟩
theorem sm_all {w k : Nat} : ∀ {xs : List PyData}, (∀ x ∈ xs, Sm w k x) → PyData.canLayAll0 xs = true ∧ PyData.depthAll xs ≤ k ∧ PyData.weightAll xs ≤ xs.length * (w + 1) ∧ PyData.showableAll xs = true ∧ PyData.hasDictAll xs = false ∧ PyData.intsShortAll 13 xs = true
  | [], _ => by simp [PyData.canLayAll0, PyData.depthAll, PyData.weightAll, PyData.showableAll, PyData.hasDictAll, PyData.intsShortAll]
  | x :: xs, h => by
    obtain ⟨h1, h2, h3, h4, h5, h6⟩ := sm_all (xs := xs) fun y hy => h y (List.mem_cons_of_mem _ hy)
    have hx := h x List.mem_cons_self
    have := hx.dep
    have := hx.wt
    refine ⟨by simp [PyData.canLayAll0, hx.lay, h1], by simp only [PyData.depthAll]; omega, ?_, by simp [PyData.showableAll, hx.sh, h4], by simp [PyData.hasDictAll, hx.nd, h5], by simp [PyData.intsShortAll, hx.sho, h6]⟩
    simp only [PyData.weightAll, List.length_cons, Nat.add_mul]
    omega
theorem Sm.tup {w k n w' k' : Nat} {xs : List PyData} (h : ∀ x ∈ xs, Sm w k x) (hn : xs.length ≤ n) (hw : n * (w + 1) ≤ w') (hk : k + 1 ≤ k') : Sm w' k' (.tuple xs) := by
  obtain ⟨h1, h2, h3, h4, h5, h6⟩ := sm_all h
  have h7 : xs.length * (w + 1) ≤ n * (w + 1) := Nat.mul_le_mul_right _ hn
  exact ⟨by simpa [PyData.canLay0] using h1, by simp only [PyData.depth]; omega, by simp only [PyData.weight]; omega, by simpa [PyData.showable] using h4, by simpa [PyData.hasDict] using h5, by simpa [PyData.intsShort] using h6⟩
theorem Sm.lst {w k n w' k' : Nat} {xs : List PyData} (h : ∀ x ∈ xs, Sm w k x) (hn : xs.length ≤ n) (hw : n * (w + 1) ≤ w') (hk : k + 1 ≤ k') : Sm w' k' (.list xs) := by
  obtain ⟨h1, h2, h3, h4, h5, h6⟩ := sm_all h
  have h7 : xs.length * (w + 1) ≤ n * (w + 1) := Nat.mul_le_mul_right _ hn
  exact ⟨by simpa [PyData.canLay0] using h1, by simp only [PyData.depth]; omega, by simp only [PyData.weight]; omega, by simpa [PyData.showable] using h4, by simpa [PyData.hasDict] using h5, by simpa [PyData.intsShort] using h6⟩
/-- closed things: by looking -/
def smB (w k : Nat) (d : PyData) : Bool := d.canLay0 && (decide (d.depth ≤ k) && (decide (d.weight ≤ w) && (d.showable && (!d.hasDict && d.intsShort 13))))
theorem smB_ok {w k : Nat} {d : PyData} (h : smB w k d = true) : Sm w k d := by
  unfold smB at h
  simp only [Bool.and_eq_true, decide_eq_true_eq, Bool.not_eq_true'] at h
  obtain ⟨h1, h2, h3, h4, h5, h6⟩ := h
  exact ⟨h1, h2, h3, h4, h5, h6⟩
theorem isE_eq {i a : Nat} {b : Bool} {env : EnvD} (h : env[i]? = some (some (.al a))) : eIsE i a b env = some (.ok (.val (.bool b), env)) := by
  unfold eIsE
  rw [h]
  simp
theorem lst_sh (bs : List Bool) : SeqAt.shaped (.list (bs.map PyData.bool)) = true := by
  have h1 : ∀ bs : List Bool, PyData.canLayAll0 (bs.map PyData.bool) = true := fun bs => by induction bs <;> simp_all [PyData.canLayAll0, PyData.canLay0]
  have h2 : ∀ bs : List Bool, PyData.depthAll (bs.map PyData.bool) ≤ 1 := fun bs => by induction bs <;> simp_all [PyData.depthAll, PyData.depth] <;> omega
  have := h2 bs
  simp [SeqAt.shaped, PyData.canLay0, h1, PyData.depth]
  omega
theorem bt_sh : SeqAt.shaped (.bool true) = true := by decide
theorem eM1_s {g : PyData → PyData → Option Sl} {fo fe : FE} {env : EnvD} : eM1 g fo fe env = M.bind (fo env) fun p => match rd (fz p.1) p.2 with
  | some (.list _) => M.bind (fe p.2) fun q => fin (g2 g (rd (fz p.1) q.2) (rd (fz q.1) q.2)) q.2
  | _ => none := rfl
end DL
set_option Elab.async false
set_option linter.all false
set_option maxRecDepth 100000
set_option maxHeartbeats 0
namespace K53
open PySem PySem.Spec PyProof.Rows L2 DL He
def topS (i : Nat) : Stmt := PySem.Challenge.pw_waterheads_k53_leaks_refused.main.body.getD i (.Pass ⟨0, 0, 0, 0⟩)
abbrev s_is_whole : Stmt := topS 21
theorem sc_is_whole : FnScope ["thing"] ["thing"] (defScope s_is_whole) := ⟨rfl, rfl, rfl, by decide +kernel, rfl, by decide +kernel, by decide +kernel⟩
abbrev s_common : Stmt := topS 22
theorem sc_common : FnScope ["one", "other"] ["one", "other"] (defScope s_common) := ⟨rfl, rfl, rfl, by decide +kernel, rfl, by decide +kernel, by decide +kernel⟩
abbrev s_is_fraction : Stmt := topS 23
theorem sc_is_fraction : FnScope ["thing", "one"] ["thing"] (defScope s_is_fraction) := ⟨rfl, rfl, rfl, by decide +kernel, rfl, by decide +kernel, by decide +kernel⟩
abbrev s_is_number : Stmt := topS 44
theorem sc_is_number : FnScope ["thing", "low", "high"] ["thing", "low", "high"] (defScope s_is_number) := ⟨rfl, rfl, rfl, by decide +kernel, rfl, by decide +kernel, by decide +kernel⟩
abbrev s_is_between : Stmt := topS 31
theorem sc_is_between : FnScope ["thing", "low", "high"] ["thing", "low", "high"] (defScope s_is_between) := ⟨rfl, rfl, rfl, by decide +kernel, rfl, by decide +kernel, by decide +kernel⟩
abbrev s_is_place_joint : Stmt := topS 45
theorem sc_is_place_joint : FnScope ["thing", "word", "height", "least", "most"] ["thing"] (defScope s_is_place_joint) := ⟨rfl, rfl, rfl, by decide +kernel, rfl, by decide +kernel, by decide +kernel⟩
abbrev s_is_joint : Stmt := topS 46
theorem sc_is_joint : FnScope ["thing", "bounds", "high", "low", "one"] ["thing"] (defScope s_is_joint) := ⟨rfl, rfl, rfl, by decide +kernel, rfl, by decide +kernel, by decide +kernel⟩
abbrev s_is_pipe : Stmt := topS 47
theorem sc_is_pipe : FnScope ["many", "thing", "one", "other", "factor", "way", "lift", "gate", "volume"] ["many", "thing"] (defScope s_is_pipe) := ⟨rfl, rfl, rfl, by decide +kernel, rfl, by decide +kernel, by decide +kernel⟩
abbrev s_is_net : Stmt := topS 48
theorem sc_is_net : FnScope ["thing", "joints", "pipes", "one", "joint", "pipe"] ["thing"] (defScope s_is_net) := ⟨rfl, rfl, rfl, by decide +kernel, rfl, by decide +kernel, by decide +kernel⟩
abbrev s_need_net : Stmt := topS 49
theorem sc_need_net : FnScope ["thing"] ["thing"] (defScope s_need_net) := ⟨rfl, rfl, rfl, by decide +kernel, rfl, by decide +kernel, by decide +kernel⟩
abbrev s_tanks_of : Stmt := topS 51
theorem sc_tanks_of : FnScope ["net", "joint"] ["net"] (defScope s_tanks_of) := ⟨rfl, rfl, rfl, by decide +kernel, rfl, by decide +kernel, by decide +kernel⟩
abbrev s_is_pump : Stmt := topS 52
theorem sc_is_pump : FnScope ["net", "pipe"] ["net", "pipe"] (defScope s_is_pump) := ⟨rfl, rfl, rfl, by decide +kernel, rfl, by decide +kernel, by decide +kernel⟩
abbrev s_can_shut : Stmt := topS 53
theorem sc_can_shut : FnScope ["net", "thing"] ["net", "thing"] (defScope s_can_shut) := ⟨rfl, rfl, rfl, by decide +kernel, rfl, by decide +kernel, by decide +kernel⟩
abbrev s_are_rising : Stmt := topS 54
theorem sc_are_rising : FnScope ["some", "one", "other"] ["some"] (defScope s_are_rising) := ⟨rfl, rfl, rfl, by decide +kernel, rfl, by decide +kernel, by decide +kernel⟩
abbrev s_are_asked : Stmt := topS 55
theorem sc_are_asked : FnScope ["net", "thing", "one", "joint"] ["net", "thing"] (defScope s_are_asked) := ⟨rfl, rfl, rfl, by decide +kernel, rfl, by decide +kernel, by decide +kernel⟩
abbrev s_are_levels_of : Stmt := topS 56
theorem sc_are_levels_of : FnScope ["net", "thing", "tanks", "joint", "one"] ["net", "thing"] (defScope s_are_levels_of) := ⟨rfl, rfl, rfl, by decide +kernel, rfl, by decide +kernel, by decide +kernel⟩
abbrev s_are_shut : Stmt := topS 57
theorem sc_are_shut : FnScope ["net", "thing", "one"] ["net", "thing"] (defScope s_are_shut) := ⟨rfl, rfl, rfl, by decide +kernel, rfl, by decide +kernel, by decide +kernel⟩
abbrev s_is_case_of : Stmt := topS 58
theorem sc_is_case_of : FnScope ["net", "thing"] ["net", "thing"] (defScope s_is_case_of) := ⟨rfl, rfl, rfl, by decide +kernel, rfl, by decide +kernel, by decide +kernel⟩
abbrev s_need_case : Stmt := topS 59
theorem sc_need_case : FnScope ["net", "thing"] ["net", "thing"] (defScope s_need_case) := ⟨rfl, rfl, rfl, by decide +kernel, rfl, by decide +kernel, by decide +kernel⟩
abbrev s_need_both : Stmt := topS 80
theorem sc_need_both : FnScope ["net", "case"] ["net", "case"] (defScope s_need_both) := ⟨rfl, rfl, rfl, by decide +kernel, rfl, by decide +kernel, by decide +kernel⟩
abbrev s_are_readings : Stmt := topS 83
theorem sc_are_readings : FnScope ["net", "thing", "one"] ["net", "thing"] (defScope s_are_readings) := ⟨rfl, rfl, rfl, by decide +kernel, rfl, by decide +kernel, by decide +kernel⟩
abbrev s_are_meters : Stmt := topS 84
theorem sc_are_meters : FnScope ["net", "thing", "one"] ["net", "thing"] (defScope s_are_meters) := ⟨rfl, rfl, rfl, by decide +kernel, rfl, by decide +kernel, by decide +kernel⟩
abbrev s_leak : Stmt := topS 87
theorem sc_leak : FnScope ["net", "case", "readings", "given", "amount", "found", "place", "heads", "head", "read"] ["net", "case", "readings", "given"] (defScope s_leak) := ⟨rfl, rfl, rfl, by decide +kernel, rfl, by decide +kernel, by decide +kernel⟩
abbrev s_alike : Stmt := topS 88
theorem sc_alike : FnScope ["net", "case", "amount", "meters", "lots", "place", "heads", "key", "joint"] ["net", "case", "amount", "meters"] (defScope s_alike) := ⟨rfl, rfl, rfl, by decide +kernel, rfl, by decide +kernel, by decide +kernel⟩
abbrev s__law_cell_at : Stmt := topS 90
theorem sc__law_cell_at : FnScope ["_law_script", "_law_k"] ["_law_script", "_law_k"] (defScope s__law_cell_at) := ⟨rfl, rfl, rfl, by decide +kernel, rfl, by decide +kernel, by decide +kernel⟩
abbrev s__law_next : Stmt := topS 91
theorem sc__law_next : FnScope ["_law_one"] ["_law_one"] (defScope s__law_next) := ⟨rfl, rfl, rfl, by decide +kernel, rfl, by decide +kernel, by decide +kernel⟩
abbrev s__law_pen_of : Stmt := topS 92
theorem sc__law_pen_of : FnScope ["_law_cell", "_law_left"] ["_law_cell"] (defScope s__law_pen_of) := ⟨rfl, rfl, rfl, by decide +kernel, rfl, by decide +kernel, by decide +kernel⟩
abbrev s__law_draw : Stmt := topS 93
theorem sc__law_draw : FnScope ["_law_pen", "_law_many", "_law_found"] ["_law_pen", "_law_many"] (defScope s__law_draw) := ⟨rfl, rfl, rfl, by decide +kernel, rfl, by decide +kernel, by decide +kernel⟩
abbrev s__law_low : Stmt := topS 94
theorem sc__law_low : FnScope ["_law_top", "_law_bottom", "_law_one", "_law_two"] ["_law_top", "_law_bottom"] (defScope s__law_low) := ⟨rfl, rfl, rfl, by decide +kernel, rfl, by decide +kernel, by decide +kernel⟩
abbrev s__law_joint : Stmt := topS 95
theorem sc__law_joint : FnScope ["_law_pen", "_law_way", "_law_least"] ["_law_pen"] (defScope s__law_joint) := ⟨rfl, rfl, rfl, by decide +kernel, rfl, by decide +kernel, by decide +kernel⟩
abbrev s__law_net : Stmt := topS 96
theorem sc__law_net : FnScope ["_law_pen", "_law_most", "_law_first", "_law_joints", "_law_pipes", "_law_goes", "_law_turn", "_law_one", "_law_step", "_law_way", "_law_lift", "_law_ends"] ["_law_pen", "_law_most"] (defScope s__law_net) := ⟨rfl, rfl, rfl, by decide +kernel, rfl, by decide +kernel, by decide +kernel⟩
abbrev s__law_case : Stmt := topS 97
theorem sc__law_case : FnScope ["_law_pen", "_law_net_here", "_law_asked", "_law_levels", "_law_joint_here", "_law_amount", "_law_can", "_law_number", "_law_pipe"] ["_law_pen", "_law_net_here"] (defScope s__law_case) := ⟨rfl, rfl, rfl, by decide +kernel, rfl, by decide +kernel, by decide +kernel⟩
abbrev s__law_said : Stmt := topS 98
theorem sc__law_said : FnScope ["_law_call", "e", "_law_some", "_law_words"] ["_law_call"] (defScope s__law_said) := ⟨rfl, rfl, rfl, by decide +kernel, rfl, by decide +kernel, by decide +kernel⟩
abbrev s__law_wrong : Stmt := topS 99
theorem sc__law_wrong : FnScope ["_law_pen", "_law_net_here", "_law_case_here", "_law_many", "_law_nets", "_law_cases", "_law_readings", "_law_fractions", "_law_amounts", "_law_meters", "_law_some", "_law_kinds"] ["_law_pen", "_law_net_here", "_law_case_here"] (defScope s__law_wrong) := ⟨rfl, rfl, rfl, by decide +kernel, rfl, by decide +kernel, by decide +kernel⟩
abbrev s_law : Stmt := topS 100
theorem sc_law : FnScope ["_law_script", "_law_cell", "_law_pen", "_law_net_here", "_law_case_here", "_law_blank", "_law_turn", "_law_bad", "_law_kept", "_law_words"] ["_law_script"] (defScope s_law) := ⟨rfl, rfl, rfl, by decide +kernel, rfl, by decide +kernel, by decide +kernel⟩
def names0 : List Str := ["WaterError", "NoNet", "NoCase", "NoShut", "NoPlace", "NoJoint", "NoPipe", "NoPlan", "NoLevels", "NoReadings", "NoFraction", "NoAmount", "NoMeters", "NoTariff", "NotNow"]
def names1 : List Str := ["NoDeed", "NoLine", "NoText", "NOUGHT", "is_whole", "common", "is_fraction", "lowest", "whole", "plus", "minus", "times", "over", "below", "is_between"]
def names2 : List Str := ["total_of", "PLACE", "SOURCE", "TANK", "BOTH", "ON", "MOST_JOINTS", "MOST_PIPES", "MOST_ON", "MOST_ASKED", "BOUNDS", "is_number", "is_place_joint", "is_joint", "is_pipe"]
def names3 : List Str := ["is_net", "need_net", "places_of", "tanks_of", "is_pump", "can_shut", "are_rising", "are_asked", "are_levels_of", "are_shut", "is_case_of", "need_case", "heads_at", "ONE_END", "OTHER_END"]
def names4 : List Str := ["FACTOR", "WAY", "LIFT", "goes_on", "fed_by", "running_by", "got_by", "lots_by", "row_of", "scaled", "solved", "lot_heads", "slope_by", "raised", "tried"]
def names5 : List Str := ["stand_by", "need_both", "MOST_AMOUNT", "are_readings", "are_meters", "leaking", "fed_places", "leak", "alike", "_law_cell_at", "_law_next", "_law_pen_of", "_law_draw", "_law_low", "_law_joint"]
def names6 : List Str := ["_law_net", "_law_case", "_law_said", "_law_wrong"]
def names : List Str := names0 ++ names1 ++ names2 ++ names3 ++ names4 ++ names5 ++ names6
abbrev R : PySem.W.OpenRow := PySem.W.OpenLaw.row PySem.Challenge.rw_waterheads_k53_leaks_refused
abbrev qv : Program := PySem.W.view R.prog [100]
def fn0 : List DefD := [defD "is_whole" s_is_whole, defD "common" s_common, defD "is_fraction" s_is_fraction, defD "is_number" s_is_number, defD "is_between" s_is_between, defD "is_place_joint" s_is_place_joint, defD "is_joint" s_is_joint, defD "is_pipe" s_is_pipe, defD "is_net" s_is_net, defD "need_net" s_need_net, defD "tanks_of" s_tanks_of, defD "is_pump" s_is_pump, defD "can_shut" s_can_shut, defD "are_rising" s_are_rising, defD "are_asked" s_are_asked]
def fn1 : List DefD := [defD "are_levels_of" s_are_levels_of, defD "are_shut" s_are_shut, defD "is_case_of" s_is_case_of, defD "need_case" s_need_case, defD "need_both" s_need_both, defD "are_readings" s_are_readings, defD "are_meters" s_are_meters, defD "leak" s_leak, defD "alike" s_alike, defD "_law_cell_at" s__law_cell_at, defD "_law_next" s__law_next, defD "_law_pen_of" s__law_pen_of, defD "_law_draw" s__law_draw, defD "_law_low" s__law_low, defD "_law_joint" s__law_joint]
def fn2 : List DefD := [defD "_law_net" s__law_net, defD "_law_case" s__law_case, defD "_law_said" s__law_said, defD "_law_wrong" s__law_wrong, defD "law" s_law]
def fn : List DefD := fn0 ++ fn1 ++ fn2
def fa0 : List Fa := [.glo "is_whole", .glo "common", .glo "is_fraction", .glo "is_number", .glo "is_between", .glo "is_place_joint", .glo "is_joint", .glo "is_pipe", .glo "is_net", .glo "need_net", .glo "tanks_of", .glo "is_pump", .glo "can_shut", .glo "are_rising", .glo "are_asked"]
def fa1 : List Fa := [.glo "are_levels_of", .glo "are_shut", .glo "is_case_of", .glo "need_case", .glo "need_both", .glo "are_readings", .glo "are_meters", .glo "leak", .glo "alike", .glo "_law_cell_at", .glo "_law_next", .glo "_law_pen_of", .glo "_law_draw", .glo "_law_low", .glo "_law_joint"]
def fa2 : List Fa := [.glo "_law_net", .glo "_law_case", .glo "_law_said", .glo "_law_wrong", .glo "law", .glo "WaterError", .glo "NoAmount", .glo "NoCase", .glo "NoFraction", .glo "NoMeters", .glo "NoNet", .glo "NoReadings", .exc "NoAmount", .exc "NoCase", .exc "NoFraction"]
def fa3 : List Fa := [.exc "NoMeters", .exc "NoNet", .exc "NoReadings", .glo "BOUNDS", .free "ValueError", .free "abs", .free "all", .free "bool", .free "enumerate", .free "int", .free "isinstance", .free "len", .free "list", .free "max", .free "min"]
def fa4 : List Fa := [.free "range", .free "repr", .free "str", .free "tuple", .free "zip", .code ("law", none) "law"]
def fa : List Fa := fa0 ++ fa1 ++ fa2 ++ fa3 ++ fa4
def tabs : List Tab := [((fun K => ga K "BOUNDS"), ["source", "tank"])]
def tf : List Defn := [("law", none)]
def errs0 : List Str := ["NoNet", "NoCase", "NoShut", "NoPlace", "NoJoint", "NoPipe", "NoPlan", "NoLevels", "NoReadings", "NoFraction", "NoAmount", "NoMeters", "NoTariff", "NotNow", "NoDeed"]
def errs1 : List Str := ["NoLine", "NoText"]
def errs : List Str := errs0 ++ errs1
def dic_BOUNDS : List (Str × PyData) := [("source", .tuple [.tuple [.int 0, .int 200]]), ("tank", .tuple [.tuple [.int 0, .int 150], .tuple [.int 1, .int 50], .tuple [.int 1, .int 50]])]
def ex (K : PySem.W.Frag) : Bool := (noLst K && (glB K "BOTH" (.str (Str.ofString "both")) && (glB K "MOST_AMOUNT" (.int 50) && (glB K "MOST_ASKED" (.int 50) && (glB K "MOST_JOINTS" (.int 7) && (glB K "MOST_ON" (.int 4) && (glB K "MOST_PIPES" (.int 9) && (glB K "NOUGHT" (.tuple [(.int 0), (.int 1)]) && (glB K "ON" (.str (Str.ofString "on")) && (glB K "PLACE" (.str (Str.ofString "place")) && (glB K "TANK" (.str (Str.ofString "tank")) && (dicB K "BOUNDS" dic_BOUNDS && (tabB K ["law"] && (errB K errs && true))))))))))))))
abbrev hk : PySem.W.Hook := hookX 5 fa fn tabs tf ex
def ob (s : PySem.W.SharedT) : AlX := obsX 5 fa fn tabs tf ex (HandSHeadRun.getT s)
theorem ob_eq (s : PySem.W.SharedT) : ob s = hk.obs s.abs := obsX_eq (HandSHeadRun.getT_eq s)
theorem run_false (w : World) : HandSHeadRun.RunEq R qv hk ob 8000 names (w.withFollow "special-get-raises" false) := by
  intro os
  kernel_rfl
theorem run_true (w : World) : HandSHeadRun.RunEq R qv hk ob 8000 names (w.withFollow "special-get-raises" true) := by
  intro os
  kernel_rfl
theorem run (w : World) : HandSHeadRun.RunEq R qv hk ob 8000 names w := PySem.W.byRow2 (P := fun w => HandSHeadRun.RunEq R qv hk ob 8000 names w) "special-get-raises" run_false run_true w
end K53
set_option Elab.async false
set_option linter.all false
set_option maxRecDepth 100000
set_option maxHeartbeats 0
namespace K53
open PySem PySem.Spec PyProof.Rows L2 DL He
def f_is_whole : FS := (retF (eAnd (e1 (isiD .int) (eVar 0)) (eNot (e1 (isiD .bool) (eVar 0)))))
def m_is_whole : MF := bodyF 1 1 f_is_whole
def f_common : FS := (seqF (parF 0 1 (eCB absD (aCons (eVar 0) aNil)) (eCB absD (aCons (eVar 1) aNil)))
    (seqF (whileF (muI 1) (eT (e2 neD (eVar 1) (eC (.int 0)))) (parF 0 1 (eVar 1) (e2 modD (eVar 0) (eVar 1))))
    (retF (eVar 0))))
def m_common : MF := bodyF 2 2 f_common
def f_is_fraction : FS := (seqF (ifF (tOrF (tNotF (eT (e1 (isiD .tuple) (eVar 0)))) (tOrF (eT (e2 neD (eCB lenD (aCons (eVar 0) aNil)) (eC (.int 2)))) (tNotF (eT (eCB allD (aCons (lcF (seqI (eVar 0)) (gtName 1) yesF (callV m_is_whole [] (aCons (eVar 1) aNil)) [1]) aNil)))))) (retF (eC (.bool false))) nilF)
    (retF (eAnd (e2 gtD (e2 ixD (eVar 0) (eC (.int 1))) (eC (.int 0))) (e2 eqD (callV m_common [] (aCons (e2 ixD (eVar 0) (eC (.int 0))) (aCons (e2 ixD (eVar 0) (eC (.int 1))) aNil))) (eC (.int 1))))))
def m_is_fraction : MF := bodyF 1 2 f_is_fraction
def f_is_number : FS := (retF (eAnd (callV m_is_whole [] (aCons (eVar 0) aNil)) (eChain leD leD (eVar 1) (eVar 0) (eVar 2))))
def m_is_number : MF := bodyF 3 3 f_is_number
def f_is_between : FS := (retF (eAnd (callV m_is_fraction [] (aCons (eVar 0) aNil)) (eChain leD leD (e2 mulD (eVar 1) (e2 ixD (eVar 0) (eC (.int 1)))) (e2 ixD (eVar 0) (eC (.int 0))) (e2 mulD (eVar 2) (e2 ixD (eVar 0) (eC (.int 1)))))))
def m_is_between : MF := bodyF 3 3 f_is_between
def f_is_place_joint : FS := (seqF (asgG (gtTup (gtCons (gtName 1) (gtCons (gtName 2) (gtCons (gtName 3) (gtCons (gtName 4) gtNil))))) (eVar 0))
    (retF (eAnd (callV m_is_number [] (aCons (eVar 2) (aCons (eC (.int 0)) (aCons (eC (.int 100)) aNil)))) (eAnd (callV m_is_number [] (aCons (eVar 4) (aCons (eC (.int 0)) (aCons (eC (.int 200)) aNil)))) (callV m_is_number [] (aCons (eVar 3) (aCons (eC (.int 0)) (aCons (eVar 4) aNil))))))))
def m_is_place_joint : MF := bodyF 1 5 f_is_place_joint
def f_is_joint : FS := (seqF (ifF (tOrF (tNotF (eT (e1 (isiD .tuple) (eVar 0)))) (tOrF (eT (e2 eqD (eVar 0) (eTup aNil))) (tNotF (eT (e1 (isiD .str) (e2 ixD (eVar 0) (eC (.int 0)))))))) (retF (eC (.bool false))) nilF)
    (seqF (ifF (eT (e2 eqD (e2 ixD (eVar 0) (eC (.int 0))) (eC (.str (Str.ofString "place"))))) (retF (eAnd (e2 eqD (eCB lenD (aCons (eVar 0) aNil)) (eC (.int 4))) (callV m_is_place_joint [] (aCons (eVar 0) aNil)))) nilF)
    (seqF (asgF 1 (eKGet dic_BOUNDS (e2 ixD (eVar 0) (eC (.int 0)))))
    (seqF (ifF (tOrF (eT (e2 isD (eVar 1) (eC .none))) (eT (e2 neD (eCB lenD (aCons (eVar 0) aNil)) (e2 addD (eCB lenD (aCons (eVar 1) aNil)) (eC (.int 1)))))) (retF (eC (.bool false))) nilF)
    (retF (eCB allD (aCons (lcF (argI zipI (aCons (eSl (eVar 0) (oSome (eC (.int 1))) oNone) (aCons (eVar 1) aNil))) (gtTup (gtCons (gtName 4) (gtCons (gtTup (gtCons (gtName 3) (gtCons (gtName 2) gtNil))) gtNil))) yesF (callV m_is_number [] (aCons (eVar 4) (aCons (eVar 3) (aCons (eVar 2) aNil)))) [4, 3, 2]) aNil)))))))
def m_is_joint : MF := bodyF 1 5 f_is_joint
def f_is_pipe : FS := (seqF (ifF (tOrF (tNotF (eT (e1 (isiD .tuple) (eVar 1)))) (eT (e2 neD (eCB lenD (aCons (eVar 1) aNil)) (eC (.int 7))))) (retF (eC (.bool false))) nilF)
    (seqF (asgG (gtTup (gtCons (gtName 2) (gtCons (gtName 3) (gtCons (gtName 4) (gtCons (gtName 5) (gtCons (gtName 6) (gtCons (gtName 7) (gtCons (gtName 8) gtNil)))))))) (eVar 1))
    (seqF (ifF (tOrF (tNotF (eT (callV m_is_number [] (aCons (eVar 2) (aCons (eC (.int 0)) (aCons (e2 subD (eVar 0) (eC (.int 1))) aNil)))))) (tOrF (tNotF (eT (callV m_is_number [] (aCons (eVar 3) (aCons (eC (.int 0)) (aCons (e2 subD (eVar 0) (eC (.int 1))) aNil)))))) (eT (e2 eqD (eVar 2) (eVar 3))))) (retF (eC (.bool false))) nilF)
    (seqF (ifF (tOrF (tNotF (eT (callV m_is_number [] (aCons (eVar 4) (aCons (eC (.int 1)) (aCons (eC (.int 20)) aNil)))))) (tOrF (tNotF (eT (e1 (isiD .str) (eVar 5)))) (eT (e2 ninD (eVar 5) (eTup (aCons (eC (.str (Str.ofString "both"))) (aCons (eC (.str (Str.ofString "on"))) aNil))))))) (retF (eC (.bool false))) nilF)
    (seqF (ifF (tOrF (tNotF (eT (callV m_is_number [] (aCons (eVar 6) (aCons (eC (.int 0)) (aCons (eIf (eT (e2 eqD (eVar 5) (eC (.str (Str.ofString "on"))))) (eC (.int 50)) (eC (.int 0))) aNil)))))) (tNotF (eT (e1 (isiD .bool) (eVar 7))))) (retF (eC (.bool false))) nilF)
    (retF (callV m_is_number [] (aCons (eVar 8) (aCons (eC (.int 0)) (aCons (eC (.int 20)) aNil))))))))))
def m_is_pipe : MF := bodyF 2 9 f_is_pipe
def f_is_net : FS := (seqF (ifF (tOrF (tNotF (eT (e1 (isiD .tuple) (eVar 0)))) (tOrF (eT (e2 neD (eCB lenD (aCons (eVar 0) aNil)) (eC (.int 2)))) (tNotF (eT (eCB allD (aCons (lcF (seqI (eVar 0)) (gtName 3) yesF (e1 (isiD .tuple) (eVar 3)) [3]) aNil)))))) (retF (eC (.bool false))) nilF)
    (seqF (asgG (gtTup (gtCons (gtName 1) (gtCons (gtName 2) gtNil))) (eVar 0))
    (seqF (ifF (tOrF (tNotF (eT (eChain leD leD (eC (.int 2)) (eCB lenD (aCons (eVar 1) aNil)) (eC (.int 7))))) (tNotF (eT (eCB allD (aCons (lcF (seqI (eVar 1)) (gtName 4) yesF (callV m_is_joint [] (aCons (eVar 4) aNil)) [4]) aNil))))) (retF (eC (.bool false))) nilF)
    (seqF (ifF (tOrF (tNotF (eT (eChain leD leD (eC (.int 1)) (eCB lenD (aCons (eVar 2) aNil)) (eC (.int 9))))) (tNotF (eT (eCB allD (aCons (lcF (seqI (eVar 2)) (gtName 5) yesF (callV m_is_pipe [] (aCons (eCB lenD (aCons (eVar 1) aNil)) (aCons (eVar 5) aNil))) [5]) aNil))))) (retF (eC (.bool false))) nilF)
    (retF (e2 leD (eCB lenD (aCons (lcF (seqI (eVar 2)) (gtName 5) (eT (e2 eqD (e2 ixD (eVar 5) (eC (.int 3))) (eC (.str (Str.ofString "on"))))) (eVar 5) [5]) aNil)) (eC (.int 4))))))))
def m_is_net : MF := bodyF 1 6 f_is_net
def f_need_net : FS := (ifF (tNotF (eT (callV m_is_net [] (aCons (eVar 0) aNil)))) (raiseF "NoNet") nilF)
def m_need_net : MF := bodyF 1 1 f_need_net
def f_tanks_of : FS := (retF (lcF (argI rng1I (aCons (eCB lenD (aCons (e2 ixD (eVar 0) (eC (.int 0))) aNil)) aNil)) (gtName 1) (eT (e2 eqD (e2 ixD (e2 ixD (e2 ixD (eVar 0) (eC (.int 0))) (eVar 1)) (eC (.int 0))) (eC (.str (Str.ofString "tank"))))) (eVar 1) [1]))
def m_tanks_of : MF := bodyF 1 2 f_tanks_of
def f_is_pump : FS := (retF (e2 gtD (e2 ixD (e2 ixD (e2 ixD (eVar 0) (eC (.int 1))) (eVar 1)) (eC (.int 4))) (eC (.int 0))))
def m_is_pump : MF := bodyF 2 2 f_is_pump
def f_can_shut : FS := (retF (eAnd (callV m_is_number [] (aCons (eVar 1) (aCons (eC (.int 0)) (aCons (e2 subD (eCB lenD (aCons (e2 ixD (eVar 0) (eC (.int 1))) aNil)) (eC (.int 1))) aNil)))) (eOr (e2 ixD (e2 ixD (e2 ixD (eVar 0) (eC (.int 1))) (eVar 1)) (eC (.int 5))) (callV m_is_pump [] (aCons (eVar 0) (aCons (eVar 1) aNil))))))
def m_can_shut : MF := bodyF 2 2 f_can_shut
def f_are_rising : FS := (retF (eCB allD (aCons (lcF (argI zipI (aCons (eSl (eVar 0) oNone (oSome (e1 negD (eC (.int 1))))) (aCons (eSl (eVar 0) (oSome (eC (.int 1))) oNone) aNil))) (gtTup (gtCons (gtName 1) (gtCons (gtName 2) gtNil))) yesF (e2 ltD (eVar 1) (eVar 2)) [1, 2]) aNil)))
def m_are_rising : MF := bodyF 1 3 f_are_rising
def f_are_asked : FS := (seqF (ifF (tOrF (tNotF (eT (e1 (isiD .tuple) (eVar 1)))) (eT (e2 neD (eCB lenD (aCons (eVar 1) aNil)) (eCB lenD (aCons (e2 ixD (eVar 0) (eC (.int 0))) aNil))))) (retF (eC (.bool false))) nilF)
    (seqF (ifF (tNotF (eT (eCB allD (aCons (lcF (seqI (eVar 1)) (gtName 2) yesF (callV m_is_between [] (aCons (eVar 2) (aCons (eC (.int 0)) (aCons (eC (.int 50)) aNil)))) [2]) aNil)))) (retF (eC (.bool false))) nilF)
    (retF (eCB allD (aCons (lcF (argI zipI (aCons (eVar 1) (aCons (e2 ixD (eVar 0) (eC (.int 0))) aNil))) (gtTup (gtCons (gtName 2) (gtCons (gtName 3) gtNil))) yesF (eOr (e2 eqD (eVar 2) (eC (.tuple [(.int 0), (.int 1)]))) (e2 eqD (e2 ixD (eVar 3) (eC (.int 0))) (eC (.str (Str.ofString "place"))))) [2, 3]) aNil)))))
def m_are_asked : MF := bodyF 2 4 f_are_asked
def f_are_levels_of : FS := (seqF (asgF 2 (callV m_tanks_of [] (aCons (eVar 0) aNil)))
    (seqF (ifF (tOrF (tNotF (eT (e1 (isiD .tuple) (eVar 1)))) (eT (e2 neD (eCB lenD (aCons (eVar 1) aNil)) (eCB lenD (aCons (eVar 2) aNil))))) (retF (eC (.bool false))) nilF)
    (retF (eCB allD (aCons (lcF (argI zipI (aCons (eVar 1) (aCons (eVar 2) aNil))) (gtTup (gtCons (gtName 4) (gtCons (gtName 3) gtNil))) yesF (callV m_is_between [] (aCons (eVar 4) (aCons (eC (.int 0)) (aCons (e2 ixD (e2 ixD (e2 ixD (eVar 0) (eC (.int 0))) (eVar 3)) (eC (.int 3))) aNil)))) [4, 3]) aNil)))))
def m_are_levels_of : MF := bodyF 2 5 f_are_levels_of
def f_are_shut : FS := (retF (eAnd (e1 (isiD .tuple) (eVar 1)) (eAnd (eCB allD (aCons (lcF (seqI (eVar 1)) (gtName 2) yesF (callV m_can_shut [] (aCons (eVar 0) (aCons (eVar 2) aNil))) [2]) aNil)) (callV m_are_rising [] (aCons (eVar 1) aNil)))))
def m_are_shut : MF := bodyF 2 3 f_are_shut
def f_is_case_of : FS := (seqF (ifF (tOrF (tNotF (eT (e1 (isiD .tuple) (eVar 1)))) (eT (e2 neD (eCB lenD (aCons (eVar 1) aNil)) (eC (.int 3))))) (retF (eC (.bool false))) nilF)
    (retF (eAnd (callV m_are_asked [] (aCons (eVar 0) (aCons (e2 ixD (eVar 1) (eC (.int 0))) aNil))) (eAnd (callV m_are_levels_of [] (aCons (eVar 0) (aCons (e2 ixD (eVar 1) (eC (.int 1))) aNil))) (callV m_are_shut [] (aCons (eVar 0) (aCons (e2 ixD (eVar 1) (eC (.int 2))) aNil)))))))
def m_is_case_of : MF := bodyF 2 2 f_is_case_of
def f_need_case : FS := (seqF (dropF (callV m_need_net [] (aCons (eVar 0) aNil)))
    (ifF (tNotF (eT (callV m_is_case_of [] (aCons (eVar 0) (aCons (eVar 1) aNil))))) (raiseF "NoCase") nilF))
def m_need_case : MF := bodyF 2 2 f_need_case
def f_need_both : FS := (dropF (callV m_need_case [] (aCons (eVar 0) (aCons (eVar 1) aNil))))
def m_need_both : MF := bodyF 2 2 f_need_both
def f_are_readings : FS := (seqF (ifF (tOrF (tNotF (eT (e1 (isiD .tuple) (eVar 1)))) (eT (e2 neD (eCB lenD (aCons (eVar 1) aNil)) (eCB lenD (aCons (e2 ixD (eVar 0) (eC (.int 0))) aNil))))) (retF (eC (.bool false))) nilF)
    (retF (eCB allD (aCons (lcF (seqI (eVar 1)) (gtName 2) yesF (eOr (e2 isD (eVar 2) (eC .none)) (callV m_is_fraction [] (aCons (eVar 2) aNil))) [2]) aNil))))
def m_are_readings : MF := bodyF 2 3 f_are_readings
def f_are_meters : FS := (seqF (ifF (tOrF (tNotF (eT (e1 (isiD .tuple) (eVar 1)))) (tNotF (eT (eCB allD (aCons (lcF (seqI (eVar 1)) (gtName 2) yesF (callV m_is_number [] (aCons (eVar 2) (aCons (eC (.int 0)) (aCons (e2 subD (eCB lenD (aCons (e2 ixD (eVar 0) (eC (.int 0))) aNil)) (eC (.int 1))) aNil)))) [2]) aNil))))) (retF (eC (.bool false))) nilF)
    (retF (callV m_are_rising [] (aCons (eVar 1) aNil))))
def m_are_meters : MF := bodyF 2 3 f_are_meters
def f_leak : FS := (seqF (dropF (callV m_need_both [] (aCons (eVar 0) (aCons (eVar 1) aNil))))
    (seqF (ifF (tNotF (eT (callV m_are_readings [] (aCons (eVar 0) (aCons (eVar 2) aNil))))) (raiseF "NoReadings") nilF)
    (seqF (ifF (tNotF (eT (callV m_is_fraction [] (aCons (eVar 3) aNil)))) (raiseF "NoFraction") nilF)
    (fun _ => none))))
def m_leak : MF := bodyF 4 10 f_leak
def f_alike : FS := (seqF (dropF (callV m_need_both [] (aCons (eVar 0) (aCons (eVar 1) aNil))))
    (seqF (ifF (tNotF (eT (callV m_is_number [] (aCons (eVar 2) (aCons (eC (.int 1)) (aCons (eC (.int 50)) aNil)))))) (raiseF "NoAmount") nilF)
    (seqF (ifF (tNotF (eT (callV m_are_meters [] (aCons (eVar 0) (aCons (eVar 3) aNil))))) (raiseF "NoMeters") nilF)
    (fun _ => none))))
def m_alike : MF := bodyF 4 9 f_alike
def f__law_cell_at : FS := (seqF (ifF (eT (e2 ltD (eVar 1) (eCB lenD (aCons (eVar 0) aNil)))) (retF (e2 ixD (eVar 0) (eVar 1))) nilF)
    (retF (eC (.int 0))))
def m__law_cell_at : MF := bodyF 2 2 f__law_cell_at
def f__law_next : FS := (seqF (asgF 0 (e2 modD (e2 addD (eVar 0) (eC (.int 7919))) (eC (.int 2147483647))))
    (retF (e2 modD (e2 addD (e2 addD (e2 mulD (eVar 0) (eVar 0)) (e2 mulD (eC (.int 48271)) (eVar 0))) (eC (.int 12345))) (eC (.int 2147483629)))))
def m__law_next : MF := bodyF 1 1 f__law_next
def f__law_pen_of : FS := (seqF (asgF 1 (eCB maxD (aCons (eVar 0) (aCons (e2 subD (eC (.int 0)) (eVar 0)) aNil))))
    (retF (eLst (aCons (eVar 1) (aCons (eCB intD (aCons (e2 geD (eVar 1) (e2 powD (eC (.int 10)) (eC (.int 18)))) aNil)) (aCons (e2 modD (eVar 1) (eC (.int 1000003))) aNil))))))
def m__law_pen_of : MF := bodyF 1 2 f__law_pen_of
def f__law_draw : FS := (seqF (ifF (tAndF (eT (e2 eqD (e2 ixD (eVar 0) (eC (.int 1))) (eC (.int 1)))) (eT (e2 gtD (e2 ixD (eVar 0) (eC (.int 0))) (eC (.int 0))))) (seqF (asgF 2 (e2 modD (e2 ixD (eVar 0) (eC (.int 0))) (eVar 1)))
    (seqF (asgG (gtSub 0 (eC (.int 0))) (e2 divD (e2 ixD (eVar 0) (eC (.int 0))) (eVar 1)))
    (retF (eVar 2)))) nilF)
    (seqF (asgG (gtSub 0 (eC (.int 2))) (callV m__law_next [] (aCons (e2 addD (callV m__law_next [] (aCons (e2 ixD (eVar 0) (eC (.int 2))) aNil)) (eC (.int 7))) aNil)))
    (retF (e2 modD (e2 divD (e2 ixD (eVar 0) (eC (.int 2))) (eC (.int 64))) (eVar 1)))))
def m__law_draw : MF := bodyF 2 3 f__law_draw
def f__law_low : FS := (seqF (parF 2 3 (eCB absD (aCons (eVar 0) aNil)) (eVar 1))
    (seqF (whileF (muI 3) (eT (e2 neD (eVar 3) (eC (.int 0)))) (parF 2 3 (eVar 3) (e2 modD (eVar 2) (eVar 3))))
    (retF (eTup (aCons (e2 divD (eVar 0) (eVar 2)) (aCons (e2 divD (eVar 1) (eVar 2)) aNil))))))
def m__law_low : MF := bodyF 2 4 f__law_low
def f__law_joint : FS := (seqF (asgF 1 (callP m__law_draw (aCons (eVar 0) (aCons (eC (.int 6)) aNil))))
    (seqF (ifF (eT (e2 eqD (eVar 1) (eC (.int 4)))) (retF (eTup (aCons (eC (.str (Str.ofString "source"))) (aCons (callP m__law_draw (aCons (eVar 0) (aCons (eC (.int 80)) aNil))) aNil)))) nilF)
    (seqF (ifF (eT (e2 eqD (eVar 1) (eC (.int 5)))) (retF (eTup (aCons (eC (.str (Str.ofString "tank"))) (aCons (callP m__law_draw (aCons (eVar 0) (aCons (eC (.int 60)) aNil))) (aCons (e2 addD (eC (.int 1)) (callP m__law_draw (aCons (eVar 0) (aCons (eC (.int 9)) aNil)))) (aCons (e2 addD (eC (.int 1)) (callP m__law_draw (aCons (eVar 0) (aCons (eC (.int 20)) aNil)))) aNil)))))) nilF)
    (seqF (asgF 2 (callP m__law_draw (aCons (eVar 0) (aCons (eC (.int 12)) aNil))))
    (retF (eTup (aCons (eC (.str (Str.ofString "place"))) (aCons (callP m__law_draw (aCons (eVar 0) (aCons (eC (.int 40)) aNil))) (aCons (eVar 2) (aCons (e2 addD (eVar 2) (callP m__law_draw (aCons (eVar 0) (aCons (eC (.int 60)) aNil)))) aNil))))))))))
def m__law_joint : MF := bodyF 1 3 f__law_joint
def f__law_net : FS := (seqF (asgF 2 (eLst (aCons (eTup (aCons (eC (.str (Str.ofString "source"))) (aCons (e2 addD (eC (.int 20)) (callP m__law_draw (aCons (eVar 0) (aCons (eC (.int 60)) aNil)))) aNil))) (aCons (eTup (aCons (eC (.str (Str.ofString "tank"))) (aCons (e2 addD (eC (.int 10)) (callP m__law_draw (aCons (eVar 0) (aCons (eC (.int 60)) aNil)))) (aCons (e2 addD (eC (.int 1)) (callP m__law_draw (aCons (eVar 0) (aCons (eC (.int 9)) aNil)))) (aCons (eC (.int 12)) aNil))))) aNil))))
    (seqF (asgF 3 (e2 addD (eLst (aCons (e2 ixD (eVar 2) (callP m__law_draw (aCons (eVar 0) (aCons (eC (.int 2)) aNil)))) aNil)) (lcF (argI rng1I (aCons (e2 addD (eC (.int 1)) (callP m__law_draw (aCons (eVar 0) (aCons (e2 subD (eVar 1) (eC (.int 1))) aNil)))) aNil)) (gtName 6) yesF (callP m__law_joint (aCons (eVar 0) aNil)) [6])))
    (seqF (parF 4 5 (eLst aNil) (eC (.int 0)))
    (seqF (forF (argI rng1I (aCons (e2 addD (eC (.int 1)) (callP m__law_draw (aCons (eVar 0) (aCons (eCB minD (aCons (eC (.int 9)) (aCons (e2 addD (eCB lenD (aCons (eVar 3) aNil)) (eC (.int 3))) aNil))) aNil)))) aNil)) (gtName 6) (seqF (parF 7 8 (callP m__law_draw (aCons (eVar 0) (aCons (eCB lenD (aCons (eVar 3) aNil)) aNil))) (e2 addD (eC (.int 1)) (callP m__law_draw (aCons (eVar 0) (aCons (e2 subD (eCB lenD (aCons (eVar 3) aNil)) (eC (.int 1))) aNil)))))
    (seqF (asgF 9 (eIf (tAndF (eT (e2 ltD (eVar 5) (eC (.int 4)))) (eT (e2 eqD (callP m__law_draw (aCons (eVar 0) (aCons (eC (.int 3)) aNil))) (eC (.int 0))))) (eC (.str (Str.ofString "on"))) (eC (.str (Str.ofString "both")))))
    (seqF (asgF 5 (e2 addD (eVar 5) (eCB intD (aCons (e2 eqD (eVar 9) (eC (.str (Str.ofString "on")))) aNil))))
    (seqF (asgF 10 (eIf (eT (e2 eqD (eVar 9) (eC (.str (Str.ofString "on"))))) (e2 mulD (callP m__law_draw (aCons (eVar 0) (aCons (eC (.int 30)) aNil))) (callP m__law_draw (aCons (eVar 0) (aCons (eC (.int 2)) aNil)))) (eC (.int 0))))
    (seqF (asgF 11 (eTup (aCons (eVar 7) (aCons (e2 modD (e2 addD (eVar 7) (eVar 8)) (eCB lenD (aCons (eVar 3) aNil))) (aCons (e2 addD (eC (.int 1)) (callP m__law_draw (aCons (eVar 0) (aCons (e2 ixD (eLst (aCons (eC (.int 4)) (aCons (eC (.int 20)) aNil))) (callP m__law_draw (aCons (eVar 0) (aCons (eC (.int 2)) aNil)))) aNil)))) aNil)))))
    (dropF (eApp 4 (e2 addD (eVar 11) (eTup (aCons (eVar 9) (aCons (eVar 10) (aCons (e2 eqD (callP m__law_draw (aCons (eVar 0) (aCons (eC (.int 2)) aNil))) (eC (.int 0))) (aCons (callP m__law_draw (aCons (eVar 0) (aCons (eC (.int 21)) aNil))) aNil))))))))))))))
    (retF (eTup (aCons (eCB tupleD (aCons (eVar 3) aNil)) (aCons (eCB tupleD (aCons (eVar 4) aNil)) aNil))))))))
def m__law_net : MF := bodyF 2 12 f__law_net
def f__law_case : FS := (seqF (parF 2 3 (eLst aNil) (eLst aNil))
    (seqF (forF (seqI (e2 ixD (eVar 1) (eC (.int 0)))) (gtName 4) (seqF (asgF 5 (callV m__law_low [] (aCons (callP m__law_draw (aCons (eVar 0) (aCons (eC (.int 7)) aNil))) (aCons (e2 addD (eC (.int 1)) (callP m__law_draw (aCons (eVar 0) (aCons (e2 ixD (eLst (aCons (eC (.int 1)) (aCons (eC (.int 3)) aNil))) (callP m__law_draw (aCons (eVar 0) (aCons (eC (.int 2)) aNil)))) aNil)))) aNil))))
    (seqF (dropF (eApp 2 (eIf (tAndF (eT (e2 eqD (e2 ixD (eVar 4) (eC (.int 0))) (eC (.str (Str.ofString "place"))))) (eT (e2 gtD (callP m__law_draw (aCons (eVar 0) (aCons (eC (.int 4)) aNil))) (eC (.int 0))))) (eVar 5) (eTup (aCons (eC (.int 0)) (aCons (eC (.int 1)) aNil))))))
    (ifF (eT (e2 eqD (e2 ixD (eVar 4) (eC (.int 0))) (eC (.str (Str.ofString "tank"))))) (dropF (eApp 3 (callV m__law_low [] (aCons (callP m__law_draw (aCons (eVar 0) (aCons (e2 addD (e2 mulD (eC (.int 2)) (e2 ixD (eVar 4) (eC (.int 3)))) (eC (.int 1))) aNil))) (aCons (eC (.int 2)) aNil))))) nilF))))
    (seqF (asgF 6 (lcF (argI enumI (aCons (e2 ixD (eVar 1) (eC (.int 1))) aNil)) (gtTup (gtCons (gtName 7) (gtCons (gtName 8) gtNil))) (tOrF (eT (e2 ixD (eVar 8) (eC (.int 5)))) (eT (e2 gtD (e2 ixD (eVar 8) (eC (.int 4))) (eC (.int 0))))) (eVar 7) [7, 8]))
    (retF (eTup (aCons (eCB tupleD (aCons (eVar 2) aNil)) (aCons (eCB tupleD (aCons (eVar 3) aNil)) (aCons (eCB tupleD (aCons (lcF (seqI (eVar 6)) (gtName 7) (eT (e2 eqD (callP m__law_draw (aCons (eVar 0) (aCons (eC (.int 4)) aNil))) (eC (.int 0)))) (eVar 7) [7]) aNil)) aNil))))))))
def m__law_case : MF := bodyF 2 9 f__law_case
def h__law_said (c : Str) (ad : Nat) : FS := (seqF (asgF 2 (eLst (aCons (eIsE 1 ad (decide (c = "NoNet"))) (aCons (eIsE 1 ad (decide (c = "NoCase"))) aNil))))
    (seqF (asgF 2 (e2 addD (eVar 2) (eLst (aCons (eIsE 1 ad (decide (c = "NoReadings"))) (aCons (eIsE 1 ad (decide (c = "NoFraction"))) aNil)))))
    (seqF (asgF 2 (e2 addD (eVar 2) (eLst (aCons (eIsE 1 ad (decide (c = "NoAmount"))) (aCons (eIsE 1 ad (decide (c = "NoMeters"))) aNil)))))
    (seqF (asgF 2 (e2 addD (eVar 2) (eLst (aCons (eIsE 1 ad (decide (c = "NoShut"))) (aCons (eIsE 1 ad (decide (c = "NoPlace"))) aNil)))))
    (seqF (asgF 2 (e2 addD (eVar 2) (eLst (aCons (eIsE 1 ad (decide (c = "NoJoint"))) (aCons (eIsE 1 ad (decide (c = "NoPipe"))) aNil)))))
    (seqF (asgF 2 (e2 addD (eVar 2) (eLst (aCons (eIsE 1 ad (decide (c = "NoPlan"))) (aCons (eIsE 1 ad (decide (c = "NoLevels"))) aNil)))))
    (seqF (asgF 2 (e2 addD (eVar 2) (eLst (aCons (eIsE 1 ad (decide (c = "NoTariff"))) (aCons (eIsE 1 ad (decide (c = "NotNow"))) aNil)))))
    (seqF (asgF 2 (e2 addD (eVar 2) (eLst (aCons (eIsE 1 ad (decide (c = "NoDeed"))) (aCons (eIsE 1 ad (decide (c = "NoLine"))) aNil)))))
    (seqF (dropF (eApp 2 (eIsE 1 ad (decide (c = "NoText")))))
    (seqF (ifF (tOrF (eT (e2 neD (eM1 countD (eVar 2) (eC (.bool true))) (eC (.int 1)))) (tNotF (eT (eIsE 1 ad true)))) (retF (eTup (aCons (eC (.str (Str.ofString "other"))) aNil))) nilF)
    (seqF (asgF 3 (e2 addD (eLst (aCons (eC (.str (Str.ofString "net"))) (aCons (eC (.str (Str.ofString "case"))) (aCons (eC (.str (Str.ofString "readings"))) (aCons (eC (.str (Str.ofString "fraction"))) (aCons (eC (.str (Str.ofString "amount"))) (aCons (eC (.str (Str.ofString "meters"))) aNil))))))) (e2 mulD (eLst (aCons (eC (.str (Str.ofString "else"))) aNil)) (eC (.int 11)))))
    (retF (eTup (aCons (e2 ixD (eVar 3) (eM1 indexD (eVar 2) (eC (.bool true)))) aNil))))))))))))))
def said__law_said (c : Str) : PyData := .tuple [.str (if c = "NoNet" then "net" else if c = "NoCase" then "case" else if c = "NoReadings" then "readings" else if c = "NoFraction" then "fraction" else if c = "NoAmount" then "amount" else if c = "NoMeters" then "meters" else "else")]
theorem hv__law_said : ∀ (c : Str) (ad : Nat), c ∈ errs → ∃ env, h__law_said c ad (hEnv 4 1 ad) = M.ok (.rt (.val (said__law_said c)) env) := by
  intro c ad hc
  have e : hEnv 4 1 ad = [none, some (.al ad), none, none] := rfl
  rw [e]
  obtain ⟨r, hr⟩ : ∃ r, h__law_said c ad [none, some (.al ad), none, none] = r := ⟨_, rfl⟩
  rw [hr]
  unfold h__law_said at hr
  simp only [errs, errs0, errs1, List.cons_append, List.nil_append, List.mem_cons, List.not_mem_nil, or_false] at hc
  rcases hc with rfl | rfl | rfl | rfl | rfl | rfl | rfl | rfl | rfl | rfl | rfl | rfl | rfl | rfl | rfl | rfl | rfl <;>
  · simp (decide := true) [isE_eq, eM1_s, countD, indexD, idxN, PyData.eqv, List.countP_cons, SeqAt.shaped, PyData.canLay0, PyData.canLayAll0, PyData.depth, PyData.depthAll] at hr
    rw [← hr]
    exact ⟨_, by simp (decide := true) [said__law_said]; rfl⟩
def f__law_wrong : FS := (seqF (asgF 3 (eCB lenD (aCons (e2 ixD (eVar 1) (eC (.int 0))) aNil)))
    (seqF (asgF 4 (eLst (aCons (eC .none) (aCons (eTup aNil) (aCons (eSl (eVar 1) oNone (oSome (eC (.int 1)))) (aCons (eCB listD (aCons (eVar 1) aNil)) (aCons (eTup (aCons (e2 ixD (eVar 1) (eC (.int 0))) (aCons (eTup aNil) aNil))) (aCons (eTup (aCons (e2 mulD (e2 ixD (eVar 1) (eC (.int 0))) (eC (.int 4))) (aCons (e2 ixD (eVar 1) (eC (.int 1))) aNil))) aNil))))))))
    (seqF (asgF 5 (eLst (aCons (eC .none) (aCons (eTup aNil) (aCons (eSl (eVar 2) oNone (oSome (eC (.int 2)))) (aCons (eCB listD (aCons (eVar 2) aNil)) (aCons (e2 addD (eTup (aCons (eSl (e2 ixD (eVar 2) (eC (.int 0))) (oSome (eC (.int 1))) oNone) aNil)) (eSl (eVar 2) (oSome (eC (.int 1))) oNone)) (aCons (eTup (aCons (e2 ixD (eVar 2) (eC (.int 0))) (aCons (e2 addD (e2 ixD (eVar 2) (eC (.int 1))) (eTup (aCons (eTup (aCons (eC (.int 1)) (aCons (eC (.int 1)) aNil))) aNil))) (aCons (e2 ixD (eVar 2) (eC (.int 2))) aNil)))) aNil))))))))
    (seqF (asgF 6 (eLst (aCons (eC .none) (aCons (eTup aNil) (aCons (e2 mulD (eTup (aCons (eC .none) aNil)) (e2 addD (eVar 3) (eC (.int 1)))) (aCons (e2 mulD (eLst (aCons (eC .none) aNil)) (eVar 3)) (aCons (e2 mulD (eTup (aCons (eC (.int 5)) aNil)) (eVar 3)) (aCons (e2 mulD (eTup (aCons (eTup (aCons (eC (.int 2)) (aCons (eC (.int 4)) aNil))) aNil)) (eVar 3)) (aCons (e2 mulD (eTup (aCons (eC (.bool true)) aNil)) (eVar 3)) aNil)))))))))
    (seqF (asgF 7 (eLst (aCons (eC .none) (aCons (eC (.int 5)) (aCons (eC (.bool true)) (aCons (eC (.str (Str.ofString "1"))) (aCons (eTup (aCons (eC (.int 2)) (aCons (eC (.int 4)) aNil))) (aCons (eTup (aCons (eC (.int 1)) (aCons (eC (.int 0)) aNil))) (aCons (eTup (aCons (eC (.int 1)) (aCons (e1 negD (eC (.int 2))) aNil))) (aCons (eLst (aCons (eC (.int 1)) (aCons (eC (.int 2)) aNil))) (aCons (eTup (aCons (eC (.int 1)) aNil)) aNil)))))))))))
    (seqF (asgF 8 (eLst (aCons (eC (.int 0)) (aCons (eC (.int 51)) (aCons (e1 negD (eC (.int 1))) (aCons (eC .none) (aCons (eC (.bool true)) (aCons (eC (.str (Str.ofString "1"))) (aCons (eTup (aCons (eC (.int 1)) (aCons (eC (.int 1)) aNil))) (aCons (e2 powD (eC (.int 10)) (eC (.int 11))) (aCons (eLst (aCons (eC (.int 1)) aNil)) aNil)))))))))))
    (seqF (asgF 9 (eLst (aCons (eC .none) (aCons (eC (.int 0)) (aCons (eLst (aCons (eC (.int 0)) aNil)) (aCons (eTup (aCons (eVar 3) aNil)) (aCons (eTup (aCons (e1 negD (eC (.int 1))) aNil)) (aCons (eTup (aCons (eC (.int 0)) (aCons (eC (.int 0)) aNil))) (aCons (eTup (aCons (eC (.int 1)) (aCons (eC (.int 0)) aNil))) (aCons (eTup (aCons (eC (.bool true)) aNil)) (aCons (eTup (aCons (eC (.str (Str.ofString "0"))) aNil)) (aCons (eTup (aCons (eTup (aCons (eC (.int 0)) aNil)) aNil)) aNil))))))))))))
    (seqF (asgF 10 (eLst (aCons (eVar 4) (aCons (eVar 5) (aCons (eVar 6) (aCons (eVar 7) (aCons (eVar 8) (aCons (eVar 9) aNil))))))))
    (retF (lcF (seqI (eVar 10)) (gtName 11) yesF (e2 ixD (eVar 11) (callP m__law_draw (aCons (eVar 0) (aCons (eCB lenD (aCons (eVar 11) aNil)) aNil)))) [11]))))))))))
def m__law_wrong : MF := bodyF 3 12 f__law_wrong
def f_law : FS := (seqF (forF (seqI (e2 addD (eLst (aCons (callV m__law_cell_at [] (aCons (eVar 0) (aCons (eC (.int 0)) aNil))) aNil)) (eSl (eVar 0) (oSome (eC (.int 1))) (oSome (eC (.int 3)))))) (gtName 1) (seqF (asgF 2 (callV m__law_pen_of [] (aCons (eVar 1) aNil)))
    (seqF (asgF 3 (callP m__law_net (aCons (eVar 2) (aCons (eC (.int 5)) aNil))))
    (seqF (asgG (gtTup (gtCons (gtName 4) (gtCons (gtName 5) gtNil))) (eTup (aCons (callP m__law_case (aCons (eVar 2) (aCons (eVar 3) aNil))) (aCons (e2 mulD (eTup (aCons (eC .none) aNil)) (eCB lenD (aCons (e2 ixD (eVar 3) (eC (.int 0))) aNil))) aNil))))
    (forF (argI rng1I (aCons (eC (.int 6)) aNil)) (gtName 6) (seqF (asgF 7 (callP m__law_wrong (aCons (eVar 2) (aCons (eVar 3) (aCons (eVar 4) aNil)))))
    (seqF (asgF 8 (eCB reprD (aCons (eTup (aCons (eVar 3) (aCons (eVar 4) (aCons (eVar 7) aNil)))) aNil)))
    (seqF (asgF 9 (eLst (aCons (saidF errs "told" said__law_said (callV m_leak [] (aCons (e2 ixD (eVar 7) (eC (.int 0))) (aCons (e2 ixD (eVar 7) (eC (.int 1))) (aCons (e2 ixD (eVar 7) (eC (.int 2))) (aCons (e2 ixD (eVar 7) (eC (.int 3))) aNil)))))) aNil)))
    (seqF (dropF (eApp 9 (saidF errs "told" said__law_said (callV m_leak [] (aCons (eVar 3) (aCons (e2 ixD (eVar 7) (eC (.int 1))) (aCons (e2 ixD (eVar 7) (eC (.int 2))) (aCons (e2 ixD (eVar 7) (eC (.int 3))) aNil))))))))
    (seqF (dropF (eApp 9 (saidF errs "told" said__law_said (callV m_leak [] (aCons (eVar 3) (aCons (eVar 4) (aCons (e2 ixD (eVar 7) (eC (.int 2))) (aCons (e2 ixD (eVar 7) (eC (.int 3))) aNil))))))))
    (seqF (dropF (eApp 9 (saidF errs "told" said__law_said (callV m_leak [] (aCons (eVar 3) (aCons (eVar 4) (aCons (eVar 5) (aCons (e2 ixD (eVar 7) (eC (.int 3))) aNil))))))))
    (seqF (ifF (eT (e2 neD (eVar 9) (eLst (aCons (eTup (aCons (eC (.str (Str.ofString "net"))) aNil)) (aCons (eTup (aCons (eC (.str (Str.ofString "case"))) aNil)) (aCons (eTup (aCons (eC (.str (Str.ofString "readings"))) aNil)) (aCons (eTup (aCons (eC (.str (Str.ofString "fraction"))) aNil)) aNil))))))) (retF (eC (.bool false))) nilF)
    (seqF (asgF 9 (eLst (aCons (saidF errs "told" said__law_said (callV m_alike [] (aCons (e2 ixD (eVar 7) (eC (.int 0))) (aCons (e2 ixD (eVar 7) (eC (.int 1))) (aCons (e2 ixD (eVar 7) (eC (.int 4))) (aCons (e2 ixD (eVar 7) (eC (.int 5))) aNil)))))) aNil)))
    (seqF (dropF (eApp 9 (saidF errs "told" said__law_said (callV m_alike [] (aCons (eVar 3) (aCons (e2 ixD (eVar 7) (eC (.int 1))) (aCons (e2 ixD (eVar 7) (eC (.int 4))) (aCons (e2 ixD (eVar 7) (eC (.int 5))) aNil))))))))
    (seqF (dropF (eApp 9 (saidF errs "told" said__law_said (callV m_alike [] (aCons (eVar 3) (aCons (eVar 4) (aCons (e2 ixD (eVar 7) (eC (.int 4))) (aCons (e2 ixD (eVar 7) (eC (.int 5))) aNil))))))))
    (seqF (dropF (eApp 9 (saidF errs "told" said__law_said (callV m_alike [] (aCons (eVar 3) (aCons (eVar 4) (aCons (eC (.int 1)) (aCons (e2 ixD (eVar 7) (eC (.int 5))) aNil))))))))
    (ifF (tOrF (eT (e2 neD (eVar 9) (eLst (aCons (eTup (aCons (eC (.str (Str.ofString "net"))) aNil)) (aCons (eTup (aCons (eC (.str (Str.ofString "case"))) aNil)) (aCons (eTup (aCons (eC (.str (Str.ofString "amount"))) aNil)) (aCons (eTup (aCons (eC (.str (Str.ofString "meters"))) aNil)) aNil))))))) (eT (e2 neD (eCB reprD (aCons (eTup (aCons (eVar 3) (aCons (eVar 4) (aCons (eVar 7) aNil)))) aNil)) (eVar 8)))) (retF (eC (.bool false))) nilF)))))))))))))))))
    (retF (eC (.bool true))))
def m_law : MF := bodyF 1 10 f_law
structure Txt (w : World) (K : PySem.W.Frag) (mg : Str → Option Value) (base : Heap) : Prop where
  d_is_whole : Has K mg "is_whole" s_is_whole ["thing"]
  d_common : Has K mg "common" s_common ["one", "other"]
  d_is_fraction : Has K mg "is_fraction" s_is_fraction ["thing"]
  d_is_number : Has K mg "is_number" s_is_number ["thing", "low", "high"]
  d_is_between : Has K mg "is_between" s_is_between ["thing", "low", "high"]
  d_is_place_joint : Has K mg "is_place_joint" s_is_place_joint ["thing"]
  d_is_joint : Has K mg "is_joint" s_is_joint ["thing"]
  d_is_pipe : Has K mg "is_pipe" s_is_pipe ["many", "thing"]
  d_is_net : Has K mg "is_net" s_is_net ["thing"]
  d_need_net : Has K mg "need_net" s_need_net ["thing"]
  d_tanks_of : Has K mg "tanks_of" s_tanks_of ["net"]
  d_is_pump : Has K mg "is_pump" s_is_pump ["net", "pipe"]
  d_can_shut : Has K mg "can_shut" s_can_shut ["net", "thing"]
  d_are_rising : Has K mg "are_rising" s_are_rising ["some"]
  d_are_asked : Has K mg "are_asked" s_are_asked ["net", "thing"]
  d_are_levels_of : Has K mg "are_levels_of" s_are_levels_of ["net", "thing"]
  d_are_shut : Has K mg "are_shut" s_are_shut ["net", "thing"]
  d_is_case_of : Has K mg "is_case_of" s_is_case_of ["net", "thing"]
  d_need_case : Has K mg "need_case" s_need_case ["net", "thing"]
  d_need_both : Has K mg "need_both" s_need_both ["net", "case"]
  d_are_readings : Has K mg "are_readings" s_are_readings ["net", "thing"]
  d_are_meters : Has K mg "are_meters" s_are_meters ["net", "thing"]
  d_leak : Has K mg "leak" s_leak ["net", "case", "readings", "given"]
  d_alike : Has K mg "alike" s_alike ["net", "case", "amount", "meters"]
  d__law_cell_at : Has K mg "_law_cell_at" s__law_cell_at ["_law_script", "_law_k"]
  d__law_next : Has K mg "_law_next" s__law_next ["_law_one"]
  d__law_pen_of : Has K mg "_law_pen_of" s__law_pen_of ["_law_cell"]
  d__law_draw : Has K mg "_law_draw" s__law_draw ["_law_pen", "_law_many"]
  d__law_low : Has K mg "_law_low" s__law_low ["_law_top", "_law_bottom"]
  d__law_joint : Has K mg "_law_joint" s__law_joint ["_law_pen"]
  d__law_net : Has K mg "_law_net" s__law_net ["_law_pen", "_law_most"]
  d__law_case : Has K mg "_law_case" s__law_case ["_law_pen", "_law_net_here"]
  d__law_said : Has K mg "_law_said" s__law_said ["_law_call"]
  d__law_wrong : Has K mg "_law_wrong" s__law_wrong ["_law_pen", "_law_net_here", "_law_case_here"]
  d_law : Has K mg "law" s_law ["_law_script"]
  b_ValueError : mg "ValueError" = none
  b_abs : mg "abs" = none
  b_all : mg "all" = none
  b_bool : mg "bool" = none
  b_enumerate : mg "enumerate" = none
  b_int : mg "int" = none
  b_isinstance : mg "isinstance" = none
  b_len : mg "len" = none
  b_list : mg "list" = none
  b_max : mg "max" = none
  b_min : mg "min" = none
  b_range : mg "range" = none
  b_repr : mg "repr" = none
  b_str : mg "str" = none
  b_tuple : mg "tuple" = none
  b_zip : mg "zip" = none
  x_NoAmount : ClsX K mg "NoAmount"
  x_NoCase : ClsX K mg "NoCase"
  x_NoFraction : ClsX K mg "NoFraction"
  x_NoMeters : ClsX K mg "NoMeters"
  x_NoNet : ClsX K mg "NoNet"
  x_NoReadings : ClsX K mg "NoReadings"
  g_BOTH : GlD K mg "BOTH" (.str (Str.ofString "both"))
  g_MOST_AMOUNT : GlD K mg "MOST_AMOUNT" (.int 50)
  g_MOST_ASKED : GlD K mg "MOST_ASKED" (.int 50)
  g_MOST_JOINTS : GlD K mg "MOST_JOINTS" (.int 7)
  g_MOST_ON : GlD K mg "MOST_ON" (.int 4)
  g_MOST_PIPES : GlD K mg "MOST_PIPES" (.int 9)
  g_NOUGHT : GlD K mg "NOUGHT" (.tuple [(.int 0), (.int 1)])
  g_ON : GlD K mg "ON" (.str (Str.ofString "on"))
  g_PLACE : GlD K mg "PLACE" (.str (Str.ofString "place"))
  g_TANK : GlD K mg "TANK" (.str (Str.ofString "tank"))
  k_BOUNDS : KDic K w mg "BOUNDS" dic_BOUNDS
  er : ErrF K mg errs
  cw : ∃ CW, mg "WaterError" = some (.ref CW)
  l_law : LamAt K mg base "law"
section
variable {P : Program} {w : World} {K : PySem.W.Frag} {mg : Str → Option Value} {base : Heap}
theorem c_is_whole (T : Txt w K mg base) : Callee false P w K mg base 1 "is_whole" ["thing"] m_is_whole := callee_ok (gd := false) T.d_is_whole sc_is_whole fun _ _ _ _ _ _ _ hr hgf hcf =>
  (dss_one (ds_ret (de_and (de_isi .int (by rfl) T.b_isinstance (by rfl) T.b_int bt_int (de_var 0)) (de_one (de_not (de_isi .bool (by rfl) T.b_isinstance (by rfl) T.b_bool bt_bool (de_var 0)))))))
theorem c_common (T : Txt w K mg base) : Callee false P w K mg base 1 "common" ["one", "other"] m_common := callee_ok (gd := false) T.d_common sc_common fun _ _ _ _ _ _ _ hr hgf hcf =>
  (dss_cons (ds_par 0 1 rfl sc_common.nd (de_cb call_abs cd_abs (by rfl) T.b_abs bt_abs (da_cons (de_var 0) da_nil)) (de_cb call_abs cd_abs (by rfl) T.b_abs bt_abs (da_cons (de_var 1) da_nil)))
    (dss_cons (ds_while (muI 1) (passes_of rfl) (dt_cmp (or_ne (ru64 hr)) od_ne (de_var 1) de_int) (dss_one (ds_par 0 1 rfl sc_common.nd (de_var 1) (de_op op_modN od_mod (de_var 0) (de_var 1)))))
    (dss_one (ds_ret (de_var 0)))))
theorem c_is_fraction (T : Txt w K mg base) : Callee false P w K mg base 2 "is_fraction" ["thing"] m_is_fraction := callee_ok (gd := false) T.d_is_fraction sc_is_fraction fun _ _ _ _ _ _ _ hr hgf hcf =>
  (dss_cons (ds_if (dt_w (dw_or (dt_not (dt_val (de_isi .tuple (by rfl) T.b_isinstance (by rfl) T.b_tuple bt_tuple (de_var 0)))) (dw_or (dt_cmp (or_ne (ru64 hr)) od_ne (de_cb call_len_seq cd_len (by rfl) T.b_len bt_len (da_cons (de_var 0) da_nil)) de_int) (dw_or1 (dt_not (dt_val (de_cb (cr_all rfl) cd_all (by rfl) T.b_all bt_all (da_cons (de_lc (own := [("one", 1)]) rfl sc_is_fraction.nd (di_seq (de_var 0)) (blkOk_by (N := ["thing", "one"]) (sc := defScope s_is_fraction) (by decide +kernel)) (by decide) (fun _ _ _ _ _ => (dg_name 1 sc_is_fraction.nd)) (fun _ _ _ _ _ => dts_nil) (fun _ _ _ _ _ => (de_c (c_is_whole T) hr (by decide) takesF (by rfl) (da_cons (de_var 1) da_nil)))) da_nil)))))))) (dss_one (ds_ret de_bl)) dss_nil)
    (dss_one (ds_ret (de_and (de_cmp op_gt od_ord (de_ix (de_var 0) de_int) de_int) (de_one (de_cmp (or_eq (ru64 hr)) od_eq (de_c (c_common T) hr (by decide) (takes_of rfl rfl rfl rfl) (by rfl) (da_cons (de_ix (de_var 0) de_int) (da_cons (de_ix (de_var 0) de_int) da_nil))) de_int))))))
theorem c_is_number (T : Txt w K mg base) : Callee false P w K mg base 2 "is_number" ["thing", "low", "high"] m_is_number := callee_ok (gd := false) T.d_is_number sc_is_number fun _ _ _ _ _ _ _ hr hgf hcf =>
  (dss_one (ds_ret (de_and (de_c (c_is_whole T) hr (by decide) (takes_of rfl rfl rfl rfl) (by rfl) (da_cons (de_var 0) da_nil)) (de_one (de_chain op_le od_ord op_le od_ord (de_var 1) (de_var 0) (de_var 2))))))
theorem c_is_between (T : Txt w K mg base) : Callee false P w K mg base 3 "is_between" ["thing", "low", "high"] m_is_between := callee_ok (gd := false) T.d_is_between sc_is_between fun _ _ _ _ _ _ _ hr hgf hcf =>
  (dss_one (ds_ret (de_and (de_c (c_is_fraction T) hr (by decide) (takes_of rfl rfl rfl rfl) (by rfl) (da_cons (de_var 0) da_nil)) (de_one (de_chain op_le od_ord op_le od_ord (de_op or_mul od_mul (de_var 1) (de_ix (de_var 0) de_int)) (de_ix (de_var 0) de_int) (de_op or_mul od_mul (de_var 2) (de_ix (de_var 0) de_int)))))))
theorem c_is_place_joint (T : Txt w K mg base) : Callee false P w K mg base 3 "is_place_joint" ["thing"] m_is_place_joint := callee_ok (gd := false) T.d_is_place_joint sc_is_place_joint fun _ _ _ _ _ _ _ hr hgf hcf =>
  (dss_cons (ds_asgG (de_var 0) (dg_tupC (K := K) (by rfl) (dgs_cons (dg_name 1 sc_is_place_joint.nd) (dgs_cons (dg_name 2 sc_is_place_joint.nd) (dgs_cons (dg_name 3 sc_is_place_joint.nd) (dgs_cons (dg_name 4 sc_is_place_joint.nd) dgs_nil)))) (gl_cons (gl_cons (gl_cons (gl_cons gl_nil))))))
    (dss_one (ds_ret (de_and (de_c (c_is_number T) hr (by decide) (takes_of rfl rfl rfl rfl) (by rfl) (da_cons (de_var 2) (da_cons de_int (da_cons de_int da_nil)))) (de_and (de_c (c_is_number T) hr (by decide) (takes_of rfl rfl rfl rfl) (by rfl) (da_cons (de_var 4) (da_cons de_int (da_cons de_int da_nil)))) (de_one (de_c (c_is_number T) hr (by decide) (takes_of rfl rfl rfl rfl) (by rfl) (da_cons (de_var 3) (da_cons de_int (da_cons (de_var 4) da_nil))))))))))
theorem c_is_joint (T : Txt w K mg base) : Callee false P w K mg base 4 "is_joint" ["thing"] m_is_joint := callee_ok (gd := false) T.d_is_joint sc_is_joint fun _ _ _ _ _ _ _ hr hgf hcf =>
  (dss_cons (ds_if (dt_w (dw_or (dt_not (dt_val (de_isi .tuple (by rfl) T.b_isinstance (by rfl) T.b_tuple bt_tuple (de_var 0)))) (dw_or (dt_cmp (or_eq (ru64 hr)) od_eq (de_var 0) (de_tup da_nil)) (dw_or1 (dt_not (dt_val (de_isi .str (by rfl) T.b_isinstance (by rfl) T.b_str bt_str (de_ix (de_var 0) de_int)))))))) (dss_one (ds_ret de_bl)) dss_nil)
    (dss_cons (ds_if (dt_cmp (or_eq (ru64 hr)) od_eq (de_ix (de_var 0) de_int) (de_gl (by rfl) T.g_PLACE)) (dss_one (ds_ret (de_and (de_cmp (or_eq (ru64 hr)) od_eq (de_cb call_len_seq cd_len (by rfl) T.b_len bt_len (da_cons (de_var 0) da_nil)) de_int) (de_one (de_c (c_is_place_joint T) hr (by decide) (takes_of rfl rfl rfl rfl) (by rfl) (da_cons (de_var 0) da_nil)))))) dss_nil)
    (dss_cons (ds_asg 1 (de_kget T.k_BOUNDS (by rfl) (de_ix (de_var 0) de_int) ⟨rfl, rfl, rfl, rfl⟩) sc_is_joint.nd)
    (dss_cons (ds_if (dt_w (dw_or (dt_cmp op_isN od_is (de_var 1) de_non) (dw_or1 (dt_cmp (or_ne (ru64 hr)) od_ne (de_cb call_len_seq cd_len (by rfl) T.b_len bt_len (da_cons (de_var 0) da_nil)) (de_op or_add od_add (de_cb call_len_seq cd_len (by rfl) T.b_len bt_len (da_cons (de_var 1) da_nil)) de_int))))) (dss_one (ds_ret de_bl)) dss_nil)
    (dss_one (ds_ret (de_cb (cr_all rfl) cd_all (by rfl) T.b_all bt_all (da_cons (de_lc (own := [("one", 4), ("low", 3), ("high", 2)]) rfl sc_is_joint.nd (di_zip (by rfl) T.b_zip (da_cons (de_sl (de_var 0) (do_some de_int) do_none) (da_cons (de_var 1) da_nil))) (blkOk_by (N := ["thing", "bounds", "high", "low", "one"]) (sc := defScope s_is_joint) (by decide +kernel)) (by decide) (fun _ _ _ _ _ => (dg_tupC (K := K) (by rfl) (dgs_cons (dg_name 4 sc_is_joint.nd) (dgs_cons (dg_tupC (K := K) (by rfl) (dgs_cons (dg_name 3 sc_is_joint.nd) (dgs_cons (dg_name 2 sc_is_joint.nd) dgs_nil)) (gl_cons (gl_cons gl_nil))) dgs_nil)) (gl_cons (gl_cons gl_nil)))) (fun _ _ _ _ _ => dts_nil) (fun _ _ _ _ _ => (de_c (c_is_number T) hr (by decide) takesF (by rfl) (da_cons (de_var 4) (da_cons (de_var 3) (da_cons (de_var 2) da_nil)))))) da_nil))))))))
theorem c_is_pipe (T : Txt w K mg base) : Callee false P w K mg base 3 "is_pipe" ["many", "thing"] m_is_pipe := callee_ok (gd := false) T.d_is_pipe sc_is_pipe fun _ _ _ _ _ _ _ hr hgf hcf =>
  (dss_cons (ds_if (dt_w (dw_or (dt_not (dt_val (de_isi .tuple (by rfl) T.b_isinstance (by rfl) T.b_tuple bt_tuple (de_var 1)))) (dw_or1 (dt_cmp (or_ne (ru64 hr)) od_ne (de_cb call_len_seq cd_len (by rfl) T.b_len bt_len (da_cons (de_var 1) da_nil)) de_int)))) (dss_one (ds_ret de_bl)) dss_nil)
    (dss_cons (ds_asgG (de_var 1) (dg_tupC (K := K) (by rfl) (dgs_cons (dg_name 2 sc_is_pipe.nd) (dgs_cons (dg_name 3 sc_is_pipe.nd) (dgs_cons (dg_name 4 sc_is_pipe.nd) (dgs_cons (dg_name 5 sc_is_pipe.nd) (dgs_cons (dg_name 6 sc_is_pipe.nd) (dgs_cons (dg_name 7 sc_is_pipe.nd) (dgs_cons (dg_name 8 sc_is_pipe.nd) dgs_nil))))))) (gl_cons (gl_cons (gl_cons (gl_cons (gl_cons (gl_cons (gl_cons gl_nil)))))))))
    (dss_cons (ds_if (dt_w (dw_or (dt_not (dt_val (de_c (c_is_number T) hr (by decide) (takes_of rfl rfl rfl rfl) (by rfl) (da_cons (de_var 2) (da_cons de_int (da_cons (de_op op_sub od_sub (de_var 0) de_int) da_nil)))))) (dw_or (dt_not (dt_val (de_c (c_is_number T) hr (by decide) (takes_of rfl rfl rfl rfl) (by rfl) (da_cons (de_var 3) (da_cons de_int (da_cons (de_op op_sub od_sub (de_var 0) de_int) da_nil)))))) (dw_or1 (dt_cmp (or_eq (ru64 hr)) od_eq (de_var 2) (de_var 3)))))) (dss_one (ds_ret de_bl)) dss_nil)
    (dss_cons (ds_if (dt_w (dw_or (dt_not (dt_val (de_c (c_is_number T) hr (by decide) (takes_of rfl rfl rfl rfl) (by rfl) (da_cons (de_var 4) (da_cons de_int (da_cons de_int da_nil)))))) (dw_or (dt_not (dt_val (de_isi .str (by rfl) T.b_isinstance (by rfl) T.b_str bt_str (de_var 5)))) (dw_or1 (dt_cmp (or_nin (ru128 hr)) od_nin (de_var 5) (de_tup (da_cons (de_gl (by rfl) T.g_BOTH) (da_cons (de_gl (by rfl) T.g_ON) da_nil)))))))) (dss_one (ds_ret de_bl)) dss_nil)
    (dss_cons (ds_if (dt_w (dw_or (dt_not (dt_val (de_c (c_is_number T) hr (by decide) (takes_of rfl rfl rfl rfl) (by rfl) (da_cons (de_var 6) (da_cons de_int (da_cons (de_if (dt_cmp (or_eq (ru64 hr)) od_eq (de_var 5) (de_gl (by rfl) T.g_ON)) de_int de_int) da_nil)))))) (dw_or1 (dt_not (dt_val (de_isi .bool (by rfl) T.b_isinstance (by rfl) T.b_bool bt_bool (de_var 7))))))) (dss_one (ds_ret de_bl)) dss_nil)
    (dss_one (ds_ret (de_c (c_is_number T) hr (by decide) (takes_of rfl rfl rfl rfl) (by rfl) (da_cons (de_var 8) (da_cons de_int (da_cons de_int da_nil)))))))))))
theorem c_is_net (T : Txt w K mg base) : Callee false P w K mg base 5 "is_net" ["thing"] m_is_net := callee_ok (gd := false) T.d_is_net sc_is_net fun _ _ _ _ _ _ _ hr hgf hcf =>
  (dss_cons (ds_if (dt_w (dw_or (dt_not (dt_val (de_isi .tuple (by rfl) T.b_isinstance (by rfl) T.b_tuple bt_tuple (de_var 0)))) (dw_or (dt_cmp (or_ne (ru64 hr)) od_ne (de_cb call_len_seq cd_len (by rfl) T.b_len bt_len (da_cons (de_var 0) da_nil)) de_int) (dw_or1 (dt_not (dt_val (de_cb (cr_all rfl) cd_all (by rfl) T.b_all bt_all (da_cons (de_lc (own := [("one", 3)]) rfl sc_is_net.nd (di_seq (de_var 0)) (blkOk_by (N := ["thing", "joints", "pipes", "one", "joint", "pipe"]) (sc := defScope s_is_net) (by decide +kernel)) (by decide) (fun _ _ _ _ _ => (dg_name 3 sc_is_net.nd)) (fun _ _ _ _ _ => dts_nil) (fun _ _ _ _ _ => (de_isi .tuple (by rfl) T.b_isinstance (by rfl) T.b_tuple bt_tuple (de_var 3)))) da_nil)))))))) (dss_one (ds_ret de_bl)) dss_nil)
    (dss_cons (ds_asgG (de_var 0) (dg_tupC (K := K) (by rfl) (dgs_cons (dg_name 1 sc_is_net.nd) (dgs_cons (dg_name 2 sc_is_net.nd) dgs_nil)) (gl_cons (gl_cons gl_nil))))
    (dss_cons (ds_if (dt_w (dw_or (dt_not (dt_chain op_le od_ord op_le od_ord de_int (de_cb call_len_seq cd_len (by rfl) T.b_len bt_len (da_cons (de_var 1) da_nil)) (de_gl (by rfl) T.g_MOST_JOINTS))) (dw_or1 (dt_not (dt_val (de_cb (cr_all rfl) cd_all (by rfl) T.b_all bt_all (da_cons (de_lc (own := [("joint", 4)]) rfl sc_is_net.nd (di_seq (de_var 1)) (blkOk_by (N := ["thing", "joints", "pipes", "one", "joint", "pipe"]) (sc := defScope s_is_net) (by decide +kernel)) (by decide) (fun _ _ _ _ _ => (dg_name 4 sc_is_net.nd)) (fun _ _ _ _ _ => dts_nil) (fun _ _ _ _ _ => (de_c (c_is_joint T) hr (by decide) takesF (by rfl) (da_cons (de_var 4) da_nil)))) da_nil))))))) (dss_one (ds_ret de_bl)) dss_nil)
    (dss_cons (ds_if (dt_w (dw_or (dt_not (dt_chain op_le od_ord op_le od_ord de_int (de_cb call_len_seq cd_len (by rfl) T.b_len bt_len (da_cons (de_var 2) da_nil)) (de_gl (by rfl) T.g_MOST_PIPES))) (dw_or1 (dt_not (dt_val (de_cb (cr_all rfl) cd_all (by rfl) T.b_all bt_all (da_cons (de_lc (own := [("pipe", 5)]) rfl sc_is_net.nd (di_seq (de_var 2)) (blkOk_by (N := ["thing", "joints", "pipes", "one", "joint", "pipe"]) (sc := defScope s_is_net) (by decide +kernel)) (by decide) (fun _ _ _ _ _ => (dg_name 5 sc_is_net.nd)) (fun _ _ _ _ _ => dts_nil) (fun _ _ _ _ _ => (de_c (c_is_pipe T) hr (by decide) takesF (by rfl) (da_cons (de_cb call_len_seq cd_len (by rfl) T.b_len bt_len (da_cons (de_var 1) da_nil)) (da_cons (de_var 5) da_nil))))) da_nil))))))) (dss_one (ds_ret de_bl)) dss_nil)
    (dss_one (ds_ret (de_cmp op_le od_ord (de_cb call_len_seq cd_len (by rfl) T.b_len bt_len (da_cons (de_lc (own := [("pipe", 5)]) rfl sc_is_net.nd (di_seq (de_var 2)) (blkOk_by (N := ["thing", "joints", "pipes", "one", "joint", "pipe"]) (sc := defScope s_is_net) (by decide +kernel)) (by decide) (fun _ _ _ _ _ => (dg_name 5 sc_is_net.nd)) (fun _ _ _ _ _ => (dts_one (dt_cmp (or_eq (ru64 hr)) od_eq (de_ix (de_var 5) de_int) (de_gl (by rfl) T.g_ON)))) (fun _ _ _ _ _ => (de_var 5))) da_nil)) (de_gl (by rfl) T.g_MOST_ON))))))))
theorem c_need_net (T : Txt w K mg base) : Callee false P w K mg base 6 "need_net" ["thing"] m_need_net := callee_ok (gd := false) T.d_need_net sc_need_net fun _ _ _ _ _ _ _ hr hgf hcf =>
  (dss_one (ds_if (dt_not (dt_val (de_c (c_is_net T) hr (by decide) (takes_of rfl rfl rfl rfl) (by rfl) (da_cons (de_var 0) da_nil)))) (dss_one (ds_raiseC T.x_NoNet rfl (takes_of rfl rfl rfl rfl) (by rfl))) dss_nil))
theorem c_tanks_of (T : Txt w K mg base) : Callee false P w K mg base 1 "tanks_of" ["net"] m_tanks_of := callee_ok (gd := false) T.d_tanks_of sc_tanks_of fun _ _ _ _ _ _ _ hr hgf hcf =>
  (dss_one (ds_ret (de_lc (own := [("joint", 1)]) rfl sc_tanks_of.nd (di_range1 (by rfl) T.b_range (da_cons (de_cb call_len_seq cd_len (by rfl) T.b_len bt_len (da_cons (de_ix (de_var 0) de_int) da_nil)) da_nil)) (blkOk_by (N := ["net", "joint"]) (sc := defScope s_tanks_of) (by decide +kernel)) (by decide) (fun _ _ _ _ _ => (dg_name 1 sc_tanks_of.nd)) (fun _ _ _ _ _ => (dts_one (dt_cmp (or_eq (ru64 hr)) od_eq (de_ix (de_ix (de_ix (de_var 0) de_int) (de_var 1)) de_int) (de_gl (by rfl) T.g_TANK)))) (fun _ _ _ _ _ => (de_var 1)))))
theorem c_is_pump (T : Txt w K mg base) : Callee false P w K mg base 1 "is_pump" ["net", "pipe"] m_is_pump := callee_ok (gd := false) T.d_is_pump sc_is_pump fun _ _ _ _ _ _ _ hr hgf hcf =>
  (dss_one (ds_ret (de_cmp op_gt od_ord (de_ix (de_ix (de_ix (de_var 0) de_int) (de_var 1)) de_int) de_int)))
theorem c_can_shut (T : Txt w K mg base) : Callee false P w K mg base 3 "can_shut" ["net", "thing"] m_can_shut := callee_ok (gd := false) T.d_can_shut sc_can_shut fun _ _ _ _ _ _ _ hr hgf hcf =>
  (dss_one (ds_ret (de_and (de_c (c_is_number T) hr (by decide) (takes_of rfl rfl rfl rfl) (by rfl) (da_cons (de_var 1) (da_cons de_int (da_cons (de_op op_sub od_sub (de_cb call_len_seq cd_len (by rfl) T.b_len bt_len (da_cons (de_ix (de_var 0) de_int) da_nil)) de_int) da_nil)))) (de_one (de_or (de_ix (de_ix (de_ix (de_var 0) de_int) (de_var 1)) de_int) (de_one (de_c (c_is_pump T) hr (by decide) (takes_of rfl rfl rfl rfl) (by rfl) (da_cons (de_var 0) (da_cons (de_var 1) da_nil)))))))))
theorem c_are_rising (T : Txt w K mg base) : Callee false P w K mg base 1 "are_rising" ["some"] m_are_rising := callee_ok (gd := false) T.d_are_rising sc_are_rising fun _ _ _ _ _ _ _ hr hgf hcf =>
  (dss_one (ds_ret (de_cb (cr_all rfl) cd_all (by rfl) T.b_all bt_all (da_cons (de_lc (own := [("one", 1), ("other", 2)]) rfl sc_are_rising.nd (di_zip (by rfl) T.b_zip (da_cons (de_sl (de_var 0) do_none (do_some (de_neg de_int))) (da_cons (de_sl (de_var 0) (do_some de_int) do_none) da_nil))) (blkOk_by (N := ["some", "one", "other"]) (sc := defScope s_are_rising) (by decide +kernel)) (by decide) (fun _ _ _ _ _ => (dg_tupC (K := K) (by rfl) (dgs_cons (dg_name 1 sc_are_rising.nd) (dgs_cons (dg_name 2 sc_are_rising.nd) dgs_nil)) (gl_cons (gl_cons gl_nil)))) (fun _ _ _ _ _ => dts_nil) (fun _ _ _ _ _ => (de_cmp op_lt od_ord (de_var 1) (de_var 2)))) da_nil))))
theorem c_are_asked (T : Txt w K mg base) : Callee false P w K mg base 4 "are_asked" ["net", "thing"] m_are_asked := callee_ok (gd := false) T.d_are_asked sc_are_asked fun _ _ _ _ _ _ _ hr hgf hcf =>
  (dss_cons (ds_if (dt_w (dw_or (dt_not (dt_val (de_isi .tuple (by rfl) T.b_isinstance (by rfl) T.b_tuple bt_tuple (de_var 1)))) (dw_or1 (dt_cmp (or_ne (ru64 hr)) od_ne (de_cb call_len_seq cd_len (by rfl) T.b_len bt_len (da_cons (de_var 1) da_nil)) (de_cb call_len_seq cd_len (by rfl) T.b_len bt_len (da_cons (de_ix (de_var 0) de_int) da_nil)))))) (dss_one (ds_ret de_bl)) dss_nil)
    (dss_cons (ds_if (dt_not (dt_val (de_cb (cr_all rfl) cd_all (by rfl) T.b_all bt_all (da_cons (de_lc (own := [("one", 2)]) rfl sc_are_asked.nd (di_seq (de_var 1)) (blkOk_by (N := ["net", "thing", "one", "joint"]) (sc := defScope s_are_asked) (by decide +kernel)) (by decide) (fun _ _ _ _ _ => (dg_name 2 sc_are_asked.nd)) (fun _ _ _ _ _ => dts_nil) (fun _ _ _ _ _ => (de_c (c_is_between T) hr (by decide) takesF (by rfl) (da_cons (de_var 2) (da_cons de_int (da_cons (de_gl (by rfl) T.g_MOST_ASKED) da_nil)))))) da_nil)))) (dss_one (ds_ret de_bl)) dss_nil)
    (dss_one (ds_ret (de_cb (cr_all rfl) cd_all (by rfl) T.b_all bt_all (da_cons (de_lc (own := [("one", 2), ("joint", 3)]) rfl sc_are_asked.nd (di_zip (by rfl) T.b_zip (da_cons (de_var 1) (da_cons (de_ix (de_var 0) de_int) da_nil))) (blkOk_by (N := ["net", "thing", "one", "joint"]) (sc := defScope s_are_asked) (by decide +kernel)) (by decide) (fun _ _ _ _ _ => (dg_tupC (K := K) (by rfl) (dgs_cons (dg_name 2 sc_are_asked.nd) (dgs_cons (dg_name 3 sc_are_asked.nd) dgs_nil)) (gl_cons (gl_cons gl_nil)))) (fun _ _ _ _ _ => dts_nil) (fun _ _ _ _ _ => (de_or (de_cmp (or_eq (ru64 hr)) od_eq (de_var 2) (de_gl (by rfl) T.g_NOUGHT)) (de_one (de_cmp (or_eq (ru64 hr)) od_eq (de_ix (de_var 3) de_int) (de_gl (by rfl) T.g_PLACE)))))) da_nil))))))
theorem c_are_levels_of (T : Txt w K mg base) : Callee false P w K mg base 4 "are_levels_of" ["net", "thing"] m_are_levels_of := callee_ok (gd := false) T.d_are_levels_of sc_are_levels_of fun _ _ _ _ _ _ _ hr hgf hcf =>
  (dss_cons (ds_asg 2 (de_c (c_tanks_of T) hr (by decide) (takes_of rfl rfl rfl rfl) (by rfl) (da_cons (de_var 0) da_nil)) sc_are_levels_of.nd)
    (dss_cons (ds_if (dt_w (dw_or (dt_not (dt_val (de_isi .tuple (by rfl) T.b_isinstance (by rfl) T.b_tuple bt_tuple (de_var 1)))) (dw_or1 (dt_cmp (or_ne (ru64 hr)) od_ne (de_cb call_len_seq cd_len (by rfl) T.b_len bt_len (da_cons (de_var 1) da_nil)) (de_cb call_len_seq cd_len (by rfl) T.b_len bt_len (da_cons (de_var 2) da_nil)))))) (dss_one (ds_ret de_bl)) dss_nil)
    (dss_one (ds_ret (de_cb (cr_all rfl) cd_all (by rfl) T.b_all bt_all (da_cons (de_lc (own := [("one", 4), ("joint", 3)]) rfl sc_are_levels_of.nd (di_zip (by rfl) T.b_zip (da_cons (de_var 1) (da_cons (de_var 2) da_nil))) (blkOk_by (N := ["net", "thing", "tanks", "joint", "one"]) (sc := defScope s_are_levels_of) (by decide +kernel)) (by decide) (fun _ _ _ _ _ => (dg_tupC (K := K) (by rfl) (dgs_cons (dg_name 4 sc_are_levels_of.nd) (dgs_cons (dg_name 3 sc_are_levels_of.nd) dgs_nil)) (gl_cons (gl_cons gl_nil)))) (fun _ _ _ _ _ => dts_nil) (fun _ _ _ _ _ => (de_c (c_is_between T) hr (by decide) takesF (by rfl) (da_cons (de_var 4) (da_cons de_int (da_cons (de_ix (de_ix (de_ix (de_var 0) de_int) (de_var 3)) de_int) da_nil)))))) da_nil))))))
theorem c_are_shut (T : Txt w K mg base) : Callee false P w K mg base 4 "are_shut" ["net", "thing"] m_are_shut := callee_ok (gd := false) T.d_are_shut sc_are_shut fun _ _ _ _ _ _ _ hr hgf hcf =>
  (dss_one (ds_ret (de_and (de_isi .tuple (by rfl) T.b_isinstance (by rfl) T.b_tuple bt_tuple (de_var 1)) (de_and (de_cb (cr_all rfl) cd_all (by rfl) T.b_all bt_all (da_cons (de_lc (own := [("one", 2)]) rfl sc_are_shut.nd (di_seq (de_var 1)) (blkOk_by (N := ["net", "thing", "one"]) (sc := defScope s_are_shut) (by decide +kernel)) (by decide) (fun _ _ _ _ _ => (dg_name 2 sc_are_shut.nd)) (fun _ _ _ _ _ => dts_nil) (fun _ _ _ _ _ => (de_c (c_can_shut T) hr (by decide) takesF (by rfl) (da_cons (de_var 0) (da_cons (de_var 2) da_nil))))) da_nil)) (de_one (de_c (c_are_rising T) hr (by decide) (takes_of rfl rfl rfl rfl) (by rfl) (da_cons (de_var 1) da_nil)))))))
theorem c_is_case_of (T : Txt w K mg base) : Callee false P w K mg base 5 "is_case_of" ["net", "thing"] m_is_case_of := callee_ok (gd := false) T.d_is_case_of sc_is_case_of fun _ _ _ _ _ _ _ hr hgf hcf =>
  (dss_cons (ds_if (dt_w (dw_or (dt_not (dt_val (de_isi .tuple (by rfl) T.b_isinstance (by rfl) T.b_tuple bt_tuple (de_var 1)))) (dw_or1 (dt_cmp (or_ne (ru64 hr)) od_ne (de_cb call_len_seq cd_len (by rfl) T.b_len bt_len (da_cons (de_var 1) da_nil)) de_int)))) (dss_one (ds_ret de_bl)) dss_nil)
    (dss_one (ds_ret (de_and (de_c (c_are_asked T) hr (by decide) (takes_of rfl rfl rfl rfl) (by rfl) (da_cons (de_var 0) (da_cons (de_ix (de_var 1) de_int) da_nil))) (de_and (de_c (c_are_levels_of T) hr (by decide) (takes_of rfl rfl rfl rfl) (by rfl) (da_cons (de_var 0) (da_cons (de_ix (de_var 1) de_int) da_nil))) (de_one (de_c (c_are_shut T) hr (by decide) (takes_of rfl rfl rfl rfl) (by rfl) (da_cons (de_var 0) (da_cons (de_ix (de_var 1) de_int) da_nil)))))))))
theorem c_need_case (T : Txt w K mg base) : Callee false P w K mg base 7 "need_case" ["net", "thing"] m_need_case := callee_ok (gd := false) T.d_need_case sc_need_case fun _ _ _ _ _ _ _ hr hgf hcf =>
  (dss_cons (ds_expr (de_c (c_need_net T) hr (by decide) (takes_of rfl rfl rfl rfl) (by rfl) (da_cons (de_var 0) da_nil)))
    (dss_one (ds_if (dt_not (dt_val (de_c (c_is_case_of T) hr (by decide) (takes_of rfl rfl rfl rfl) (by rfl) (da_cons (de_var 0) (da_cons (de_var 1) da_nil))))) (dss_one (ds_raiseC T.x_NoCase rfl (takes_of rfl rfl rfl rfl) (by rfl))) dss_nil)))
theorem c_need_both (T : Txt w K mg base) : Callee false P w K mg base 8 "need_both" ["net", "case"] m_need_both := callee_ok (gd := false) T.d_need_both sc_need_both fun _ _ _ _ _ _ _ hr hgf hcf =>
  (dss_one (ds_expr (de_c (c_need_case T) hr (by decide) (takes_of rfl rfl rfl rfl) (by rfl) (da_cons (de_var 0) (da_cons (de_var 1) da_nil)))))
theorem c_are_readings (T : Txt w K mg base) : Callee false P w K mg base 3 "are_readings" ["net", "thing"] m_are_readings := callee_ok (gd := false) T.d_are_readings sc_are_readings fun _ _ _ _ _ _ _ hr hgf hcf =>
  (dss_cons (ds_if (dt_w (dw_or (dt_not (dt_val (de_isi .tuple (by rfl) T.b_isinstance (by rfl) T.b_tuple bt_tuple (de_var 1)))) (dw_or1 (dt_cmp (or_ne (ru64 hr)) od_ne (de_cb call_len_seq cd_len (by rfl) T.b_len bt_len (da_cons (de_var 1) da_nil)) (de_cb call_len_seq cd_len (by rfl) T.b_len bt_len (da_cons (de_ix (de_var 0) de_int) da_nil)))))) (dss_one (ds_ret de_bl)) dss_nil)
    (dss_one (ds_ret (de_cb (cr_all rfl) cd_all (by rfl) T.b_all bt_all (da_cons (de_lc (own := [("one", 2)]) rfl sc_are_readings.nd (di_seq (de_var 1)) (blkOk_by (N := ["net", "thing", "one"]) (sc := defScope s_are_readings) (by decide +kernel)) (by decide) (fun _ _ _ _ _ => (dg_name 2 sc_are_readings.nd)) (fun _ _ _ _ _ => dts_nil) (fun _ _ _ _ _ => (de_or (de_cmp op_isN od_is (de_var 2) de_non) (de_one (de_c (c_is_fraction T) hr (by decide) takesF (by rfl) (da_cons (de_var 2) da_nil)))))) da_nil)))))
theorem c_are_meters (T : Txt w K mg base) : Callee false P w K mg base 3 "are_meters" ["net", "thing"] m_are_meters := callee_ok (gd := false) T.d_are_meters sc_are_meters fun _ _ _ _ _ _ _ hr hgf hcf =>
  (dss_cons (ds_if (dt_w (dw_or (dt_not (dt_val (de_isi .tuple (by rfl) T.b_isinstance (by rfl) T.b_tuple bt_tuple (de_var 1)))) (dw_or1 (dt_not (dt_val (de_cb (cr_all rfl) cd_all (by rfl) T.b_all bt_all (da_cons (de_lc (own := [("one", 2)]) rfl sc_are_meters.nd (di_seq (de_var 1)) (blkOk_by (N := ["net", "thing", "one"]) (sc := defScope s_are_meters) (by decide +kernel)) (by decide) (fun _ _ _ _ _ => (dg_name 2 sc_are_meters.nd)) (fun _ _ _ _ _ => dts_nil) (fun _ _ _ _ _ => (de_c (c_is_number T) hr (by decide) takesF (by rfl) (da_cons (de_var 2) (da_cons de_int (da_cons (de_op op_sub od_sub (de_cb call_len_seq cd_len (by rfl) T.b_len bt_len (da_cons (de_ix (de_var 0) de_int) da_nil)) de_int) da_nil)))))) da_nil))))))) (dss_one (ds_ret de_bl)) dss_nil)
    (dss_one (ds_ret (de_c (c_are_rising T) hr (by decide) (takes_of rfl rfl rfl rfl) (by rfl) (da_cons (de_var 1) da_nil)))))
theorem c_leak (T : Txt w K mg base) : Callee false P w K mg base 9 "leak" ["net", "case", "readings", "given"] m_leak := callee_ok (gd := false) T.d_leak sc_leak fun _ _ _ _ _ _ _ hr hgf hcf =>
  (dss_cons (ds_expr (de_c (c_need_both T) hr (by decide) (takes_of rfl rfl rfl rfl) (by rfl) (da_cons (de_var 0) (da_cons (de_var 1) da_nil))))
    (dss_cons (ds_if (dt_not (dt_val (de_c (c_are_readings T) hr (by decide) (takes_of rfl rfl rfl rfl) (by rfl) (da_cons (de_var 0) (da_cons (de_var 2) da_nil))))) (dss_one (ds_raiseC T.x_NoReadings rfl (takes_of rfl rfl rfl rfl) (by rfl))) dss_nil)
    (dss_cons (ds_if (dt_not (dt_val (de_c (c_is_fraction T) hr (by decide) (takes_of rfl rfl rfl rfl) (by rfl) (da_cons (de_var 3) da_nil)))) (dss_one (ds_raiseC T.x_NoFraction rfl (takes_of rfl rfl rfl rfl) (by rfl))) dss_nil)
    dss_never)))
theorem c_alike (T : Txt w K mg base) : Callee false P w K mg base 9 "alike" ["net", "case", "amount", "meters"] m_alike := callee_ok (gd := false) T.d_alike sc_alike fun _ _ _ _ _ _ _ hr hgf hcf =>
  (dss_cons (ds_expr (de_c (c_need_both T) hr (by decide) (takes_of rfl rfl rfl rfl) (by rfl) (da_cons (de_var 0) (da_cons (de_var 1) da_nil))))
    (dss_cons (ds_if (dt_not (dt_val (de_c (c_is_number T) hr (by decide) (takes_of rfl rfl rfl rfl) (by rfl) (da_cons (de_var 2) (da_cons de_int (da_cons (de_gl (by rfl) T.g_MOST_AMOUNT) da_nil)))))) (dss_one (ds_raiseC T.x_NoAmount rfl (takes_of rfl rfl rfl rfl) (by rfl))) dss_nil)
    (dss_cons (ds_if (dt_not (dt_val (de_c (c_are_meters T) hr (by decide) (takes_of rfl rfl rfl rfl) (by rfl) (da_cons (de_var 0) (da_cons (de_var 3) da_nil))))) (dss_one (ds_raiseC T.x_NoMeters rfl (takes_of rfl rfl rfl rfl) (by rfl))) dss_nil)
    dss_never)))
theorem c__law_cell_at (T : Txt w K mg base) : Callee false P w K mg base 1 "_law_cell_at" ["_law_script", "_law_k"] m__law_cell_at := callee_ok (gd := false) T.d__law_cell_at sc__law_cell_at fun _ _ _ _ _ _ _ hr hgf hcf =>
  (dss_cons (ds_if (dt_cmp op_lt od_ord (de_var 1) (de_cb call_len_seq cd_len (by rfl) T.b_len bt_len (da_cons (de_var 0) da_nil))) (dss_one (ds_ret (de_ix (de_var 0) (de_var 1)))) dss_nil)
    (dss_one (ds_ret de_int)))
theorem c__law_next (T : Txt w K mg base) : Callee false P w K mg base 1 "_law_next" ["_law_one"] m__law_next := callee_ok (gd := false) T.d__law_next sc__law_next fun _ _ _ _ _ _ _ hr hgf hcf =>
  (dss_cons (ds_asg 0 (de_op op_modN od_mod (de_op or_add od_add (de_var 0) de_int) de_int) sc__law_next.nd)
    (dss_one (ds_ret (de_op op_modN od_mod (de_op or_add od_add (de_op or_add od_add (de_op or_mul od_mul (de_var 0) (de_var 0)) (de_op or_mul od_mul de_int (de_var 0))) de_int) de_int))))
theorem c__law_pen_of (T : Txt w K mg base) : Callee false P w K mg base 1 "_law_pen_of" ["_law_cell"] m__law_pen_of := callee_ok (gd := false) T.d__law_pen_of sc__law_pen_of fun _ _ _ _ _ _ _ hr hgf hcf =>
  (dss_cons (ds_asg 1 (de_cb (call_max2 rfl) cd_max (by rfl) T.b_max bt_max (da_cons (de_var 0) (da_cons (de_op op_sub od_sub de_int (de_var 0)) da_nil))) sc__law_pen_of.nd)
    (dss_one (ds_ret (de_lst (da_cons (de_var 1) (da_cons (de_ct call_int1 cd_int (by rfl) T.b_int bt_int (da_cons (de_cmp op_ge od_ord (de_var 1) (de_op op_pow od_pow de_int de_int)) da_nil)) (da_cons (de_op op_modN od_mod (de_var 1) de_int) da_nil)))))))
theorem c__law_draw (T : Txt w K mg base) : Callee false P w K mg base 2 "_law_draw" ["_law_pen", "_law_many"] m__law_draw := callee_ok (gd := false) T.d__law_draw sc__law_draw fun _ _ _ _ _ _ _ hr hgf hcf =>
  (dss_cons (ds_if (dt_w (dw_and (dt_cmp (or_eq (ru64 hr)) od_eq (de_ix (de_var 0) de_int) de_int) (dw_and1 (dt_cmp op_gt od_ord (de_ix (de_var 0) de_int) de_int)))) (dss_cons (ds_asg 2 (de_op op_modN od_mod (de_ix (de_var 0) de_int) (de_var 1)) sc__law_draw.nd)
    (dss_cons (ds_asgG (de_op od_div.1 od_div.2 (de_ix (de_var 0) de_int) (de_var 1)) (dg_sub (W := WF) 0 de_int))
    (dss_one (ds_ret (de_var 2))))) dss_nil)
    (dss_cons (ds_asgG (de_c (c__law_next T) hr (by decide) (takes_of rfl rfl rfl rfl) (by rfl) (da_cons (de_op or_add od_add (de_c (c__law_next T) hr (by decide) (takes_of rfl rfl rfl rfl) (by rfl) (da_cons (de_ix (de_var 0) de_int) da_nil)) de_int) da_nil)) (dg_sub (W := WF) 0 de_int))
    (dss_one (ds_ret (de_op op_modN od_mod (de_op od_div.1 od_div.2 (de_ix (de_var 0) de_int) de_int) (de_var 1))))))
theorem c__law_low (T : Txt w K mg base) : Callee false P w K mg base 1 "_law_low" ["_law_top", "_law_bottom"] m__law_low := callee_ok (gd := false) T.d__law_low sc__law_low fun _ _ _ _ _ _ _ hr hgf hcf =>
  (dss_cons (ds_par 2 3 rfl sc__law_low.nd (de_cb call_abs cd_abs (by rfl) T.b_abs bt_abs (da_cons (de_var 0) da_nil)) (de_var 1))
    (dss_cons (ds_while (muI 3) (passes_of rfl) (dt_cmp (or_ne (ru64 hr)) od_ne (de_var 3) de_int) (dss_one (ds_par 2 3 rfl sc__law_low.nd (de_var 3) (de_op op_modN od_mod (de_var 2) (de_var 3)))))
    (dss_one (ds_ret (de_tup (da_cons (de_op od_div.1 od_div.2 (de_var 0) (de_var 2)) (da_cons (de_op od_div.1 od_div.2 (de_var 1) (de_var 2)) da_nil)))))))
theorem c__law_joint (T : Txt w K mg base) : Callee false P w K mg base 3 "_law_joint" ["_law_pen"] m__law_joint := callee_ok (gd := false) T.d__law_joint sc__law_joint fun _ _ _ _ _ _ _ hr hgf hcf =>
  (dss_cons (ds_asg 1 (de_cP (c__law_draw T) hr (by decide) (takes_of rfl rfl rfl rfl) (by rfl) (da_cons (de_var 0) (da_cons de_int da_nil))) sc__law_joint.nd)
    (dss_cons (ds_if (dt_cmp (or_eq (ru64 hr)) od_eq (de_var 1) de_int) (dss_one (ds_ret (de_tup (da_cons de_str (da_cons (de_cP (c__law_draw T) hr (by decide) (takes_of rfl rfl rfl rfl) (by rfl) (da_cons (de_var 0) (da_cons de_int da_nil))) da_nil))))) dss_nil)
    (dss_cons (ds_if (dt_cmp (or_eq (ru64 hr)) od_eq (de_var 1) de_int) (dss_one (ds_ret (de_tup (da_cons de_str (da_cons (de_cP (c__law_draw T) hr (by decide) (takes_of rfl rfl rfl rfl) (by rfl) (da_cons (de_var 0) (da_cons de_int da_nil))) (da_cons (de_op or_add od_add de_int (de_cP (c__law_draw T) hr (by decide) (takes_of rfl rfl rfl rfl) (by rfl) (da_cons (de_var 0) (da_cons de_int da_nil)))) (da_cons (de_op or_add od_add de_int (de_cP (c__law_draw T) hr (by decide) (takes_of rfl rfl rfl rfl) (by rfl) (da_cons (de_var 0) (da_cons de_int da_nil)))) da_nil))))))) dss_nil)
    (dss_cons (ds_asg 2 (de_cP (c__law_draw T) hr (by decide) (takes_of rfl rfl rfl rfl) (by rfl) (da_cons (de_var 0) (da_cons de_int da_nil))) sc__law_joint.nd)
    (dss_one (ds_ret (de_tup (da_cons de_str (da_cons (de_cP (c__law_draw T) hr (by decide) (takes_of rfl rfl rfl rfl) (by rfl) (da_cons (de_var 0) (da_cons de_int da_nil))) (da_cons (de_var 2) (da_cons (de_op or_add od_add (de_var 2) (de_cP (c__law_draw T) hr (by decide) (takes_of rfl rfl rfl rfl) (by rfl) (da_cons (de_var 0) (da_cons de_int da_nil)))) da_nil)))))))))))
theorem c__law_net (T : Txt w K mg base) : Callee false P w K mg base 4 "_law_net" ["_law_pen", "_law_most"] m__law_net := callee_ok (gd := false) T.d__law_net sc__law_net fun _ _ _ _ _ _ _ hr hgf hcf =>
  (dss_cons (ds_asg 2 (de_lst (da_cons (de_tup (da_cons de_str (da_cons (de_op or_add od_add de_int (de_cP (c__law_draw T) hr (by decide) (takes_of rfl rfl rfl rfl) (by rfl) (da_cons (de_var 0) (da_cons de_int da_nil)))) da_nil))) (da_cons (de_tup (da_cons de_str (da_cons (de_op or_add od_add de_int (de_cP (c__law_draw T) hr (by decide) (takes_of rfl rfl rfl rfl) (by rfl) (da_cons (de_var 0) (da_cons de_int da_nil)))) (da_cons (de_op or_add od_add de_int (de_cP (c__law_draw T) hr (by decide) (takes_of rfl rfl rfl rfl) (by rfl) (da_cons (de_var 0) (da_cons de_int da_nil)))) (da_cons de_int da_nil))))) da_nil))) sc__law_net.nd)
    (dss_cons (ds_asg 3 (de_op or_add od_add (de_lst (da_cons (de_ix (de_var 2) (de_cP (c__law_draw T) hr (by decide) (takes_of rfl rfl rfl rfl) (by rfl) (da_cons (de_var 0) (da_cons de_int da_nil)))) da_nil)) (de_lc (own := [("_law_turn", 6)]) rfl sc__law_net.nd (di_range1 (by rfl) T.b_range (da_cons (de_op or_add od_add de_int (de_cP (c__law_draw T) hr (by decide) (takes_of rfl rfl rfl rfl) (by rfl) (da_cons (de_var 0) (da_cons (de_op op_sub od_sub (de_var 1) de_int) da_nil)))) da_nil)) (blkOk_by (N := ["_law_pen", "_law_most", "_law_first", "_law_joints", "_law_pipes", "_law_goes", "_law_turn", "_law_one", "_law_step", "_law_way", "_law_lift", "_law_ends"]) (sc := defScope s__law_net) (by decide +kernel)) (by decide) (fun _ _ _ _ _ => (dg_name 6 sc__law_net.nd)) (fun _ _ _ _ _ => dts_nil) (fun _ _ _ _ _ => (de_cP (c__law_joint T) hr (by decide) takesF (by rfl) (da_cons (de_var 0) da_nil))))) sc__law_net.nd)
    (dss_cons (ds_par 4 5 rfl sc__law_net.nd (de_lst da_nil) de_int)
    (dss_cons (ds_for (passes_of rfl) rfl (di_range1 (by rfl) T.b_range (da_cons (de_op or_add od_add de_int (de_cP (c__law_draw T) hr (by decide) (takes_of rfl rfl rfl rfl) (by rfl) (da_cons (de_var 0) (da_cons (de_cb (call_min2 rfl) cd_min (by rfl) T.b_min bt_min (da_cons de_int (da_cons (de_op or_add od_add (de_cb call_len_seq cd_len (by rfl) T.b_len bt_len (da_cons (de_var 3) da_nil)) de_int) da_nil))) da_nil)))) da_nil)) (dg_name 6 sc__law_net.nd) (dss_cons (ds_par 7 8 rfl sc__law_net.nd (de_cP (c__law_draw T) hr (by decide) (takes_of rfl rfl rfl rfl) (by rfl) (da_cons (de_var 0) (da_cons (de_cb call_len_seq cd_len (by rfl) T.b_len bt_len (da_cons (de_var 3) da_nil)) da_nil))) (de_op or_add od_add de_int (de_cP (c__law_draw T) hr (by decide) (takes_of rfl rfl rfl rfl) (by rfl) (da_cons (de_var 0) (da_cons (de_op op_sub od_sub (de_cb call_len_seq cd_len (by rfl) T.b_len bt_len (da_cons (de_var 3) da_nil)) de_int) da_nil)))))
    (dss_cons (ds_asg 9 (de_if (dt_w (dw_and (dt_cmp op_lt od_ord (de_var 5) de_int) (dw_and1 (dt_cmp (or_eq (ru64 hr)) od_eq (de_cP (c__law_draw T) hr (by decide) (takes_of rfl rfl rfl rfl) (by rfl) (da_cons (de_var 0) (da_cons de_int da_nil))) de_int)))) de_str de_str) sc__law_net.nd)
    (dss_cons (ds_asg 5 (de_op or_add od_add (de_var 5) (de_ct call_int1 cd_int (by rfl) T.b_int bt_int (da_cons (de_cmp (or_eq (ru64 hr)) od_eq (de_var 9) de_str) da_nil))) sc__law_net.nd)
    (dss_cons (ds_asg 10 (de_if (dt_cmp (or_eq (ru64 hr)) od_eq (de_var 9) de_str) (de_op or_mul od_mul (de_cP (c__law_draw T) hr (by decide) (takes_of rfl rfl rfl rfl) (by rfl) (da_cons (de_var 0) (da_cons de_int da_nil))) (de_cP (c__law_draw T) hr (by decide) (takes_of rfl rfl rfl rfl) (by rfl) (da_cons (de_var 0) (da_cons de_int da_nil)))) de_int) sc__law_net.nd)
    (dss_cons (ds_asg 11 (de_tup (da_cons (de_var 7) (da_cons (de_op op_modN od_mod (de_op or_add od_add (de_var 7) (de_var 8)) (de_cb call_len_seq cd_len (by rfl) T.b_len bt_len (da_cons (de_var 3) da_nil))) (da_cons (de_op or_add od_add de_int (de_cP (c__law_draw T) hr (by decide) (takes_of rfl rfl rfl rfl) (by rfl) (da_cons (de_var 0) (da_cons (de_ix (de_lst (da_cons de_int (da_cons de_int da_nil))) (de_cP (c__law_draw T) hr (by decide) (takes_of rfl rfl rfl rfl) (by rfl) (da_cons (de_var 0) (da_cons de_int da_nil)))) da_nil)))) da_nil)))) sc__law_net.nd)
    (dss_one (ds_expr (de_app 4 (de_op or_add od_add (de_var 11) (de_tup (da_cons (de_var 9) (da_cons (de_var 10) (da_cons (de_cmp (or_eq (ru64 hr)) od_eq (de_cP (c__law_draw T) hr (by decide) (takes_of rfl rfl rfl rfl) (by rfl) (da_cons (de_var 0) (da_cons de_int da_nil))) de_int) (da_cons (de_cP (c__law_draw T) hr (by decide) (takes_of rfl rfl rfl rfl) (by rfl) (da_cons (de_var 0) (da_cons de_int da_nil))) da_nil)))))))))))))))
    (dss_one (ds_ret (de_tup (da_cons (de_ct call_tuple_of cd_tuple (by rfl) T.b_tuple bt_tuple (da_cons (de_var 3) da_nil)) (da_cons (de_ct call_tuple_of cd_tuple (by rfl) T.b_tuple bt_tuple (da_cons (de_var 4) da_nil)) da_nil)))))))))
theorem c__law_case (T : Txt w K mg base) : Callee false P w K mg base 3 "_law_case" ["_law_pen", "_law_net_here"] m__law_case := callee_ok (gd := false) T.d__law_case sc__law_case fun _ _ _ _ _ _ _ hr hgf hcf =>
  (dss_cons (ds_par 2 3 rfl sc__law_case.nd (de_lst da_nil) (de_lst da_nil))
    (dss_cons (ds_for (passes_of rfl) rfl (di_seq (de_ix (de_var 1) de_int)) (dg_name 4 sc__law_case.nd) (dss_cons (ds_asg 5 (de_c (c__law_low T) hr (by decide) (takes_of rfl rfl rfl rfl) (by rfl) (da_cons (de_cP (c__law_draw T) hr (by decide) (takes_of rfl rfl rfl rfl) (by rfl) (da_cons (de_var 0) (da_cons de_int da_nil))) (da_cons (de_op or_add od_add de_int (de_cP (c__law_draw T) hr (by decide) (takes_of rfl rfl rfl rfl) (by rfl) (da_cons (de_var 0) (da_cons (de_ix (de_lst (da_cons de_int (da_cons de_int da_nil))) (de_cP (c__law_draw T) hr (by decide) (takes_of rfl rfl rfl rfl) (by rfl) (da_cons (de_var 0) (da_cons de_int da_nil)))) da_nil)))) da_nil))) sc__law_case.nd)
    (dss_cons (ds_expr (de_app 2 (de_if (dt_w (dw_and (dt_cmp (or_eq (ru64 hr)) od_eq (de_ix (de_var 4) de_int) de_str) (dw_and1 (dt_cmp op_gt od_ord (de_cP (c__law_draw T) hr (by decide) (takes_of rfl rfl rfl rfl) (by rfl) (da_cons (de_var 0) (da_cons de_int da_nil))) de_int)))) (de_var 5) (de_tup (da_cons de_int (da_cons de_int da_nil))))))
    (dss_one (ds_if (dt_cmp (or_eq (ru64 hr)) od_eq (de_ix (de_var 4) de_int) de_str) (dss_one (ds_expr (de_app 3 (de_c (c__law_low T) hr (by decide) (takes_of rfl rfl rfl rfl) (by rfl) (da_cons (de_cP (c__law_draw T) hr (by decide) (takes_of rfl rfl rfl rfl) (by rfl) (da_cons (de_var 0) (da_cons (de_op or_add od_add (de_op or_mul od_mul de_int (de_ix (de_var 4) de_int)) de_int) da_nil))) (da_cons de_int da_nil)))))) dss_nil)))))
    (dss_cons (ds_asgLc 6 (own := [("_law_number", 7), ("_law_pipe", 8)]) rfl sc__law_case.nd (di_enum (by rfl) T.b_enumerate (da_cons (de_ix (de_var 1) de_int) da_nil)) (blkOk_by (N := ["_law_pen", "_law_net_here", "_law_asked", "_law_levels", "_law_joint_here", "_law_amount", "_law_can", "_law_number", "_law_pipe"]) (sc := defScope s__law_case) (by decide +kernel)) (by decide) (fun _ _ _ _ _ => (dg_tupC (K := K) (by rfl) (dgs_cons (dg_name 7 sc__law_case.nd) (dgs_cons (dg_name 8 sc__law_case.nd) dgs_nil)) (gl_cons (gl_cons gl_nil)))) (fun _ _ _ _ _ => (dts_one (dt_w (dw_or (dt_val (de_ix (de_var 8) de_int)) (dw_or1 (dt_cmp op_gt od_ord (de_ix (de_var 8) de_int) de_int)))))) (fun _ _ _ _ _ => (de_var 7)) (sw_true rfl rfl rfl (by decide +kernel)))
    (dss_one (ds_ret (de_tup (da_cons (de_ct call_tuple_of cd_tuple (by rfl) T.b_tuple bt_tuple (da_cons (de_var 2) da_nil)) (da_cons (de_ct call_tuple_of cd_tuple (by rfl) T.b_tuple bt_tuple (da_cons (de_var 3) da_nil)) (da_cons (de_ct call_tuple_of cd_tuple (by rfl) T.b_tuple bt_tuple (da_cons (de_lc (own := [("_law_number", 7)]) rfl sc__law_case.nd (di_seq (de_var 6)) (blkOk_by (N := ["_law_pen", "_law_net_here", "_law_asked", "_law_levels", "_law_joint_here", "_law_amount", "_law_can", "_law_number", "_law_pipe"]) (sc := defScope s__law_case) (by decide +kernel)) (by decide) (fun _ _ _ _ _ => (dg_name 7 sc__law_case.nd)) (fun _ _ _ _ _ => (dts_one (dt_cmp (or_eq (ru64 hr)) od_eq (de_cP (c__law_draw T) hr (by decide) takesF (by rfl) (da_cons (de_var 0) (da_cons de_int da_nil))) de_int))) (fun _ _ _ _ _ => (de_var 7))) da_nil)) da_nil)))))))))
theorem gives__law_said {X : Cx} {gd : Bool} {j : Nat} (T : Txt X.w X.K X.mg X.base) (hr : RG gd (j + 1) X.A) (g : Addr) (cdv : Value) (q : Str) : LamX.GivesTo X ["_law_call", "e", "_law_some", "_law_words"] "_law_said" (defScope s__law_said) g cdv (defBody s__law_said) "_law_call" q (TTs X.K X.mg errs "told" said__law_said) := by
  obtain ⟨CW, hCW⟩ := T.cw
  exact said_gives (i := 1) (hS := h__law_said) T.er (by rfl) hCW sc__law_said.nd (by rfl) (by rfl) (fun _ => rfl) (fun s H c D ad oe pn hc hD hz hf =>
    let X0 := (cxOf C8.CX0 X.prog X.w X.K X.mg X.base ["_law_call", "e", "_law_some", "_law_words"] "_law_said" (defScope s__law_said) g cdv X.A X.stack s H C8.E0).nox
    (dss_cons (ds_asg 2 (de_lst (da_cons (de_isX (X := X0) 1 T.er hc hD (by decide) hz hf (by rfl) T.b_isinstance (by rfl) (by rfl) (by first | exact Or.inl rfl | exact Or.inr (Or.inl rfl) | exact Or.inr (Or.inr rfl))) (da_cons (de_isX (X := X0) 1 T.er hc hD (by decide) hz hf (by rfl) T.b_isinstance (by rfl) (by rfl) (by first | exact Or.inl rfl | exact Or.inr (Or.inl rfl) | exact Or.inr (Or.inr rfl))) da_nil))) sc__law_said.nd)
    (dss_cons (ds_asg 2 (de_op or_add od_add (de_var 2) (de_lst (da_cons (de_isX (X := X0) 1 T.er hc hD (by decide) hz hf (by rfl) T.b_isinstance (by rfl) (by rfl) (by first | exact Or.inl rfl | exact Or.inr (Or.inl rfl) | exact Or.inr (Or.inr rfl))) (da_cons (de_isX (X := X0) 1 T.er hc hD (by decide) hz hf (by rfl) T.b_isinstance (by rfl) (by rfl) (by first | exact Or.inl rfl | exact Or.inr (Or.inl rfl) | exact Or.inr (Or.inr rfl))) da_nil)))) sc__law_said.nd)
    (dss_cons (ds_asg 2 (de_op or_add od_add (de_var 2) (de_lst (da_cons (de_isX (X := X0) 1 T.er hc hD (by decide) hz hf (by rfl) T.b_isinstance (by rfl) (by rfl) (by first | exact Or.inl rfl | exact Or.inr (Or.inl rfl) | exact Or.inr (Or.inr rfl))) (da_cons (de_isX (X := X0) 1 T.er hc hD (by decide) hz hf (by rfl) T.b_isinstance (by rfl) (by rfl) (by first | exact Or.inl rfl | exact Or.inr (Or.inl rfl) | exact Or.inr (Or.inr rfl))) da_nil)))) sc__law_said.nd)
    (dss_cons (ds_asg 2 (de_op or_add od_add (de_var 2) (de_lst (da_cons (de_isX (X := X0) 1 T.er hc hD (by decide) hz hf (by rfl) T.b_isinstance (by rfl) (by rfl) (by first | exact Or.inl rfl | exact Or.inr (Or.inl rfl) | exact Or.inr (Or.inr rfl))) (da_cons (de_isX (X := X0) 1 T.er hc hD (by decide) hz hf (by rfl) T.b_isinstance (by rfl) (by rfl) (by first | exact Or.inl rfl | exact Or.inr (Or.inl rfl) | exact Or.inr (Or.inr rfl))) da_nil)))) sc__law_said.nd)
    (dss_cons (ds_asg 2 (de_op or_add od_add (de_var 2) (de_lst (da_cons (de_isX (X := X0) 1 T.er hc hD (by decide) hz hf (by rfl) T.b_isinstance (by rfl) (by rfl) (by first | exact Or.inl rfl | exact Or.inr (Or.inl rfl) | exact Or.inr (Or.inr rfl))) (da_cons (de_isX (X := X0) 1 T.er hc hD (by decide) hz hf (by rfl) T.b_isinstance (by rfl) (by rfl) (by first | exact Or.inl rfl | exact Or.inr (Or.inl rfl) | exact Or.inr (Or.inr rfl))) da_nil)))) sc__law_said.nd)
    (dss_cons (ds_asg 2 (de_op or_add od_add (de_var 2) (de_lst (da_cons (de_isX (X := X0) 1 T.er hc hD (by decide) hz hf (by rfl) T.b_isinstance (by rfl) (by rfl) (by first | exact Or.inl rfl | exact Or.inr (Or.inl rfl) | exact Or.inr (Or.inr rfl))) (da_cons (de_isX (X := X0) 1 T.er hc hD (by decide) hz hf (by rfl) T.b_isinstance (by rfl) (by rfl) (by first | exact Or.inl rfl | exact Or.inr (Or.inl rfl) | exact Or.inr (Or.inr rfl))) da_nil)))) sc__law_said.nd)
    (dss_cons (ds_asg 2 (de_op or_add od_add (de_var 2) (de_lst (da_cons (de_isX (X := X0) 1 T.er hc hD (by decide) hz hf (by rfl) T.b_isinstance (by rfl) (by rfl) (by first | exact Or.inl rfl | exact Or.inr (Or.inl rfl) | exact Or.inr (Or.inr rfl))) (da_cons (de_isX (X := X0) 1 T.er hc hD (by decide) hz hf (by rfl) T.b_isinstance (by rfl) (by rfl) (by first | exact Or.inl rfl | exact Or.inr (Or.inl rfl) | exact Or.inr (Or.inr rfl))) da_nil)))) sc__law_said.nd)
    (dss_cons (ds_asg 2 (de_op or_add od_add (de_var 2) (de_lst (da_cons (de_isX (X := X0) 1 T.er hc hD (by decide) hz hf (by rfl) T.b_isinstance (by rfl) (by rfl) (by first | exact Or.inl rfl | exact Or.inr (Or.inl rfl) | exact Or.inr (Or.inr rfl))) (da_cons (de_isX (X := X0) 1 T.er hc hD (by decide) hz hf (by rfl) T.b_isinstance (by rfl) (by rfl) (by first | exact Or.inl rfl | exact Or.inr (Or.inl rfl) | exact Or.inr (Or.inr rfl))) da_nil)))) sc__law_said.nd)
    (dss_cons (ds_expr (de_app 2 (de_isX (X := X0) 1 T.er hc hD (by decide) hz hf (by rfl) T.b_isinstance (by rfl) (by rfl) (by first | exact Or.inl rfl | exact Or.inr (Or.inl rfl) | exact Or.inr (Or.inr rfl)))))
    (dss_cons (ds_if (dt_w (dw_or (dt_cmp (or_ne (ru64d hr.rm (envOfC "_law_said" (defScope s__law_said) s.heap.objs.size g cdv))) od_ne (de_m1 PySem.F.slot_list_count PySem.F.type_list_count (mt_countD (ru_deep hr.rm (envOfC "_law_said" (defScope s__law_said) s.heap.objs.size g cdv))) md_count (de_var 2) de_bl) de_int) (dw_or1 (dt_not (dt_val (de_isV (X := X0) 1 T.er hc hD hz hf (by rfl) T.b_isinstance (by rfl) T.b_ValueError (by rfl) (by first | exact Or.inl rfl | exact Or.inr (Or.inl rfl) | exact Or.inr (Or.inr rfl)))))))) (dss_one (ds_ret (de_tup (da_cons de_str da_nil)))) dss_nil)
    (dss_cons (ds_asg 3 (de_op or_add od_add (de_lst (da_cons de_str (da_cons de_str (da_cons de_str (da_cons de_str (da_cons de_str (da_cons de_str da_nil))))))) (de_op or_mul od_mul (de_lst (da_cons de_str da_nil)) de_int)) sc__law_said.nd)
    (dss_one (ds_ret (de_tup (da_cons (de_ix (de_var 3) (de_m1 PySem.F.slot_list_index PySem.F.type_list_index (mt_indexD (ru_deep hr.rm (envOfC "_law_said" (defScope s__law_said) s.heap.objs.size g cdv))) md_index (de_var 2) de_bl)) da_nil)))))))))))))))) hv__law_said
theorem c__law_wrong (T : Txt w K mg base) : Callee false P w K mg base 3 "_law_wrong" ["_law_pen", "_law_net_here", "_law_case_here"] m__law_wrong := callee_ok (gd := false) T.d__law_wrong sc__law_wrong fun _ _ _ _ _ _ _ hr hgf hcf =>
  (dss_cons (ds_asg 3 (de_cb call_len_seq cd_len (by rfl) T.b_len bt_len (da_cons (de_ix (de_var 1) de_int) da_nil)) sc__law_wrong.nd)
    (dss_cons (ds_asg 4 (de_lst (da_cons de_non (da_cons (de_tup da_nil) (da_cons (de_sl (de_var 1) do_none (do_some de_int)) (da_cons (de_ct call_list_of cd_list (by rfl) T.b_list bt_list (da_cons (de_var 1) da_nil)) (da_cons (de_tup (da_cons (de_ix (de_var 1) de_int) (da_cons (de_tup da_nil) da_nil))) (da_cons (de_tup (da_cons (de_op or_mul od_mul (de_ix (de_var 1) de_int) de_int) (da_cons (de_ix (de_var 1) de_int) da_nil))) da_nil))))))) sc__law_wrong.nd)
    (dss_cons (ds_asg 5 (de_lst (da_cons de_non (da_cons (de_tup da_nil) (da_cons (de_sl (de_var 2) do_none (do_some de_int)) (da_cons (de_ct call_list_of cd_list (by rfl) T.b_list bt_list (da_cons (de_var 2) da_nil)) (da_cons (de_op or_add od_add (de_tup (da_cons (de_sl (de_ix (de_var 2) de_int) (do_some de_int) do_none) da_nil)) (de_sl (de_var 2) (do_some de_int) do_none)) (da_cons (de_tup (da_cons (de_ix (de_var 2) de_int) (da_cons (de_op or_add od_add (de_ix (de_var 2) de_int) (de_tup (da_cons (de_tup (da_cons de_int (da_cons de_int da_nil))) da_nil))) (da_cons (de_ix (de_var 2) de_int) da_nil)))) da_nil))))))) sc__law_wrong.nd)
    (dss_cons (ds_asg 6 (de_lst (da_cons de_non (da_cons (de_tup da_nil) (da_cons (de_op or_mul od_mul (de_tup (da_cons de_non da_nil)) (de_op or_add od_add (de_var 3) de_int)) (da_cons (de_op or_mul od_mul (de_lst (da_cons de_non da_nil)) (de_var 3)) (da_cons (de_op or_mul od_mul (de_tup (da_cons de_int da_nil)) (de_var 3)) (da_cons (de_op or_mul od_mul (de_tup (da_cons (de_tup (da_cons de_int (da_cons de_int da_nil))) da_nil)) (de_var 3)) (da_cons (de_op or_mul od_mul (de_tup (da_cons de_bl da_nil)) (de_var 3)) da_nil)))))))) sc__law_wrong.nd)
    (dss_cons (ds_asg 7 (de_lst (da_cons de_non (da_cons de_int (da_cons de_bl (da_cons de_str (da_cons (de_tup (da_cons de_int (da_cons de_int da_nil))) (da_cons (de_tup (da_cons de_int (da_cons de_int da_nil))) (da_cons (de_tup (da_cons de_int (da_cons (de_neg de_int) da_nil))) (da_cons (de_lst (da_cons de_int (da_cons de_int da_nil))) (da_cons (de_tup (da_cons de_int da_nil)) da_nil)))))))))) sc__law_wrong.nd)
    (dss_cons (ds_asg 8 (de_lst (da_cons de_int (da_cons de_int (da_cons (de_neg de_int) (da_cons de_non (da_cons de_bl (da_cons de_str (da_cons (de_tup (da_cons de_int (da_cons de_int da_nil))) (da_cons (de_op op_pow od_pow de_int de_int) (da_cons (de_lst (da_cons de_int da_nil)) da_nil)))))))))) sc__law_wrong.nd)
    (dss_cons (ds_asg 9 (de_lst (da_cons de_non (da_cons de_int (da_cons (de_lst (da_cons de_int da_nil)) (da_cons (de_tup (da_cons (de_var 3) da_nil)) (da_cons (de_tup (da_cons (de_neg de_int) da_nil)) (da_cons (de_tup (da_cons de_int (da_cons de_int da_nil))) (da_cons (de_tup (da_cons de_int (da_cons de_int da_nil))) (da_cons (de_tup (da_cons de_bl da_nil)) (da_cons (de_tup (da_cons de_str da_nil)) (da_cons (de_tup (da_cons (de_tup (da_cons de_int da_nil)) da_nil)) da_nil))))))))))) sc__law_wrong.nd)
    (dss_cons (ds_asg 10 (de_lst (da_cons (de_var 4) (da_cons (de_var 5) (da_cons (de_var 6) (da_cons (de_var 7) (da_cons (de_var 8) (da_cons (de_var 9) da_nil))))))) sc__law_wrong.nd)
    (dss_one (ds_ret (de_lc (own := [("_law_kinds", 11)]) rfl sc__law_wrong.nd (di_seq (de_var 10)) (blkOk_by (N := ["_law_pen", "_law_net_here", "_law_case_here", "_law_many", "_law_nets", "_law_cases", "_law_readings", "_law_fractions", "_law_amounts", "_law_meters", "_law_some", "_law_kinds"]) (sc := defScope s__law_wrong) (by decide +kernel)) (by decide) (fun _ _ _ _ _ => (dg_name 11 sc__law_wrong.nd)) (fun _ _ _ _ _ => dts_nil) (fun _ _ _ _ _ => (de_ix (de_var 11) (de_cP (c__law_draw T) hr (by decide) takesF (by rfl) (da_cons (de_var 0) (da_cons (de_cb call_len_seq cd_len (by rfl) T.b_len bt_len (da_cons (de_var 11) da_nil)) da_nil))))))))))))))))
theorem c_law (T : Txt w K mg base) : Callee true P w K mg base 12 "law" ["_law_script"] m_law := callee_ok (gd := true) T.d_law sc_law fun _ _ _ _ _ _ _ hr hgf hcf =>
  (dss_cons (ds_for (passes_of rfl) rfl (di_seq (de_op or_add od_add (de_lst (da_cons (de_c (c__law_cell_at T) hr (by decide) (takes_of rfl rfl rfl rfl) (by rfl) (da_cons (de_var 0) (da_cons de_int da_nil))) da_nil)) (de_sl (de_var 0) (do_some de_int) (do_some de_int)))) (dg_name 1 sc_law.nd) (dss_cons (ds_asg 2 (de_c (c__law_pen_of T) hr (by decide) (takes_of rfl rfl rfl rfl) (by rfl) (da_cons (de_var 1) da_nil)) sc_law.nd)
    (dss_cons (ds_asg 3 (de_cP (c__law_net T) hr (by decide) (takes_of rfl rfl rfl rfl) (by rfl) (da_cons (de_var 2) (da_cons de_int da_nil))) sc_law.nd)
    (dss_cons (ds_asgG (de_tup (da_cons (de_cP (c__law_case T) hr (by decide) (takes_of rfl rfl rfl rfl) (by rfl) (da_cons (de_var 2) (da_cons (de_var 3) da_nil))) (da_cons (de_op or_mul od_mul (de_tup (da_cons de_non da_nil)) (de_cb call_len_seq cd_len (by rfl) T.b_len bt_len (da_cons (de_ix (de_var 3) de_int) da_nil))) da_nil))) (dg_tupC (K := K) (by rfl) (dgs_cons (dg_name 4 sc_law.nd) (dgs_cons (dg_name 5 sc_law.nd) dgs_nil)) (gl_cons (gl_cons gl_nil))))
    (dss_one (ds_for (passes_of rfl) rfl (di_range1 (by rfl) T.b_range (da_cons de_int da_nil)) (dg_name 6 sc_law.nd) (dss_cons (ds_asg 7 (de_cP (c__law_wrong T) hr (by decide) (takes_of rfl rfl rfl rfl) (by rfl) (da_cons (de_var 2) (da_cons (de_var 3) (da_cons (de_var 4) da_nil)))) sc_law.nd)
    (dss_cons (ds_asg 8 (de_cb (call_reprD (hr.gd rfl) (ru128 hr)) cd_repr (by rfl) T.b_repr bt_repr (da_cons (de_tup (da_cons (de_var 3) (da_cons (de_var 4) (da_cons (de_var 7) da_nil)))) da_nil)) sc_law.nd)
    (dss_cons (ds_asg 9 (de_lst (da_cons (de_saidC (k := 9) T.d__law_said sc__law_said (fun g cdv => gives__law_said T hr g cdv _) T.l_law hgf hcf rfl hr (by decide) (by rfl) (by rfl) (by first | exact Or.inl rfl | exact Or.inr (Or.inl rfl) | exact Or.inr (Or.inr rfl)) (LamX.lamS_by (sc := defScope s_law) (by decide +kernel)) rfl (fun _ _ _ _ _ => rfl) (fun _ _ _ _ _ _ _ hr2 => (de_c (c_leak T) (rg_of hr2) (by decide) (L2.takes_of rfl rfl rfl rfl) (by rfl) (da_cons (de_ix (de_var 7) de_int) (da_cons (de_ix (de_var 7) de_int) (da_cons (de_ix (de_var 7) de_int) (da_cons (de_ix (de_var 7) de_int) da_nil))))))) da_nil)) sc_law.nd)
    (dss_cons (ds_expr (de_app 9 (de_saidC (k := 9) T.d__law_said sc__law_said (fun g cdv => gives__law_said T hr g cdv _) T.l_law hgf hcf rfl hr (by decide) (by rfl) (by rfl) (by first | exact Or.inl rfl | exact Or.inr (Or.inl rfl) | exact Or.inr (Or.inr rfl)) (LamX.lamS_by (sc := defScope s_law) (by decide +kernel)) rfl (fun _ _ _ _ _ => rfl) (fun _ _ _ _ _ _ _ hr2 => (de_c (c_leak T) (rg_of hr2) (by decide) (L2.takes_of rfl rfl rfl rfl) (by rfl) (da_cons (de_var 3) (da_cons (de_ix (de_var 7) de_int) (da_cons (de_ix (de_var 7) de_int) (da_cons (de_ix (de_var 7) de_int) da_nil)))))))))
    (dss_cons (ds_expr (de_app 9 (de_saidC (k := 9) T.d__law_said sc__law_said (fun g cdv => gives__law_said T hr g cdv _) T.l_law hgf hcf rfl hr (by decide) (by rfl) (by rfl) (by first | exact Or.inl rfl | exact Or.inr (Or.inl rfl) | exact Or.inr (Or.inr rfl)) (LamX.lamS_by (sc := defScope s_law) (by decide +kernel)) rfl (fun _ _ _ _ _ => rfl) (fun _ _ _ _ _ _ _ hr2 => (de_c (c_leak T) (rg_of hr2) (by decide) (L2.takes_of rfl rfl rfl rfl) (by rfl) (da_cons (de_var 3) (da_cons (de_var 4) (da_cons (de_ix (de_var 7) de_int) (da_cons (de_ix (de_var 7) de_int) da_nil)))))))))
    (dss_cons (ds_expr (de_app 9 (de_saidC (k := 9) T.d__law_said sc__law_said (fun g cdv => gives__law_said T hr g cdv _) T.l_law hgf hcf rfl hr (by decide) (by rfl) (by rfl) (by first | exact Or.inl rfl | exact Or.inr (Or.inl rfl) | exact Or.inr (Or.inr rfl)) (LamX.lamS_by (sc := defScope s_law) (by decide +kernel)) rfl (fun _ _ _ _ _ => rfl) (fun _ _ _ _ _ _ _ hr2 => (de_c (c_leak T) (rg_of hr2) (by decide) (L2.takes_of rfl rfl rfl rfl) (by rfl) (da_cons (de_var 3) (da_cons (de_var 4) (da_cons (de_var 5) (da_cons (de_ix (de_var 7) de_int) da_nil)))))))))
    (dss_cons (ds_if (dt_cmp (or_ne (ru64 hr)) od_ne (de_var 9) (de_lst (da_cons (de_tup (da_cons de_str da_nil)) (da_cons (de_tup (da_cons de_str da_nil)) (da_cons (de_tup (da_cons de_str da_nil)) (da_cons (de_tup (da_cons de_str da_nil)) da_nil)))))) (dss_one (ds_ret de_bl)) dss_nil)
    (dss_cons (ds_asg 9 (de_lst (da_cons (de_saidC (k := 9) T.d__law_said sc__law_said (fun g cdv => gives__law_said T hr g cdv _) T.l_law hgf hcf rfl hr (by decide) (by rfl) (by rfl) (by first | exact Or.inl rfl | exact Or.inr (Or.inl rfl) | exact Or.inr (Or.inr rfl)) (LamX.lamS_by (sc := defScope s_law) (by decide +kernel)) rfl (fun _ _ _ _ _ => rfl) (fun _ _ _ _ _ _ _ hr2 => (de_c (c_alike T) (rg_of hr2) (by decide) (L2.takes_of rfl rfl rfl rfl) (by rfl) (da_cons (de_ix (de_var 7) de_int) (da_cons (de_ix (de_var 7) de_int) (da_cons (de_ix (de_var 7) de_int) (da_cons (de_ix (de_var 7) de_int) da_nil))))))) da_nil)) sc_law.nd)
    (dss_cons (ds_expr (de_app 9 (de_saidC (k := 9) T.d__law_said sc__law_said (fun g cdv => gives__law_said T hr g cdv _) T.l_law hgf hcf rfl hr (by decide) (by rfl) (by rfl) (by first | exact Or.inl rfl | exact Or.inr (Or.inl rfl) | exact Or.inr (Or.inr rfl)) (LamX.lamS_by (sc := defScope s_law) (by decide +kernel)) rfl (fun _ _ _ _ _ => rfl) (fun _ _ _ _ _ _ _ hr2 => (de_c (c_alike T) (rg_of hr2) (by decide) (L2.takes_of rfl rfl rfl rfl) (by rfl) (da_cons (de_var 3) (da_cons (de_ix (de_var 7) de_int) (da_cons (de_ix (de_var 7) de_int) (da_cons (de_ix (de_var 7) de_int) da_nil)))))))))
    (dss_cons (ds_expr (de_app 9 (de_saidC (k := 9) T.d__law_said sc__law_said (fun g cdv => gives__law_said T hr g cdv _) T.l_law hgf hcf rfl hr (by decide) (by rfl) (by rfl) (by first | exact Or.inl rfl | exact Or.inr (Or.inl rfl) | exact Or.inr (Or.inr rfl)) (LamX.lamS_by (sc := defScope s_law) (by decide +kernel)) rfl (fun _ _ _ _ _ => rfl) (fun _ _ _ _ _ _ _ hr2 => (de_c (c_alike T) (rg_of hr2) (by decide) (L2.takes_of rfl rfl rfl rfl) (by rfl) (da_cons (de_var 3) (da_cons (de_var 4) (da_cons (de_ix (de_var 7) de_int) (da_cons (de_ix (de_var 7) de_int) da_nil)))))))))
    (dss_cons (ds_expr (de_app 9 (de_saidC (k := 9) T.d__law_said sc__law_said (fun g cdv => gives__law_said T hr g cdv _) T.l_law hgf hcf rfl hr (by decide) (by rfl) (by rfl) (by first | exact Or.inl rfl | exact Or.inr (Or.inl rfl) | exact Or.inr (Or.inr rfl)) (LamX.lamS_by (sc := defScope s_law) (by decide +kernel)) rfl (fun _ _ _ _ _ => rfl) (fun _ _ _ _ _ _ _ hr2 => (de_c (c_alike T) (rg_of hr2) (by decide) (L2.takes_of rfl rfl rfl rfl) (by rfl) (da_cons (de_var 3) (da_cons (de_var 4) (da_cons de_int (da_cons (de_ix (de_var 7) de_int) da_nil)))))))))
    (dss_one (ds_if (dt_w (dw_or (dt_cmp (or_ne (ru64 hr)) od_ne (de_var 9) (de_lst (da_cons (de_tup (da_cons de_str da_nil)) (da_cons (de_tup (da_cons de_str da_nil)) (da_cons (de_tup (da_cons de_str da_nil)) (da_cons (de_tup (da_cons de_str da_nil)) da_nil)))))) (dw_or1 (dt_cmp (or_ne (ru64 hr)) od_ne (de_cb (call_reprD (hr.gd rfl) (ru128 hr)) cd_repr (by rfl) T.b_repr bt_repr (da_cons (de_tup (da_cons (de_var 3) (da_cons (de_var 4) (da_cons (de_var 7) da_nil)))) da_nil)) (de_var 8))))) (dss_one (ds_ret de_bl)) dss_nil)))))))))))))))))))
    (dss_one (ds_ret de_bl)))
end
theorem exq0 {K : PySem.W.Frag} (h : ex K = true) : (noLst K) = true := by
  unfold ex at h
  simp only [Bool.and_eq_true] at h
  exact h.1
theorem exq1 {K : PySem.W.Frag} (h : ex K = true) : (glB K "BOTH" (.str (Str.ofString "both"))) = true := by
  unfold ex at h
  simp only [Bool.and_eq_true] at h
  exact h.2.1
theorem exq2 {K : PySem.W.Frag} (h : ex K = true) : (glB K "MOST_AMOUNT" (.int 50)) = true := by
  unfold ex at h
  simp only [Bool.and_eq_true] at h
  exact h.2.2.1
theorem exq3 {K : PySem.W.Frag} (h : ex K = true) : (glB K "MOST_ASKED" (.int 50)) = true := by
  unfold ex at h
  simp only [Bool.and_eq_true] at h
  exact h.2.2.2.1
theorem exq4 {K : PySem.W.Frag} (h : ex K = true) : (glB K "MOST_JOINTS" (.int 7)) = true := by
  unfold ex at h
  simp only [Bool.and_eq_true] at h
  exact h.2.2.2.2.1
theorem exq5 {K : PySem.W.Frag} (h : ex K = true) : (glB K "MOST_ON" (.int 4)) = true := by
  unfold ex at h
  simp only [Bool.and_eq_true] at h
  exact h.2.2.2.2.2.1
theorem exq6 {K : PySem.W.Frag} (h : ex K = true) : (glB K "MOST_PIPES" (.int 9)) = true := by
  unfold ex at h
  simp only [Bool.and_eq_true] at h
  exact h.2.2.2.2.2.2.1
theorem exq7 {K : PySem.W.Frag} (h : ex K = true) : (glB K "NOUGHT" (.tuple [(.int 0), (.int 1)])) = true := by
  unfold ex at h
  simp only [Bool.and_eq_true] at h
  exact h.2.2.2.2.2.2.2.1
theorem exq8 {K : PySem.W.Frag} (h : ex K = true) : (glB K "ON" (.str (Str.ofString "on"))) = true := by
  unfold ex at h
  simp only [Bool.and_eq_true] at h
  exact h.2.2.2.2.2.2.2.2.1
theorem exq9 {K : PySem.W.Frag} (h : ex K = true) : (glB K "PLACE" (.str (Str.ofString "place"))) = true := by
  unfold ex at h
  simp only [Bool.and_eq_true] at h
  exact h.2.2.2.2.2.2.2.2.2.1
theorem exq10 {K : PySem.W.Frag} (h : ex K = true) : (glB K "TANK" (.str (Str.ofString "tank"))) = true := by
  unfold ex at h
  simp only [Bool.and_eq_true] at h
  exact h.2.2.2.2.2.2.2.2.2.2.1
theorem exq11 {K : PySem.W.Frag} (h : ex K = true) : (dicB K "BOUNDS" dic_BOUNDS) = true := by
  unfold ex at h
  simp only [Bool.and_eq_true] at h
  exact h.2.2.2.2.2.2.2.2.2.2.2.1
theorem exq12 {K : PySem.W.Frag} (h : ex K = true) : (tabB K ["law"]) = true := by
  unfold ex at h
  simp only [Bool.and_eq_true] at h
  exact h.2.2.2.2.2.2.2.2.2.2.2.2.1
theorem exq13 {K : PySem.W.Frag} (h : ex K = true) : (errB K errs) = true := by
  unfold ex at h
  simp only [Bool.and_eq_true] at h
  exact h.2.2.2.2.2.2.2.2.2.2.2.2.2.1
theorem txt_of {w : World} {h base : Heap} {K : PySem.W.Frag} {mg : Str → Option Value} (X : K.In h) (G : h.Ns mainGlobals mg) (c : SaysX fa fn tabs tf ex w h K) (TB : ∀ p ∈ tf.map (cT K), LamX.TabB base mg p.1 p.2) : Txt w K mg base where
  d_is_whole := has_of X G c.t.d 0 0 rfl rfl fun _ _ _ _ _ _ us hl => match us, hl with | [_], _ => rfl
  d_common := has_of X G c.t.d 1 1 rfl rfl fun _ _ _ _ _ _ us hl => match us, hl with | [_, _], _ => rfl
  d_is_fraction := has_of X G c.t.d 2 2 rfl rfl fun _ _ _ _ _ _ us hl => match us, hl with | [_], _ => rfl
  d_is_number := has_of X G c.t.d 3 3 rfl rfl fun _ _ _ _ _ _ us hl => match us, hl with | [_, _, _], _ => rfl
  d_is_between := has_of X G c.t.d 4 4 rfl rfl fun _ _ _ _ _ _ us hl => match us, hl with | [_, _, _], _ => rfl
  d_is_place_joint := has_of X G c.t.d 5 5 rfl rfl fun _ _ _ _ _ _ us hl => match us, hl with | [_], _ => rfl
  d_is_joint := has_of X G c.t.d 6 6 rfl rfl fun _ _ _ _ _ _ us hl => match us, hl with | [_], _ => rfl
  d_is_pipe := has_of X G c.t.d 7 7 rfl rfl fun _ _ _ _ _ _ us hl => match us, hl with | [_, _], _ => rfl
  d_is_net := has_of X G c.t.d 8 8 rfl rfl fun _ _ _ _ _ _ us hl => match us, hl with | [_], _ => rfl
  d_need_net := has_of X G c.t.d 9 9 rfl rfl fun _ _ _ _ _ _ us hl => match us, hl with | [_], _ => rfl
  d_tanks_of := has_of X G c.t.d 10 10 rfl rfl fun _ _ _ _ _ _ us hl => match us, hl with | [_], _ => rfl
  d_is_pump := has_of X G c.t.d 11 11 rfl rfl fun _ _ _ _ _ _ us hl => match us, hl with | [_, _], _ => rfl
  d_can_shut := has_of X G c.t.d 12 12 rfl rfl fun _ _ _ _ _ _ us hl => match us, hl with | [_, _], _ => rfl
  d_are_rising := has_of X G c.t.d 13 13 rfl rfl fun _ _ _ _ _ _ us hl => match us, hl with | [_], _ => rfl
  d_are_asked := has_of X G c.t.d 14 14 rfl rfl fun _ _ _ _ _ _ us hl => match us, hl with | [_, _], _ => rfl
  d_are_levels_of := has_of X G c.t.d 15 15 rfl rfl fun _ _ _ _ _ _ us hl => match us, hl with | [_, _], _ => rfl
  d_are_shut := has_of X G c.t.d 16 16 rfl rfl fun _ _ _ _ _ _ us hl => match us, hl with | [_, _], _ => rfl
  d_is_case_of := has_of X G c.t.d 17 17 rfl rfl fun _ _ _ _ _ _ us hl => match us, hl with | [_, _], _ => rfl
  d_need_case := has_of X G c.t.d 18 18 rfl rfl fun _ _ _ _ _ _ us hl => match us, hl with | [_, _], _ => rfl
  d_need_both := has_of X G c.t.d 19 19 rfl rfl fun _ _ _ _ _ _ us hl => match us, hl with | [_, _], _ => rfl
  d_are_readings := has_of X G c.t.d 20 20 rfl rfl fun _ _ _ _ _ _ us hl => match us, hl with | [_, _], _ => rfl
  d_are_meters := has_of X G c.t.d 21 21 rfl rfl fun _ _ _ _ _ _ us hl => match us, hl with | [_, _], _ => rfl
  d_leak := has_of X G c.t.d 22 22 rfl rfl fun _ _ _ _ _ _ us hl => match us, hl with | [_, _, _, _], _ => rfl
  d_alike := has_of X G c.t.d 23 23 rfl rfl fun _ _ _ _ _ _ us hl => match us, hl with | [_, _, _, _], _ => rfl
  d__law_cell_at := has_of X G c.t.d 24 24 rfl rfl fun _ _ _ _ _ _ us hl => match us, hl with | [_, _], _ => rfl
  d__law_next := has_of X G c.t.d 25 25 rfl rfl fun _ _ _ _ _ _ us hl => match us, hl with | [_], _ => rfl
  d__law_pen_of := has_of X G c.t.d 26 26 rfl rfl fun _ _ _ _ _ _ us hl => match us, hl with | [_], _ => rfl
  d__law_draw := has_of X G c.t.d 27 27 rfl rfl fun _ _ _ _ _ _ us hl => match us, hl with | [_, _], _ => rfl
  d__law_low := has_of X G c.t.d 28 28 rfl rfl fun _ _ _ _ _ _ us hl => match us, hl with | [_, _], _ => rfl
  d__law_joint := has_of X G c.t.d 29 29 rfl rfl fun _ _ _ _ _ _ us hl => match us, hl with | [_], _ => rfl
  d__law_net := has_of X G c.t.d 30 30 rfl rfl fun _ _ _ _ _ _ us hl => match us, hl with | [_, _], _ => rfl
  d__law_case := has_of X G c.t.d 31 31 rfl rfl fun _ _ _ _ _ _ us hl => match us, hl with | [_, _], _ => rfl
  d__law_said := has_of X G c.t.d 32 32 rfl rfl fun _ _ _ _ _ _ us hl => match us, hl with | [_], _ => rfl
  d__law_wrong := has_of X G c.t.d 33 33 rfl rfl fun _ _ _ _ _ _ us hl => match us, hl with | [_, _, _], _ => rfl
  d_law := has_of X G c.t.d 34 34 rfl rfl fun _ _ _ _ _ _ us hl => match us, hl with | [_], _ => rfl
  b_ValueError := free_ok X G (c.t.d.fact 49 (f := .free "ValueError") rfl)
  b_abs := free_ok X G (c.t.d.fact 50 (f := .free "abs") rfl)
  b_all := free_ok X G (c.t.d.fact 51 (f := .free "all") rfl)
  b_bool := free_ok X G (c.t.d.fact 52 (f := .free "bool") rfl)
  b_enumerate := free_ok X G (c.t.d.fact 53 (f := .free "enumerate") rfl)
  b_int := free_ok X G (c.t.d.fact 54 (f := .free "int") rfl)
  b_isinstance := free_ok X G (c.t.d.fact 55 (f := .free "isinstance") rfl)
  b_len := free_ok X G (c.t.d.fact 56 (f := .free "len") rfl)
  b_list := free_ok X G (c.t.d.fact 57 (f := .free "list") rfl)
  b_max := free_ok X G (c.t.d.fact 58 (f := .free "max") rfl)
  b_min := free_ok X G (c.t.d.fact 59 (f := .free "min") rfl)
  b_range := free_ok X G (c.t.d.fact 60 (f := .free "range") rfl)
  b_repr := free_ok X G (c.t.d.fact 61 (f := .free "repr") rfl)
  b_str := free_ok X G (c.t.d.fact 62 (f := .free "str") rfl)
  b_tuple := free_ok X G (c.t.d.fact 63 (f := .free "tuple") rfl)
  b_zip := free_ok X G (c.t.d.fact 64 (f := .free "zip") rfl)
  x_NoAmount := clsX_ok X G (c.t.d.fact 36 (f := .glo "NoAmount") rfl) (c.t.d.fact 42 (f := .exc "NoAmount") rfl)
  x_NoCase := clsX_ok X G (c.t.d.fact 37 (f := .glo "NoCase") rfl) (c.t.d.fact 43 (f := .exc "NoCase") rfl)
  x_NoFraction := clsX_ok X G (c.t.d.fact 38 (f := .glo "NoFraction") rfl) (c.t.d.fact 44 (f := .exc "NoFraction") rfl)
  x_NoMeters := clsX_ok X G (c.t.d.fact 39 (f := .glo "NoMeters") rfl) (c.t.d.fact 45 (f := .exc "NoMeters") rfl)
  x_NoNet := clsX_ok X G (c.t.d.fact 40 (f := .glo "NoNet") rfl) (c.t.d.fact 46 (f := .exc "NoNet") rfl)
  x_NoReadings := clsX_ok X G (c.t.d.fact 41 (f := .glo "NoReadings") rfl) (c.t.d.fact 47 (f := .exc "NoReadings") rfl)
  g_BOTH := glB_ok X G (exq1 c.more)
  g_MOST_AMOUNT := glB_ok X G (exq2 c.more)
  g_MOST_ASKED := glB_ok X G (exq3 c.more)
  g_MOST_JOINTS := glB_ok X G (exq4 c.more)
  g_MOST_ON := glB_ok X G (exq5 c.more)
  g_MOST_PIPES := glB_ok X G (exq6 c.more)
  g_NOUGHT := glB_ok X G (exq7 c.more)
  g_ON := glB_ok X G (exq8 c.more)
  g_PLACE := glB_ok X G (exq9 c.more)
  g_TANK := glB_ok X G (exq10 c.more)
  k_BOUNDS := dicB_ok X G (c.t.d.fact 48 (f := .glo "BOUNDS") rfl) (c.t.tab 0) (exq11 c.more)
  er := errB_ok X G (exq13 c.more)
  cw := ⟨_, glo_ok X G (c.t.d.fact 35 (f := .glo "WaterError") rfl)⟩
  l_law := lamAt_of X G (exq12 c.more) (by decide) (c.t.d.fact 34 (f := .glo "law") rfl) (c.t.d.fact 65 (f := .code ("law", none) "law") rfl) (TB _ (List.mem_map.mpr ⟨("law", none), by decide, rfl⟩))
end K53
set_option Elab.async false
set_option linter.all false
set_option maxRecDepth 100000
set_option maxHeartbeats 4000000
namespace K53
open PySem PySem.Spec PyProof.Rows L2 DL He
structure Pen where
  a : Int
  b : Bool
  c : Int
def b2 (b : Bool) : Int := if b then 1 else 0
def penO (p : Pen) : Own := .lst [.int p.a, .int (b2 p.b), .int p.c]
def nx (i : Int) : Int := ((i + 7919).fmod 2147483647 * (i + 7919).fmod 2147483647 + 48271 * (i + 7919).fmod 2147483647 + 12345).fmod 2147483629
theorem next_eq (i : Int) : m__law_next [.val (.int i)] = M.ok (.val (.int (nx i)), [some (.val (.int i))]) := by
  have h0 : 0 ≤ (i + 7919).fmod 2147483647 := Int.fmod_nonneg_of_pos _ (by decide)
  have h1 : (i + 7919).fmod 2147483647 < 2147483647 := Int.fmod_lt_of_pos _ (by decide)
  have h2 := log_small h0 (by omega)
  have h3 : Nat.log2 48271 = 15 := by decide
  have h4 : ((i + 7919).fmod 2147483647).natAbs.log2 + ((i + 7919).fmod 2147483647).natAbs.log2 < 1000000 := by omega
  have h5 : 15 + ((i + 7919).fmod 2147483647).natAbs.log2 < 1000000 := by omega
  simp [m__law_next, f__law_next, h3, h4, h5, nx]
def drawR (p : Pen) (n : Int) : Int := if p.b = true ∧ 0 < p.a then p.a.fmod n else ((nx (nx p.c + 7)).fdiv 64).fmod n
def drawP (p : Pen) (n : Int) : Pen := if p.b = true ∧ 0 < p.a then ⟨p.a.fdiv n, p.b, p.c⟩ else ⟨p.a, p.b, nx (nx p.c + 7)⟩
theorem draw_eq (p : Pen) (n : Int) (h1 : 0 < n) (h2 : n < 18446744073709551616) : m__law_draw [.pen (penO p), .val (.int n)] = M.ok (.val (.int (drawR p n)), [some (.pen (penO (drawP p n))), some (.val (.int n))]) := by
  have h3 := log_small (by omega) h2
  have h4 : n.natAbs.log2 < 9000 := by omega
  have h5 : ¬ n = 0 := by omega
  have h6 : Nat.log2 64 = 6 := by decide
  obtain ⟨a, b, c⟩ := p
  cases b with
  | false => simp [m__law_draw, f__law_draw, penO, b2, drawR, drawP, next_eq, h3, h4, h5, h6, atI, ixN]
  | true =>
    by_cases ha : 0 < a
    · simp [m__law_draw, f__law_draw, penO, b2, drawR, drawP, next_eq, h3, h4, h5, h6, atI, ixN, ha]
    · simp [m__law_draw, f__law_draw, penO, b2, drawR, drawP, next_eq, h3, h4, h5, h6, atI, ixN, ha]
theorem drawR_lo (p : Pen) {n : Int} (h : 0 < n) : 0 ≤ drawR p n := by
  unfold drawR
  split <;> exact Int.fmod_nonneg_of_pos _ h
theorem drawR_hi (p : Pen) {n : Int} (h : 0 < n) : drawR p n < n := by
  unfold drawR
  split <;> exact Int.fmod_lt_of_pos _ h
/-- what is drawn for a joint -/
inductive JointP : PyData → Prop
  | source (h : Int) (h0 : 0 ≤ h) (h1 : h ≤ 200) : JointP (.tuple [.str "source", .int h])
  | tank (h a t : Int) (h0 : 0 ≤ h) (h1 : h ≤ 150) (h2 : 1 ≤ a) (h3 : a ≤ 50) (h4 : 1 ≤ t) (h5 : t ≤ 50) : JointP (.tuple [.str "tank", .int h, .int a, .int t])
  | place (h a t : Int) (h0 : 0 ≤ h) (h1 : h ≤ 100) (h2 : 0 ≤ a) (h3 : a ≤ t) (h4 : t ≤ 200) : JointP (.tuple [.str "place", .int h, .int a, .int t])
theorem joint_ok (p : Pen) : OkM (m__law_joint [.pen (penO p)]) fun r => ∃ d p', r = (.val d, [some (.pen (penO p'))]) ∧ JointP d := by
  have lo := fun p (n : Int) (h : 0 < n) => drawR_lo p h
  have hi := fun p (n : Int) (h : 0 < n) => drawR_hi p h
  by_cases h4 : drawR p 6 = 4
  · refine ⟨_, by simp [m__law_joint, f__law_joint, draw_eq, h4]; exact rfl, ?_⟩
    refine ⟨_, _, rfl, .source _ (lo _ _ (by decide)) ?_⟩
    have := hi (drawP p 6) 80 (by decide); omega
  · by_cases h5 : drawR p 6 = 5
    · refine ⟨_, by simp [m__law_joint, f__law_joint, draw_eq, h5]; exact rfl, ?_⟩
      refine ⟨_, _, rfl, .tank _ _ _ (lo _ _ (by decide)) ?_ ?_ ?_ ?_ ?_⟩
      · have := hi (drawP p 6) 60 (by decide); omega
      · have := lo (drawP (drawP p 6) 60) 9 (by decide); omega
      · have := hi (drawP (drawP p 6) 60) 9 (by decide); omega
      · have := lo (drawP (drawP (drawP p 6) 60) 9) 20 (by decide); omega
      · have := hi (drawP (drawP (drawP p 6) 60) 9) 20 (by decide); omega
    · refine ⟨_, by simp [m__law_joint, f__law_joint, draw_eq, beqF h4, beqF h5]; exact rfl, ?_⟩
      refine ⟨_, _, rfl, .place _ _ _ (lo _ _ (by decide)) ?_ (lo _ _ (by decide)) ?_ ?_⟩
      · have := hi (drawP (drawP p 6) 12) 40 (by decide); omega
      · have := lo (drawP (drawP (drawP p 6) 12) 40) 60 (by decide); omega
      · have := hi (drawP (drawP (drawP p 6) 12) 40) 60 (by decide)
        have := hi (drawP p 6) 12 (by decide)
        omega
/-- what is drawn for a pipe of n joints -/
structure PipeP (n : Nat) (d : PyData) : Prop where
  ex : ∃ (a b f l v : Int) (on g : Bool), d = .tuple [.int a, .int b, .int f, .str (if on then "on" else "both"), .int l, .bool g, .int v] ∧ 0 ≤ a ∧ a < n ∧ 0 ≤ b ∧ b < n ∧ a ≠ b ∧ 1 ≤ f ∧ f ≤ 20 ∧ 0 ≤ l ∧ l ≤ 50 ∧ (on = false → l = 0) ∧ 0 ≤ v ∧ v ≤ 20
def isOn (d : PyData) : Bool := match d with
  | .tuple [_, _, _, .str w, _, _, _] => w == "on"
  | _ => false
structure NetP (js ps : List PyData) : Prop where
  j : ∀ d ∈ js, JointP d
  j0 : 2 ≤ js.length
  j1 : js.length ≤ 7
  p : ∀ d ∈ ps, PipeP js.length d
  p0 : 1 ≤ ps.length
  p1 : ps.length ≤ 9
  on : ps.countP isOn ≤ 4
theorem rngL_mem {n : Nat} {lo : Int} {d : PyData} (h : d ∈ rngL lo n) : ∃ i, d = .int i := by
  induction n generalizing lo with
  | zero => cases h
  | succ n ih =>
    rcases List.mem_cons.mp h with rfl | h
    · exact ⟨_, rfl⟩
    · exact ih h
theorem fmod_small {a n : Int} (h0 : 0 ≤ a) (h1 : a < n) : a.fmod n = a := by
  rw [Int.fmod_eq_emod_of_nonneg _ (by omega)]
  exact Int.emod_eq_of_lt h0 h1
theorem fmod_step {a s n : Int} (h0 : 0 ≤ a) (h1 : a < n) (h2 : 1 ≤ s) (h3 : s < n) : 0 ≤ (a + s).fmod n ∧ (a + s).fmod n < n ∧ (a + s).fmod n ≠ a := by
  by_cases h : a + s < n
  · rw [fmod_small (by omega) h]; omega
  · have e : (a + s).fmod n = a + s - n := by
      rw [Int.fmod_eq_emod_of_nonneg _ (by omega), show a + s = (a + s - n) + n from by omega, Int.add_emod_right, Int.emod_eq_of_lt (by omega) (by omega)]
      omega
    rw [e]; omega
def net_u : FS := (seqF (parF 7 8 (callP m__law_draw (aCons (eVar 0) (aCons (eCB lenD (aCons (eVar 3) aNil)) aNil))) (e2 addD (eC (.int 1)) (callP m__law_draw (aCons (eVar 0) (aCons (e2 subD (eCB lenD (aCons (eVar 3) aNil)) (eC (.int 1))) aNil)))))
    (seqF (asgF 9 (eIf (tAndF (eT (e2 ltD (eVar 5) (eC (.int 4)))) (eT (e2 eqD (callP m__law_draw (aCons (eVar 0) (aCons (eC (.int 3)) aNil))) (eC (.int 0))))) (eC (.str (Str.ofString "on"))) (eC (.str (Str.ofString "both")))))
    (seqF (asgF 5 (e2 addD (eVar 5) (eCB intD (aCons (e2 eqD (eVar 9) (eC (.str (Str.ofString "on")))) aNil))))
    (seqF (asgF 10 (eIf (eT (e2 eqD (eVar 9) (eC (.str (Str.ofString "on"))))) (e2 mulD (callP m__law_draw (aCons (eVar 0) (aCons (eC (.int 30)) aNil))) (callP m__law_draw (aCons (eVar 0) (aCons (eC (.int 2)) aNil)))) (eC (.int 0))))
    (seqF (asgF 11 (eTup (aCons (eVar 7) (aCons (e2 modD (e2 addD (eVar 7) (eVar 8)) (eCB lenD (aCons (eVar 3) aNil))) (aCons (e2 addD (eC (.int 1)) (callP m__law_draw (aCons (eVar 0) (aCons (e2 ixD (eLst (aCons (eC (.int 4)) (aCons (eC (.int 20)) aNil))) (callP m__law_draw (aCons (eVar 0) (aCons (eC (.int 2)) aNil)))) aNil)))) aNil)))))
    (dropF (eApp 4 (e2 addD (eVar 11) (eTup (aCons (eVar 9) (aCons (eVar 10) (aCons (e2 eqD (callP m__law_draw (aCons (eVar 0) (aCons (eC (.int 2)) aNil))) (eC (.int 0))) (aCons (callP m__law_draw (aCons (eVar 0) (aCons (eC (.int 21)) aNil))) aNil)))))))))))))
def pipeEnv (p : Pen) (most : Int) (x : Own) (js ps : List PyData) (g : Nat) (t : EnvD) : EnvD := some (.pen (penO p)) :: some (.val (.int most)) :: some (.own x) :: some (.own (.lst js)) :: some (.own (.lst ps)) :: some (.val (.int g)) :: t
def Tail6 (t : EnvD) : Prop := t = [none, none, none, none, none, none] ∨ ∃ a b c d e f, t = [some (.val a), some (.val b), some (.val c), some (.val d), some (.val e), some (.val f)]
theorem two (p : Pen) : drawR p 2 = 0 ∨ drawR p 2 = 1 := by
  have := drawR_lo p (n := 2) (by decide)
  have := drawR_hi p (n := 2) (by decide)
  omega
theorem turn_ok (n : Nat) (p : Pen) (most : Int) (x : Own) (js ps : List PyData) (g : Nat) (t : EnvD) (d : PyData) (ht : Tail6 t) (hn : js.length = n) (h1 : 2 ≤ n) (h2 : n ≤ 7) (hp : ∀ d ∈ ps, PipeP n d) (hl : ps.length ≤ 8) (hg : ps.countP isOn = g) (hg4 : g ≤ 4) :
    OkM (forStep (gtName 6) net_u d (pipeEnv p most x js ps g t)) fun r => ∃ p' z g' t', r = .nx (pipeEnv p' most x js (ps ++ [z]) g' t') ∧ Tail6 t' ∧ PipeP n z ∧ (ps ++ [z]).countP isOn = g' ∧ g' ≤ 4 := by
  have lo := fun p (n : Int) (h : 0 < n) => drawR_lo p h
  have hi := fun p (n : Int) (h : 0 < n) => drawR_hi p h
  subst hn
  have ha := lo p js.length (by omega)
  have hb := hi p js.length (by omega)
  have hc := lo (drawP p js.length) (js.length - 1) (by omega)
  have hd := hi (drawP p js.length) (js.length - 1) (by omega)
  have he := fmod_step (a := drawR p js.length) (s := 1 + drawR (drawP p js.length) (js.length - 1)) (n := js.length) ha hb (by omega) (by omega)
  have e1 := draw_eq p js.length (by omega) (by omega)
  have e2 := draw_eq (drawP p js.length) (js.length - 1) (by omega) (by omega)
  have nz : ¬ js = [] := fun z => by subst z; simp at h1
  generalize hq : drawP (drawP p js.length) (js.length - 1) = q at *
  have big : ps.length < 100000 := by omega
  have fac : ∀ r n (m : Int), 0 < m → m ≤ 20 → n = m → 1 ≤ 1 + drawR r n ∧ 1 + drawR r n ≤ 20 := fun r n m h1 h2 h3 => by
    subst h3
    have := lo r n h1; have := hi r n h1; omega
  have sb : (Str.ofString "both" == Str.ofString "on") = false := by decide
  have sb' : ¬ (Str.ofString "both" = Str.ofString "on") := by decide
  have vol : ∀ r, 0 ≤ drawR r 21 ∧ drawR r 21 ≤ 20 := fun r => by
    have := lo r 21 (by decide); have := hi r 21 (by decide); omega
  by_cases hw : g < 4
  · have hw' : (g : Int) < 4 := by omega
    by_cases h3 : drawR q 3 = 0
    · have m1 := log_small (lo (drawP q 3) 30 (by decide)) (by have := hi (drawP q 3) 30 (by decide); omega)
      have m2 := log_small (lo (drawP (drawP q 3) 30) 2 (by decide)) (by have := hi (drawP (drawP q 3) 30) 2 (by decide); omega)
      have m3 : (drawR (drawP q 3) 30).natAbs.log2 + (drawR (drawP (drawP q 3) 30) 2).natAbs.log2 < 1000000 := by omega
      have lf : 0 ≤ drawR (drawP q 3) 30 * drawR (drawP (drawP q 3) 30) 2 ∧ drawR (drawP q 3) 30 * drawR (drawP (drawP q 3) 30) 2 ≤ 50 := by
        have x1 := lo (drawP q 3) 30 (by decide); have x2 := hi (drawP q 3) 30 (by decide)
        rcases two (drawP (drawP q 3) 30) with h | h <;> rw [h] <;> omega
      rcases two (drawP (drawP (drawP q 3) 30) 2) with t2 | t2 <;> rcases ht with rfl | ⟨_, _, _, _, _, _, rfl⟩ <;>
      · refine ⟨_, by simp [net_u, pipeEnv, e1, e2, draw_eq, hq, hw', h3, nz, m3, big, t2, atI, ixN]; exact rfl, ?_⟩
        refine ⟨_, _, g + 1, _, rfl, .inr ⟨_, _, _, _, _, _, rfl⟩, ⟨_, _, _, _, _, true, _, rfl, ha, hb, he.1, he.2.1, Ne.symm he.2.2, (fac _ _ _ (by decide) (by decide) rfl).1, (fac _ _ _ (by decide) (by decide) rfl).2, lf.1, lf.2, (fun z => nomatch z), (vol _).1, (vol _).2⟩, ?_, by omega⟩
        simp [List.countP_append, hg, isOn]
    · rcases two (drawP q 3) with t2 | t2 <;> rcases ht with rfl | ⟨_, _, _, _, _, _, rfl⟩ <;>
      · refine ⟨_, by simp [net_u, pipeEnv, e1, e2, draw_eq, hq, hw', beqF h3, nz, big, t2, sb, sb', atI, ixN]; exact rfl, ?_⟩
        refine ⟨_, _, g, _, rfl, .inr ⟨_, _, _, _, _, _, rfl⟩, ⟨_, _, _, _, _, false, _, rfl, ha, hb, he.1, he.2.1, Ne.symm he.2.2, (fac _ _ _ (by decide) (by decide) rfl).1, (fac _ _ _ (by decide) (by decide) rfl).2, by decide, by decide, (fun _ => rfl), (vol _).1, (vol _).2⟩, ?_, hg4⟩
        simp [List.countP_append, hg, isOn, sb]
  · have hw' : ¬ (g : Int) < 4 := by omega
    rcases two q with t2 | t2 <;> rcases ht with rfl | ⟨_, _, _, _, _, _, rfl⟩ <;>
    · refine ⟨_, by simp [net_u, pipeEnv, e1, e2, draw_eq, hq, hw', nz, big, t2, sb, sb', atI, ixN]; exact rfl, ?_⟩
      refine ⟨_, _, g, _, rfl, .inr ⟨_, _, _, _, _, _, rfl⟩, ⟨_, _, _, _, _, false, _, rfl, ha, hb, he.1, he.2.1, Ne.symm he.2.2, (fac _ _ _ (by decide) (by decide) rfl).1, (fac _ _ _ (by decide) (by decide) rfl).2, by decide, by decide, (fun _ => rfl), (vol _).1, (vol _).2⟩, ?_, hg4⟩
      simp [List.countP_append, hg, isOn, sb]
theorem net_ok (p : Pen) (most : Int) (h1 : 2 ≤ most) (h2 : most ≤ 7) : OkM (m__law_net [.pen (penO p), .val (.int most)]) fun r => ∃ js ps p', r = (.val (.tuple [.tuple js, .tuple ps]), [some (.pen (penO p')), some (.val (.int most))]) ∧ NetP js ps := by
  have lo := fun p (n : Int) (h : 0 < n) => drawR_lo p h
  have hi := fun p (n : Int) (h : 0 < n) => drawR_hi p h
  refine ok_body rfl ?_
  unfold f__law_net
  refine ok_seq ⟨_, by simp [draw_eq]; exact rfl, _, rfl, ?_⟩
  refine ok_seq (ok_asg ?_)
  rw [s_e2]
  refine ok_bind (P := fun r => ∃ d p1 x, r = (.own (.lst [d]), [some (.pen (penO p1)), some (.val (.int most)), some (.own x), none, none, none, none, none, none, none, none, none]) ∧ JointP d) ?_ fun r hr => ?_
  · have hc : drawR (drawP (drawP (drawP p 60) 60) 9) 2 = 0 ∨ drawR (drawP (drawP (drawP p 60) 60) 9) 2 = 1 := by
      have a := lo (drawP (drawP (drawP p 60) 60) 9) 2 (by decide)
      have b := hi (drawP (drawP (drawP p 60) 60) 9) 2 (by decide)
      omega
    rcases hc with hc | hc
    · refine ⟨_, by simp [draw_eq, hc, atI, ixN]; exact rfl, ?_⟩
      refine ⟨_, _, _, rfl, .source _ ?_ ?_⟩
      · have := lo p 60 (by decide); omega
      · have := hi p 60 (by decide); omega
    · refine ⟨_, by simp [draw_eq, hc, atI, ixN]; exact rfl, ?_⟩
      refine ⟨_, _, _, rfl, .tank _ _ _ ?_ ?_ ?_ ?_ (by decide) (by decide)⟩
      · have := lo (drawP p 60) 60 (by decide); omega
      · have := hi (drawP p 60) 60 (by decide); omega
      · have := lo (drawP (drawP p 60) 60) 9 (by decide); omega
      · have := hi (drawP (drawP p 60) 60) 9 (by decide); omega
  obtain ⟨d0, p1, x, rfl, hd0⟩ := hr
  have b1 := lo p1 (most - 1) (by omega)
  have b2 := hi p1 (most - 1) (by omega)
  refine ok_bind (P := fun r => ∃ js p2, r = (.own (.lst js), [some (.pen (penO p2)), some (.val (.int most)), some (.own x), none, none, none, none, none, none, none, none, none]) ∧ (∀ d ∈ js, JointP d) ∧ js.length = (1 + drawR p1 (most - 1)).toNat) ?_ fun r hr => ?_
  · rw [s_lcF]
    refine ok_bind (P := fun r => r = (rngL 0 (1 + drawR p1 (most - 1)).toNat, [some (.pen (penO (drawP p1 (most - 1)))), some (.val (.int most)), some (.own x), none, none, none, none, none, none, none, none, none])) ⟨_, by simp [draw_eq p1 (most - 1) (by omega) (by omega), smallI_ok (i := 1 + drawR p1 (most - 1)) (by omega) (by omega)], rfl⟩ fun r hr => ?_
    subst hr
    obtain ⟨out, env', e, ⟨p', rfl⟩, hall, hlen⟩ := lcL_inv (gt := gtName 6) (ft := yesF) (fe := callP m__law_joint (aCons (eVar 0) aNil)) (vs := [6]) (Inv := fun env => ∃ p', env = [some (.pen (penO p')), some (.val (.int most)), some (.own x), none, none, none, none, none, none, none, none, none]) (Pd := JointP) (ds := rngL 0 (1 + drawR p1 (most - 1)).toNat) (acc := [])
      (env := wipeD [some (.pen (penO (drawP p1 (most - 1)))), some (.val (.int most)), some (.own x), none, none, none, none, none, none, none, none, none] [6]) (fun d hd env ⟨p', he⟩ => by
        subst he
        obtain ⟨_, hj, d', p'', rfl, hd'⟩ := joint_ok p'
        exact ⟨d', _, by simp [hj], hd', p'', rfl⟩) ⟨_, by simp; exact rfl⟩ (fun x hx => by cases hx) (by rw [rngL_len]; simp; omega)
    dsimp only
    rw [e]
    exact ok_ok ⟨out, p', rfl, hall, by rw [hlen, rngL_len]; simp⟩
  obtain ⟨js, p2, rfl, hjs, hlen⟩ := hr
  have hl : js.length ≤ 6 := by omega
  have hl1 : 1 ≤ js.length := by omega
  have big1 : 1 + js.length ≤ 100000 := by omega
  refine ⟨_, by simp [big1]; exact rfl, ?_⟩
  refine ⟨_, _, rfl, rfl, _, rfl, ?_⟩
  refine ok_seq ⟨_, by simp; exact rfl, _, rfl, ?_⟩
  refine ok_seq ?_
  rw [s_forF]
  refine ok_bind (P := fun r => ∃ m p3, r = (rngL 0 m, pipeEnv p3 most x (d0 :: js) [] 0 [none, none, none, none, none, none]) ∧ 1 ≤ m ∧ m ≤ 9) ?_ fun r hr => ?_
  · by_cases hc : (js.length : Int) + 1 + 3 < 9
    · have a1 := lo p2 (js.length + 1 + 3) (by omega)
      have a2 := hi p2 (js.length + 1 + 3) (by omega)
      refine ⟨_, by simp [hc, draw_eq p2 (js.length + 1 + 3) (by omega) (by omega), smallI_ok (i := 1 + drawR p2 (js.length + 1 + 3)) (by omega) (by omega)]; exact rfl, ?_⟩
      exact ⟨_, _, rfl, by omega, by omega⟩
    · have a1 := lo p2 9 (by omega)
      have a2 := hi p2 9 (by omega)
      refine ⟨_, by simp [hc, draw_eq p2 9 (by omega) (by omega), smallI_ok (i := 1 + drawR p2 9) (by omega) (by omega)]; exact rfl, ?_⟩
      exact ⟨_, _, rfl, by omega, by omega⟩
  obtain ⟨m, p3, rfl, hm1, hm2⟩ := hr
  obtain ⟨env', e, p4, ps, g, t, rfl, hlp, ht, hps, hg, hg4⟩ := forL_inv (gt := gtName 6) (u := net_u) (ds := rngL 0 m) (k := 0) (env := pipeEnv p3 most x (d0 :: js) [] 0 [none, none, none, none, none, none])
    (Inv := fun k env => ∃ p ps g t, env = pipeEnv p most x (d0 :: js) ps g t ∧ ps.length = k ∧ Tail6 t ∧ (∀ d ∈ ps, PipeP (d0 :: js).length d) ∧ ps.countP isOn = g ∧ g ≤ 4) (fun j d hd env ⟨p, ps, g, t, he, hk, ht, hp, hg, hg4⟩ => by
      subst he
      have hj : j < m := by
        have := (List.getElem?_eq_some_iff.mp hd).1
        rwa [rngL_len] at this
      obtain ⟨_, e1, p', z, g', t', rfl, ht', hz, hg', hg4'⟩ := turn_ok (d0 :: js).length p most x (d0 :: js) ps g t d ht rfl (by simp; omega) (by simp; omega) hp (by omega) hg hg4
      refine ⟨_, e1, p', _, g', t', rfl, by rw [List.length_append, hk]; rfl, ht', fun y hy => ?_, hg', hg4'⟩
      rcases List.mem_append.mp hy with hy | hy
      · exact hp y hy
      · rw [List.mem_singleton.mp hy]; exact hz)
    ⟨_, [], 0, _, rfl, rfl, .inl rfl, (fun x hx => by cases hx), rfl, by decide⟩
  rw [rngL_len] at hlp
  refine ⟨.nx _, e, _, rfl, ?_⟩
  have jb : (d0 :: js).length ≤ 100000 := by simp; omega
  refine ⟨_, by simp [pipeEnv]; exact rfl, ?_⟩
  refine ⟨_, by simp [pipeEnv], d0 :: js, ps, p4, rfl, fun d hd => ?_, by simp; omega, by simp; omega, hps, by omega, by omega, by omega⟩
  rcases List.mem_cons.mp hd with rfl | hd
  · exact hd0
  · exact hjs d hd
end K53
set_option Elab.async false
set_option linter.all false
set_option maxRecDepth 100000
set_option maxHeartbeats 4000000
namespace K53
open PySem PySem.Spec PyProof.Rows L2 DL He
def isI (d : PyData) : Bool := match d with
  | .int _ => true
  | _ => false
theorem is_whole_eq (d : PyData) : m_is_whole [.val d] = M.ok (.val (.bool (isI d)), [some (.val d)]) := by
  cases d <;> simp [m_is_whole, f_is_whole, isiB, isI]
def numB (d : PyData) (lo hi : Int) : Bool := match d with
  | .int i => decide (lo ≤ i) && decide (i ≤ hi)
  | _ => false
theorem is_number_eq (d : PyData) (lo hi : Int) : m_is_number [.val d, .val (.int lo), .val (.int hi)] = M.ok (.val (.bool (numB d lo hi)), [some (.val d), some (.val (.int lo)), some (.val (.int hi))]) := by
  cases d with
  | int i =>
    by_cases h1 : lo ≤ i <;> by_cases h2 : i ≤ hi <;> simp [m_is_number, f_is_number, is_whole_eq, isI, numB, h1, h2]
  | _ => simp [m_is_number, f_is_number, is_whole_eq, isI, numB]
theorem is_place_eq (h a t : Int) (w : Str) : m_is_place_joint [.val (.tuple [.str w, .int h, .int a, .int t])] = M.ok (.val (.bool (numB (.int h) 0 100 && (numB (.int t) 0 200 && numB (.int a) 0 t))), [some (.val (.tuple [.str w, .int h, .int a, .int t]))]) := by
  by_cases h1 : numB (.int h) 0 100 = true <;> by_cases h2 : numB (.int t) 0 200 = true <;> simp [m_is_place_joint, f_is_place_joint, is_number_eq, h1, h2]
theorem strOk_source : PyData.canLay0 (.str (Str.ofString "source")) = true := by decide +kernel
theorem strOk_tank : PyData.canLay0 (.str (Str.ofString "tank")) = true := by decide +kernel
theorem strOk_place : PyData.canLay0 (.str (Str.ofString "place")) = true := by decide +kernel
theorem eqT {a b : PyData} (ha : SeqAt.shaped a = true) (hb : SeqAt.shaped b = true) : eqD a b = some (.val (.bool (PyData.eqv a b))) := by
  unfold eqD
  rw [if_pos (.inl ⟨ha, hb⟩)] <;> rfl
theorem neT {a b : PyData} (ha : SeqAt.shaped a = true) (hb : SeqAt.shaped b = true) : neD a b = some (.val (.bool (!PyData.eqv a b))) := by
  unfold neD
  rw [if_pos (.inl ⟨ha, hb⟩)] <;> rfl
theorem joint_sh {d : PyData} (h : JointP d) : SeqAt.shaped d = true := by
  cases h <;> simp [SeqAt.shaped, PyData.canLay0, PyData.canLayAll0, PyData.depth, PyData.depthAll] <;> decide +kernel
theorem nil_sh : SeqAt.shaped (.tuple []) = true := by decide
theorem joint_is (d : PyData) (h : JointP d) : m_is_joint [.val d] = M.ok (.val (.bool true), [some (.val d)]) := by
  have sh := joint_sh h
  have n1 : (Str.ofString "source" == Str.ofString "place") = false := by decide
  have n2 : (Str.ofString "tank" == Str.ofString "place") = false := by decide
  have k1 : lookS (Str.ofString "source") dic_BOUNDS = some (.tuple [.tuple [.int 0, .int 200]]) := by simp [lookS, dic_BOUNDS]
  have k2 : lookS (Str.ofString "tank") dic_BOUNDS = some (.tuple [.tuple [.int 0, .int 150], .tuple [.int 1, .int 50], .tuple [.int 1, .int 50]]) := by
    have z : ¬ Str.ofString "source" = Str.ofString "tank" := by decide
    simp [lookS, dic_BOUNDS, z]
  cases h with
  | source h h0 h1 =>
    simp [m_is_joint, f_is_joint, isiB, atI, ixN, eqT sh nil_sh, PyData.eqv, PyData.eqvAll, n1, eKGet, kgetD, k1, DL.isNon, DL.cutD, HT.sIx, pairL, lcL_step, is_number_eq, numB, boolsOf, asBool, *]
  | tank h a t h0 h1 h2 h3 h4 h5 =>
    simp [m_is_joint, f_is_joint, isiB, atI, ixN, eqT sh nil_sh, PyData.eqv, PyData.eqvAll, n2, eKGet, kgetD, k2, DL.isNon, DL.cutD, HT.sIx, pairL, lcL_step, is_number_eq, numB, boolsOf, asBool, *]
  | place h a t h0 h1 h2 h3 h4 =>
    simp [m_is_joint, f_is_joint, isiB, atI, ixN, eqT sh nil_sh, PyData.eqv, PyData.eqvAll, is_place_eq, numB]
    omega
theorem on_sh : SeqAt.shaped (.str (Str.ofString "on")) = true := by decide +kernel
theorem both_sh : SeqAt.shaped (.str (Str.ofString "both")) = true := by decide +kernel
theorem both_on_sh : SeqAt.shaped (.list [.str (Str.ofString "both"), .str (Str.ofString "on")]) = true := by decide +kernel
theorem nin_on : ninD (.str (Str.ofString "on")) (.tuple [.str (Str.ofString "both"), .str (Str.ofString "on")]) = some (.val (.bool false)) := by
  unfold ninD
  simp only [s_so2]
  rw [if_pos ⟨on_sh, both_on_sh⟩]
  simp [PyData.eqv]
theorem nin_both : ninD (.str (Str.ofString "both")) (.tuple [.str (Str.ofString "both"), .str (Str.ofString "on")]) = some (.val (.bool false)) := by
  unfold ninD
  simp only [s_so2]
  rw [if_pos ⟨both_sh, both_on_sh⟩]
  simp [PyData.eqv]
theorem pipe_is (n : Nat) (d : PyData) (h : PipeP n d) : m_is_pipe [.val (.int n), .val d] = M.ok (.val (.bool true), [some (.val (.int n)), some (.val d)]) := by
  obtain ⟨a, b, f, l, v, on, g, rfl, ha, hb, ha', hb', hne, hf, hf', hl, hl', hon, hv, hv'⟩ := h.ex
  have n1 : (Str.ofString "both" == Str.ofString "on") = false := by decide
  have n2 : ¬ Str.ofString "both" = Str.ofString "on" := by decide
  have q1 : a ≤ (n : Int) - 1 := by omega
  have q2 : b ≤ (n : Int) - 1 := by omega
  cases on with
  | true => simp [m_is_pipe, f_is_pipe, isiB, is_number_eq, numB, ha, ha', q1, q2, beqF hne, hf, hf', hl, hl', hv, hv', nin_on]
  | false =>
    have := hon rfl
    subst this
    simp [m_is_pipe, f_is_pipe, isiB, is_number_eq, numB, ha, ha', q1, q2, beqF hne, hf, hf', hv, hv', nin_both, n1, n2]
def netD (js ps : List PyData) : PyData := .tuple [.tuple js, .tuple ps]
theorem net_is (js ps : List PyData) (h : NetP js ps) : m_is_net [.val (netD js ps)] = M.ok (.val (.bool true), [some (.val (netD js ps))]) := by
  obtain ⟨hj, j0, j1, hp, p0, p1, hon⟩ := h
  have i0 : (2 : Int) ≤ js.length := by omega
  have i1 : (js.length : Int) ≤ 7 := by omega
  have i2 : (1 : Int) ≤ ps.length := by omega
  have i3 : (ps.length : Int) ≤ 9 := by omega
  have x1 : lcL (gtName 4) yesF (callV m_is_joint [] (aCons (eVar 4) aNil)) [4] js [] [some (.val (netD js ps)), some (.val (.tuple js)), some (.val (.tuple ps)), none, none, none] = some (.ok (js.map fun _ => .bool true, [some (.val (netD js ps)), some (.val (.tuple js)), some (.val (.tuple ps)), none, none, none])) :=
    lcL_map (fun d hd => by simp [joint_is d (hj d hd)]) (by simp; omega)
  have x2 : lcL (gtName 5) yesF (callV m_is_pipe [] (aCons (eCB lenD (aCons (eVar 1) aNil)) (aCons (eVar 5) aNil))) [5] ps [] [some (.val (netD js ps)), some (.val (.tuple js)), some (.val (.tuple ps)), none, none, none] = some (.ok (ps.map fun _ => .bool true, [some (.val (netD js ps)), some (.val (.tuple js)), some (.val (.tuple ps)), none, none, none])) :=
    lcL_map (fun d hd => by simp [pipe_is js.length d (hp d hd)]) (by simp; omega)
  have n1 : (Str.ofString "both" == Str.ofString "on") = false := by decide
  have x3 : lcL (gtName 5) (eT (e2 eqD (e2 ixD (eVar 5) (eC (.int 3))) (eC (.str (Str.ofString "on"))))) (eVar 5) [5] ps [] [some (.val (netD js ps)), some (.val (.tuple js)), some (.val (.tuple ps)), none, none, none] = some (.ok (ps.filter isOn, [some (.val (netD js ps)), some (.val (.tuple js)), some (.val (.tuple ps)), none, none, none])) :=
    lcL_filt (fun d hd => by
      obtain ⟨a, b, f, l, v, on, g, rfl, _⟩ := (hp d hd).ex
      cases on <;> simp [atI, ixN, isOn, n1]) (by simp; omega)
  have hl : ((ps.filter isOn).length : Int) ≤ 4 := by rw [← List.countP_eq_length_filter]; omega
  have b1 : ∀ l : List PyData, boolsOf (l.map fun _ => PyData.bool true) = some (l.map fun _ => true) := fun l => boolsOf_map
  unfold netD at *
  simp [m_is_net, f_is_net, isiB, lcL_step, boolsOf, asBool, x1, x2, x3, i0, i1, i2, i3, hl, b1]
end K53
set_option Elab.async false
set_option linter.all false
set_option maxRecDepth 100000
set_option maxHeartbeats 4000000
namespace K53
open PySem PySem.Spec PyProof.Rows L2 DL He
theorem fmodN (a b : Nat) : ((a : Int).fmod b) = ((a % b : Nat) : Int) := by
  rw [Int.fmod_eq_emod_of_nonneg _ (by omega)]
  rfl
theorem fdivN (a : Int) (b : Nat) : (a.fdiv b) = a / (b : Int) := Int.fdiv_eq_ediv_of_nonneg _ (by omega)
theorem gcd_step (a b : Nat) : Nat.gcd a b = Nat.gcd b (a % b) := by
  rw [Nat.gcd_comm a b, Nat.gcd_rec b a, Nat.gcd_comm]
theorem comm_loop : ∀ (m a b : Nat), b < m → whileN (eT (e2 neD (eVar 1) (eC (.int 0)))) (parF 0 1 (eVar 1) (e2 modD (eVar 0) (eVar 1))) m [some (.val (.int a)), some (.val (.int b))] = M.ok (.nx [some (.val (.int (Nat.gcd a b))), some (.val (.int 0))])
  | 0, a, b, h => by omega
  | m + 1, a, b, h => by
    unfold whileN
    by_cases hb : b = 0
    · subst hb
      simp
    · have hz : ¬ (b : Int) = 0 := by omega
      have ih := comm_loop m b (a % b) (by have := Nat.mod_lt a (Nat.pos_of_ne_zero hb); omega)
      rw [gcd_step a b]
      simp [beqF hz, hb, fmodN]
      exact ih
theorem common_eq (a b : Int) : m_common [.val (.int a), .val (.int b)] = M.ok (.val (.int (Nat.gcd a.natAbs b.natAbs)), [some (.val (.int a)), some (.val (.int b))]) := by
  have ab : ∀ x : Int, (if x < 0 then -x else x) = (x.natAbs : Int) := fun x => by split <;> omega
  have l := comm_loop (b.natAbs + 1) a.natAbs b.natAbs (by omega)
  simp [m_common, f_common, ab, whileF, muI, l]
/-- a fraction in lowest terms -/
def fracB (d : PyData) : Bool := match d with
  | .tuple [.int a, .int b] => decide (0 < b) && decide (Nat.gcd a.natAbs b.natAbs = 1)
  | _ => false
theorem frac_eq (a b : Int) : m_is_fraction [.val (.tuple [.int a, .int b])] = M.ok (.val (.bool (fracB (.tuple [.int a, .int b]))), [some (.val (.tuple [.int a, .int b]))]) := by
  by_cases hb : 0 < b
  · simp [m_is_fraction, f_is_fraction, isiB, lcL_step, is_whole_eq, isI, boolsOf, asBool, atI, ixN, common_eq, fracB, hb]
    rw [Bool.eq_iff_iff]
    simp
    omega
  · simp [m_is_fraction, f_is_fraction, isiB, lcL_step, is_whole_eq, isI, boolsOf, asBool, atI, ixN, common_eq, fracB, hb]
theorem low_loop : ∀ (m a b : Nat) (t u : Int), b < m → whileN (eT (e2 neD (eVar 3) (eC (.int 0)))) (parF 2 3 (eVar 3) (e2 modD (eVar 2) (eVar 3))) m [some (.val (.int t)), some (.val (.int u)), some (.val (.int a)), some (.val (.int b))] = M.ok (.nx [some (.val (.int t)), some (.val (.int u)), some (.val (.int (Nat.gcd a b))), some (.val (.int 0))])
  | 0, a, b, t, u, h => by omega
  | m + 1, a, b, t, u, h => by
    unfold whileN
    by_cases hb : b = 0
    · subst hb
      simp
    · have hz : ¬ (b : Int) = 0 := by omega
      have ih := low_loop m b (a % b) t u (by have := Nat.mod_lt a (Nat.pos_of_ne_zero hb); omega)
      rw [gcd_step a b]
      simp [beqF hz, hb, fmodN]
      exact ih
def lowD (a b : Nat) : PyData := .tuple [.int ((a / Nat.gcd a b : Nat) : Int), .int ((b / Nat.gcd a b : Nat) : Int)]
theorem low_eq (a b : Nat) (h1 : 0 < b) (h2 : b < 1000) : m__law_low [.val (.int a), .val (.int b)] = M.ok (.val (lowD a b), [some (.val (.int a)), some (.val (.int b))]) := by
  have g0 : 0 < Nat.gcd a b := Nat.gcd_pos_of_pos_right _ h1
  have g1 : Nat.gcd a b ≤ b := Nat.le_of_dvd h1 (Nat.gcd_dvd_right a b)
  have ab : (if (a : Int) < 0 then -(a : Int) else (a : Int)) = (a : Int) := by split <;> omega
  have l := low_loop (b + 1) a b a b (by omega)
  have lg : (Nat.gcd a b).log2 < 9000 := by
    have := log_small (j := (Nat.gcd a b : Nat)) (by omega) (by omega)
    simp at this
    omega
  have gz : ¬ Nat.gcd a b = 0 := by omega
  have gz' : ¬ (a = 0 ∧ b = 0) := by omega
  simp [m__law_low, f__law_low, ab, whileF, muI, l, lg, gz, gz', fdivN, lowD]
theorem low_frac (a b : Nat) (h1 : 0 < b) : fracB (lowD a b) = true := by
  have g0 : 0 < Nat.gcd a b := Nat.gcd_pos_of_pos_right _ h1
  have d0 : 0 < b / Nat.gcd a b := Nat.div_pos (Nat.le_of_dvd h1 (Nat.gcd_dvd_right a b)) g0
  have e : Nat.gcd (a / Nat.gcd a b) (b / Nat.gcd a b) = 1 := by
    have e1 := Nat.gcd_mul_left (Nat.gcd a b) (a / Nat.gcd a b) (b / Nat.gcd a b)
    rw [Nat.mul_div_cancel' (Nat.gcd_dvd_left a b), Nat.mul_div_cancel' (Nat.gcd_dvd_right a b)] at e1
    have e2 : Nat.gcd a b * 1 = Nat.gcd a b * Nat.gcd (a / Nat.gcd a b) (b / Nat.gcd a b) := by rw [Nat.mul_one]; exact e1
    exact (Nat.eq_of_mul_eq_mul_left g0 e2).symm
  simp only [fracB, lowD, Int.natAbs_natCast, Bool.and_eq_true, decide_eq_true_eq]
  exact ⟨by omega, e⟩
/-- a fraction from 0 to n -/
structure BetP (n : Nat) (d : PyData) : Prop where
  ex : ∃ a b : Nat, d = .tuple [.int a, .int b] ∧ fracB d = true ∧ a ≤ n * b ∧ b < 1000
theorem low_bet (a b n : Nat) (h1 : 0 < b) (h2 : b < 1000) (h : a ≤ n * b) : BetP n (lowD a b) := by
  refine ⟨_, _, rfl, low_frac a b h1, ?_, ?_⟩
  · have g0 : 0 < Nat.gcd a b := Nat.gcd_pos_of_pos_right _ h1
    have ea := Nat.mul_div_cancel' (Nat.gcd_dvd_left a b)
    have eb := Nat.mul_div_cancel' (Nat.gcd_dvd_right a b)
    apply Nat.le_of_mul_le_mul_left _ g0
    rw [ea, Nat.mul_left_comm, eb]
    exact h
  · exact Nat.lt_of_le_of_lt (Nat.div_le_self _ _) h2
theorem nought_bet (n : Nat) : BetP n (.tuple [.int 0, .int 1]) := ⟨0, 1, rfl, by decide, by omega, by omega⟩
theorem between_eq (n : Nat) (hn : n < 1000) (d : PyData) (h : BetP n d) : m_is_between [.val d, .val (.int 0), .val (.int n)] = M.ok (.val (.bool true), [some (.val d), some (.val (.int 0)), some (.val (.int n))]) := by
  obtain ⟨a, b, rfl, hf, hl, hb⟩ := h.ex
  have l1 : Nat.log2 n + Nat.log2 b < 1000000 := by
    have x := log_small (j := (n : Nat)) (by omega) (by omega)
    have y := log_small (j := (b : Nat)) (by omega) (by omega)
    simp at x y
    omega
  have l2 : Nat.log2 b < 1000000 := by omega
  have hl' : (a : Int) ≤ n * b := by exact_mod_cast hl
  simp [m_is_between, f_is_between, frac_eq, hf, atI, ixN, l1, l2, hl']
end K53
set_option Elab.async false
set_option linter.all false
set_option maxRecDepth 100000
set_option maxHeartbeats 4000000
namespace K53
open PySem PySem.Spec PyProof.Rows L2 DL He
def case_u : FS := (seqF (asgF 5 (callV m__law_low [] (aCons (callP m__law_draw (aCons (eVar 0) (aCons (eC (.int 7)) aNil))) (aCons (e2 addD (eC (.int 1)) (callP m__law_draw (aCons (eVar 0) (aCons (e2 ixD (eLst (aCons (eC (.int 1)) (aCons (eC (.int 3)) aNil))) (callP m__law_draw (aCons (eVar 0) (aCons (eC (.int 2)) aNil)))) aNil)))) aNil))))
    (seqF (dropF (eApp 2 (eIf (tAndF (eT (e2 eqD (e2 ixD (eVar 4) (eC (.int 0))) (eC (.str (Str.ofString "place"))))) (eT (e2 gtD (callP m__law_draw (aCons (eVar 0) (aCons (eC (.int 4)) aNil))) (eC (.int 0))))) (eVar 5) (eTup (aCons (eC (.int 0)) (aCons (eC (.int 1)) aNil))))))
    (ifF (eT (e2 eqD (e2 ixD (eVar 4) (eC (.int 0))) (eC (.str (Str.ofString "tank"))))) (dropF (eApp 3 (callV m__law_low [] (aCons (callP m__law_draw (aCons (eVar 0) (aCons (e2 addD (e2 mulD (eC (.int 2)) (e2 ixD (eVar 4) (eC (.int 3)))) (eC (.int 1))) aNil))) (aCons (eC (.int 2)) aNil))))) nilF)))
def isTank (d : PyData) : Bool := match d with
  | .tuple (.str w :: _) => w == "tank"
  | _ => false
def isPlace (d : PyData) : Bool := match d with
  | .tuple (.str w :: _) => w == "place"
  | _ => false
def topOf (d : PyData) : Nat := match d with
  | .tuple [_, _, _, .int t] => t.toNat
  | _ => 0
def nought : PyData := .tuple [.int 0, .int 1]
structure AskP (j a : PyData) : Prop where
  bet : BetP 50 a
  pl : a = nought ∨ isPlace j = true
def caseEnv (p : Pen) (net : PyData) (as ls : List PyData) (t : EnvD) : EnvD := some (.pen (penO p)) :: some (.val net) :: some (.own (.lst as)) :: some (.own (.lst ls)) :: t
def Tail5 (t : EnvD) : Prop := t = [none, none, none, none, none] ∨ ∃ a b, t = [some (.val a), some (.val b), none, none, none]
theorem drawR_nat (p : Pen) (n : Nat) (h : 0 < n) : ∃ r : Nat, drawR p n = r ∧ r < n := by
  have a := drawR_lo p (n := n) (by omega)
  have b := drawR_hi p (n := n) (by omega)
  exact ⟨(drawR p n).toNat, by omega, by omega⟩
theorem case_turn (p : Pen) (net : PyData) (as ls : List PyData) (t : EnvD) (d : PyData) (hd : JointP d) (ht : Tail5 t) (ha : as.length ≤ 1000) (hl : ls.length ≤ 1000) :
    OkM (forStep (gtName 4) case_u d (caseEnv p net as ls t)) fun r => ∃ p' a lz t', r = .nx (caseEnv p' net (as ++ [a]) (ls ++ lz) t') ∧ Tail5 t' ∧ AskP d a ∧ (isTank d = false → lz = []) ∧ (isTank d = true → ∃ l, lz = [l] ∧ BetP (topOf d) l) := by
  obtain ⟨r1, e1, l1⟩ := drawR_nat p 7 (by decide)
  have e1 : drawR p 7 = r1 := e1
  have b1 : as.length < 100000 := by omega
  have b2 : ls.length < 100000 := by omega
  have k1 : (Str.ofString "source" == Str.ofString "place") = false := by decide
  have k2 : (Str.ofString "tank" == Str.ofString "place") = false := by decide
  have k3 : (Str.ofString "source" == Str.ofString "tank") = false := by decide
  have k4 : (Str.ofString "place" == Str.ofString "tank") = false := by decide
  have low1 : ∀ b : Nat, b < 3 → m__law_low [.val (.int r1), .val (.int (1 + (b : Int)))] = M.ok (.val (lowD r1 (1 + b)), [some (.val (.int r1)), some (.val (.int (1 + (b : Int))))]) := fun b hb => by
    have := low_eq r1 (1 + b) (by omega) (by omega)
    simpa using this
  have bet1 : ∀ b : Nat, BetP 50 (lowD r1 (1 + b)) ∨ 3 ≤ b := fun b => by
    by_cases h : b < 3
    · exact .inl (low_bet r1 (1 + b) 50 (by omega) (by omega) (by omega))
    · exact .inr (by omega)
  have low2 : ∀ a : Nat, m__law_low [.val (.int a), .val (.int 2)] = M.ok (.val (lowD a 2), [some (.val (.int a)), some (.val (.int 2))]) := fun a => by
    have := low_eq a 2 (by omega) (by omega)
    simpa using this
  obtain ⟨n, r2, hn, hn3, e3, l2⟩ : ∃ n r2 : Nat, atI [PyData.int 1, PyData.int 3] (drawR (drawP p 7) 2) = some (.int n) ∧ (n = 1 ∨ n = 3) ∧ drawR (drawP (drawP p 7) 2) n = r2 ∧ r2 < 3 := by
    rcases two (drawP p 7) with h | h
    · obtain ⟨r2, x, y⟩ := drawR_nat (drawP (drawP p 7) 2) 1 (by decide)
      exact ⟨1, r2, by rw [h]; rfl, .inl rfl, x, by omega⟩
    · obtain ⟨r2, x, y⟩ := drawR_nat (drawP (drawP p 7) 2) 3 (by decide)
      exact ⟨3, r2, by rw [h]; rfl, .inr rfl, x, by omega⟩
  have de := draw_eq (drawP (drawP p 7) 2) n (by omega) (by omega)
  have lo1 := low1 r2 l2
  have be1 : BetP 50 (lowD r1 (1 + r2)) := (bet1 r2).resolve_right (by omega)
  generalize hq : drawP (drawP (drawP p 7) 2) n = q at *
  generalize lowD r1 (1 + r2) = L at *
  cases hd with
  | source h h0 h1 =>
    rcases ht with rfl | ⟨_, _, rfl⟩ <;>
    · refine ⟨_, by simp [case_u, caseEnv, draw_eq, de, hn, e1, e3, lo1, b1, b2, k1, k3]; exact rfl, ?_⟩
      exact ⟨q, nought, [], _, by rw [List.append_nil] <;> rfl, .inr ⟨_, _, rfl⟩, ⟨nought_bet 50, .inl rfl⟩, fun _ => rfl, fun z => by simp [isTank, k3] at z⟩
  | tank h a t h0 h1 h2 h3 h4 h5 =>
    obtain ⟨tn, rfl⟩ : ∃ tn : Nat, t = tn := ⟨t.toNat, by omega⟩
    obtain ⟨r3, e4, l4⟩ := drawR_nat q (2 * tn + 1) (by omega)
    have e4 : drawR q (2 * (tn : Int) + 1) = r3 := by simpa using e4
    have de2 := draw_eq q (2 * (tn : Int) + 1) (by omega) (by omega)
    have lg : Nat.log2 2 + Nat.log2 tn < 1000000 := by
      have x := log_small (j := (tn : Nat)) (by omega) (by omega)
      have y : Nat.log2 2 = 1 := by decide
      simp at x
      omega
    have bt : BetP tn (lowD r3 2) := low_bet r3 2 tn (by omega) (by omega) (by omega)
    rcases ht with rfl | ⟨_, _, rfl⟩ <;>
    · refine ⟨_, by simp [case_u, caseEnv, draw_eq, de, hn, e1, e3, lo1, b1, b2, k2, lg, e4, de2, low2]; exact rfl, ?_⟩
      exact ⟨_, nought, [lowD r3 2], _, rfl, .inr ⟨_, _, rfl⟩, ⟨nought_bet 50, .inl rfl⟩, fun z => by simp [isTank] at z, fun _ => ⟨_, rfl, by simpa [topOf] using bt⟩⟩
  | place h a t h0 h1 h2 h3 h4 =>
    by_cases hz : 0 < drawR q 4
    · rcases ht with rfl | ⟨_, _, rfl⟩ <;>
      · refine ⟨_, by simp [case_u, caseEnv, draw_eq, de, hn, e1, e3, lo1, b1, b2, k4, hz]; exact rfl, ?_⟩
        exact ⟨_, L, [], _, by rw [List.append_nil] <;> rfl, .inr ⟨_, _, rfl⟩, ⟨be1, .inr (by simp [isPlace])⟩, fun _ => rfl, fun z => by simp [isTank, k4] at z⟩
    · rcases ht with rfl | ⟨_, _, rfl⟩ <;>
      · refine ⟨_, by simp [case_u, caseEnv, draw_eq, de, hn, e1, e3, lo1, b1, b2, k4, hz]; exact rfl, ?_⟩
        exact ⟨_, nought, [], _, by rw [List.append_nil] <;> rfl, .inr ⟨_, _, rfl⟩, ⟨nought_bet 50, .inl rfl⟩, fun _ => rfl, fun z => by simp [isTank, k4] at z⟩
end K53
set_option Elab.async false
set_option linter.all false
set_option maxRecDepth 100000
set_option maxHeartbeats 4000000
namespace K53
open PySem PySem.Spec PyProof.Rows L2 DL He
def canS (d : PyData) : Bool := match d with
  | .tuple [_, _, _, _, .int l, .bool g, _] => g || decide (0 < l)
  | _ => false
def tks (js : List PyData) (k : Nat) : List Nat := (List.range k).filter fun i => isTank (js.getD i .none)
structure LevP (js ls : List PyData) (k : Nat) : Prop where
  len : ls.length = (tks js k).length
  at_ : ∀ (m : Nat) (l : PyData) (i : Nat), ls[m]? = some l → (tks js k)[m]? = some i → BetP (topOf (js.getD i .none)) l
structure ShutP (ps ss : List PyData) : Prop where
  ex : ∃ ks : List Nat, ss = ks.map (fun k => PyData.int (k : Nat)) ∧ ks.Pairwise (· < ·) ∧ ks.length ≤ ps.length ∧ ∀ k ∈ ks, k < ps.length ∧ canS (ps.getD k .none) = true
structure CaseP (js ps as ls ss : List PyData) : Prop where
  len : as.length = js.length
  ask : ∀ (i : Nat) (j a : PyData), js[i]? = some j → as[i]? = some a → AskP j a
  lev : LevP js ls js.length
  sh : ShutP ps ss
theorem tks_succ (js : List PyData) (k : Nat) : tks js (k + 1) = tks js k ++ (if isTank (js.getD k .none) then [k] else []) := by
  unfold tks
  rw [List.range_succ, List.filter_append]
  congr 1
  rw [List.filter_cons]
  split <;> simp_all
/-- the shut ones, as the text numbers them -/
theorem num_can (n : Nat) : ∀ (ps : List PyData) (k : Nat), (numL k ps).filterMap (fun d => match d with
    | .tuple [.int i, p] => if canS p then some (.int i) else none
    | _ => none) = (((List.range ps.length).filter fun i => canS (ps.getD i .none)).map fun i => PyData.int ((k + i : Nat) : Int))
  | [], k => rfl
  | p :: ps, k => by
    have ih := num_can n ps (k + 1)
    unfold numL
    rw [List.filterMap_cons]
    dsimp only
    rw [List.length_cons, List.range_succ_eq_map, List.filter_cons, ih]
    have e : (List.map Nat.succ (List.range ps.length)).filter (fun i => canS ((p :: ps).getD i .none)) = ((List.range ps.length).filter fun i => canS (ps.getD i .none)).map Nat.succ := by
      rw [List.filter_map]
      rfl
    rw [e]
    have e2 : (p :: ps).getD 0 .none = p := rfl
    rw [e2]
    cases canS p <;> simp [List.map_map, Function.comp_def, Nat.add_assoc, Nat.add_comm, Nat.add_left_comm]
theorem lev_step {js ls lz : List PyData} {k : Nat} {d : PyData} (hd : js[k]? = some d) (h : LevP js ls k) (h1 : isTank d = false → lz = []) (h2 : isTank d = true → ∃ l, lz = [l] ∧ BetP (topOf d) l) : LevP js (ls ++ lz) (k + 1) := by
  have gd : js.getD k .none = d := by rw [List.getD_eq_getElem?_getD, hd]; rfl
  have ts := tks_succ js k
  rw [gd] at ts
  cases q : isTank d with
  | false =>
    rw [h1 q, List.append_nil]
    rw [q] at ts
    simp only [Bool.false_eq_true, if_false, List.append_nil] at ts
    exact ⟨by rw [ts]; exact h.len, fun m l i e1 e2 => h.at_ m l i e1 (by rw [← ts]; exact e2)⟩
  | true =>
    obtain ⟨l0, rfl, hb⟩ := h2 q
    rw [q] at ts
    simp only [if_true] at ts
    refine ⟨by rw [ts, List.length_append, List.length_append, h.len]; rfl, fun m l i e1 e2 => ?_⟩
    rw [ts] at e2
    by_cases hm : m < ls.length
    · rw [List.getElem?_append_left hm] at e1
      rw [List.getElem?_append_left (by rw [← h.len]; exact hm)] at e2
      exact h.at_ m l i e1 e2
    · rw [List.getElem?_append_right (by omega)] at e1
      rw [List.getElem?_append_right (by rw [← h.len]; omega), ← h.len] at e2
      have hz : m - ls.length = 0 := by
        have := (List.getElem?_eq_some_iff.mp e1).1
        simp at this
        omega
      rw [hz] at e1 e2
      simp at e1 e2
      subst e1 e2
      rw [gd]
      exact hb
theorem numL_mem {d : PyData} : ∀ {ps : List PyData} {k : Nat}, d ∈ numL k ps → ∃ (i : Nat) (p : PyData), d = .tuple [.int i, p] ∧ p ∈ ps
  | [], _, h => by cases h
  | p :: ps, k, h => by
    unfold numL at h
    rcases List.mem_cons.mp h with rfl | h
    · exact ⟨k, p, rfl, List.mem_cons_self⟩
    · obtain ⟨i, q, e, m⟩ := numL_mem h
      exact ⟨i, q, e, List.mem_cons_of_mem _ m⟩
theorem numL_len : ∀ (ps : List PyData) (k : Nat), (numL k ps).length = ps.length
  | [], _ => rfl
  | p :: ps, k => by unfold numL; simp [numL_len ps (k + 1)]
def canL (ps : List PyData) : List Nat := (List.range ps.length).filter fun i => canS (ps.getD i .none)
theorem canL_len (ps : List PyData) : (canL ps).length ≤ ps.length := by
  have := List.length_filter_le (fun i => canS (ps.getD i .none)) (List.range ps.length)
  rw [List.length_range] at this
  exact this
/-- the pipes that can be shut -/
theorem can_ok (ps : List PyData) (n : Nat) (hp : ∀ d ∈ ps, PipeP n d) (hl : ps.length ≤ 9) (a0 a1 a2 a3 a4 a5 : Option Sl) (a6 : Option Sl) : lcL (gtTup (gtCons (gtName 7) (gtCons (gtName 8) gtNil))) (tOrF (eT (e2 ixD (eVar 8) (eC (.int 5)))) (eT (e2 gtD (e2 ixD (eVar 8) (eC (.int 4))) (eC (.int 0))))) (eVar 7) [7, 8] (numL 0 ps) [] [a0, a1, a2, a3, a4, a5, a6, none, none] =
    some (.ok ((canL ps).map fun i => PyData.int (i : Nat), [a0, a1, a2, a3, a4, a5, a6, none, none])) := by
  rw [lcL_pure (h := fun d => match d with
    | .tuple [.int i, p] => if canS p then some (.int i) else none
    | _ => none) (fun d hd => ?_) (by rw [numL_len]; simp; omega), num_can 0 ps 0]
  · simp [canL]
  · obtain ⟨i, p, rfl, hm⟩ := numL_mem hd
    obtain ⟨a, b, f, l, v, on, g, rfl, _⟩ := (hp p hm).ex
    cases g
    · by_cases h : 0 < l <;> simp [canS, h]
    · simp [canS]
theorem case_ok (p : Pen) (js ps : List PyData) (h : NetP js ps) : OkM (m__law_case [.pen (penO p), .val (netD js ps)]) fun r => ∃ as ls ss p', r = (.val (.tuple [.tuple as, .tuple ls, .tuple ss]), [some (.pen (penO p')), some (.val (netD js ps))]) ∧ CaseP js ps as ls ss := by
  have hj := h.j1
  have hp := h.p1
  refine ok_body rfl ?_
  unfold f__law_case
  refine ok_seq ⟨_, by simp; exact rfl, _, rfl, ?_⟩
  refine ok_seq ?_
  rw [s_forF]
  refine ok_bind (P := fun r => r = (js, caseEnv p (netD js ps) [] [] [none, none, none, none, none])) ⟨_, by simp [netD]; exact rfl, by simp [caseEnv, netD]⟩ fun r hr => ?_
  subst hr
  obtain ⟨env', e, p2, as, ls, t, rfl, ht, hla, hask, hlev, hll⟩ := forL_inv (gt := gtName 4) (u := case_u) (ds := js) (k := 0) (env := caseEnv p (netD js ps) [] [] [none, none, none, none, none])
    (Inv := fun k env => ∃ p as ls t, env = caseEnv p (netD js ps) as ls t ∧ Tail5 t ∧ as.length = k ∧ (∀ (i : Nat) (j a : PyData), js[i]? = some j → as[i]? = some a → AskP j a) ∧ LevP js ls k ∧ ls.length ≤ k) (fun k d hd env ⟨p, as, ls, t, he, ht, hla, hask, hlev, hll⟩ => by
      subst he
      have hk : k < js.length := (List.getElem?_eq_some_iff.mp hd).1
      rw [Nat.zero_add] at hla hlev hll ⊢
      obtain ⟨_, e1, p', a, lz, t', rfl, ht', ha', hz1, hz2⟩ := case_turn p (netD js ps) as ls t d (h.j d (List.mem_of_getElem? hd)) ht (by omega) (by omega)
      have hlz : lz.length ≤ 1 := by
        cases q : isTank d with
        | false => rw [hz1 q]; simp
        | true => obtain ⟨l, rfl, _⟩ := hz2 q; simp
      refine ⟨_, e1, p', _, _, t', rfl, ht', by rw [List.length_append, hla]; rfl, fun i j x e2 e3 => ?_, lev_step hd hlev hz1 hz2, by rw [List.length_append]; omega⟩
      by_cases hi : i < as.length
      · rw [List.getElem?_append_left hi] at e3
        exact hask i j x e2 e3
      · rw [List.getElem?_append_right (by omega)] at e3
        have hz : i - as.length = 0 := by
          have := (List.getElem?_eq_some_iff.mp e3).1
          simp at this
          omega
        rw [hz] at e3
        simp at e3
        subst e3
        have : i = k := by omega
        subst this
        rw [hd] at e2
        cases e2
        exact ha')
    ⟨p, [], [], _, rfl, .inl rfl, rfl, (fun i j a _ e => by simp at e), ⟨rfl, fun m l i e _ => by simp at e⟩, Nat.le_refl _⟩
  rw [Nat.zero_add] at hla hlev hll
  refine ⟨.nx _, e, _, rfl, ?_⟩
  obtain ⟨s4, s5, rfl⟩ : ∃ s4 s5 : Option Sl, t = [s4, s5, none, none, none] := by
    rcases ht with rfl | ⟨_, _, rfl⟩ <;> exact ⟨_, _, rfl⟩
  have hcl := canL_len ps
  refine ok_seq ⟨_, by simp [caseEnv, netD, can_ok ps js.length h.p h.p1]; exact rfl, _, rfl, ?_⟩
  obtain ⟨out, env', e3, ⟨p3, rfl⟩, hsub⟩ := lcL_sub (gt := gtName 7) (ft := eT (e2 eqD (callP m__law_draw (aCons (eVar 0) (aCons (eC (.int 4)) aNil))) (eC (.int 0)))) (fe := eVar 7) (vs := [7]) (acc := [])
    (ds := (canL ps).map fun i => PyData.int (i : Nat)) (env := [some (.pen (penO p2)), some (.val (netD js ps)), some (.own (.lst as)), some (.own (.lst ls)), s4, s5, some (.val (.list ((canL ps).map fun i => PyData.int (i : Nat)))), none, none])
    (Inv := fun env => ∃ p, env = [some (.pen (penO p)), some (.val (netD js ps)), some (.own (.lst as)), some (.own (.lst ls)), s4, s5, some (.val (.list ((canL ps).map fun i => PyData.int (i : Nat)))), none, none])
    (fun d hd env ⟨p, he⟩ => by
      subst he
      refine ⟨drawR p 4 == 0, _, ?_, drawP p 4, rfl⟩
      cases q : (drawR p 4 == 0) <;> simp [draw_eq, q]) ⟨p2, rfl⟩ (by simp; omega)
  simp only [netD, List.nil_append] at e3
  refine ⟨_, by simp [e3]; exact rfl, ?_⟩
  refine ⟨_, by simp [netD], as, ls, out, p3, rfl, hla, hask, hlev, ?_⟩
  obtain ⟨ks, k1, rfl⟩ := List.sublist_map_iff.mp hsub
  refine ⟨ks, rfl, (List.Pairwise.filter _ List.pairwise_lt_range).sublist k1, Nat.le_trans k1.length_le (canL_len ps), fun k hk => ?_⟩
  have := k1.subset hk
  unfold canL at this
  simp only [List.mem_filter, List.mem_range] at this
  exact this
end K53
set_option Elab.async false
set_option linter.all false
set_option maxRecDepth 100000
set_option maxHeartbeats 4000000
namespace K53
open PySem PySem.Spec PyProof.Rows L2 DL He
theorem pairL_mem {d : PyData} : ∀ {as bs : List PyData}, d ∈ pairL as bs → ∃ (i : Nat) (a b : PyData), as[i]? = some a ∧ bs[i]? = some b ∧ d = .tuple [a, b]
  | [], _, h => by unfold pairL at h; cases h
  | a :: as, [], h => by unfold pairL at h; cases h
  | a :: as, b :: bs, h => by
    unfold pairL at h
    rcases List.mem_cons.mp h with rfl | h
    · exact ⟨0, a, b, rfl, rfl, rfl⟩
    · obtain ⟨i, x, y, e1, e2, e3⟩ := pairL_mem h
      exact ⟨i + 1, x, y, by simpa using e1, by simpa using e2, e3⟩
theorem pairL_len : ∀ (as bs : List PyData), (pairL as bs).length ≤ as.length
  | [], _ => by unfold pairL; simp
  | a :: as, [] => by unfold pairL; simp
  | a :: as, b :: bs => by unfold pairL; simp [pairL_len as bs]
theorem JointP.tup {d : PyData} (h : JointP d) : ∃ w r, d = .tuple (.str w :: r) := by
  cases h <;> exact ⟨_, _, rfl⟩
theorem bet_sh {n : Nat} {a : PyData} (h : BetP n a) : SeqAt.shaped a = true := by
  obtain ⟨x, y, rfl, _⟩ := h.ex
  simp [SeqAt.shaped, PyData.canLay0, PyData.canLayAll0, PyData.depth, PyData.depthAll]
theorem nought_sh : SeqAt.shaped (.tuple [.int 0, .int 1]) = true := by decide
theorem asked_is (js ps as : List PyData) (hj : ∀ d ∈ js, JointP d) (hl : js.length ≤ 7) (len : as.length = js.length) (ask : ∀ (i : Nat) (j a : PyData), js[i]? = some j → as[i]? = some a → AskP j a) :
    m_are_asked [.val (netD js ps), .val (.tuple as)] = M.ok (.val (.bool true), [some (.val (netD js ps)), some (.val (.tuple as))]) := by
  have b50 : ∀ d, BetP 50 d → m_is_between [.val d, .val (.int 0), .val (.int 50)] = M.ok (.val (.bool true), [some (.val d), some (.val (.int 0)), some (.val (.int 50))]) := fun d h => by
    have := between_eq 50 (by decide) d h
    simpa using this
  have all : ∀ a ∈ as, BetP 50 a := fun a ha => by
    obtain ⟨i, hi⟩ := List.mem_iff_getElem?.mp ha
    have h1 := (List.getElem?_eq_some_iff.mp hi).1
    exact (ask i _ a (List.getElem?_eq_getElem (by omega)) hi).bet
  have x1 : lcL (gtName 2) yesF (callV m_is_between [] (aCons (eVar 2) (aCons (eC (.int 0)) (aCons (eC (.int 50)) aNil)))) [2] as [] [some (.val (.tuple [.tuple js, .tuple ps])), some (.val (.tuple as)), none, none] = some (.ok (as.map fun _ => .bool true, [some (.val (.tuple [.tuple js, .tuple ps])), some (.val (.tuple as)), none, none])) :=
    lcL_map (fun d hd => by simp [b50 d (all d hd)]) (by simp; omega)
  have x2 : lcL (gtTup (gtCons (gtName 2) (gtCons (gtName 3) gtNil))) yesF (eOr (e2 eqD (eVar 2) (eC (.tuple [(.int 0), (.int 1)]))) (e2 eqD (e2 ixD (eVar 3) (eC (.int 0))) (eC (.str (Str.ofString "place"))))) [2, 3] (pairL as js) [] [some (.val (.tuple [.tuple js, .tuple ps])), some (.val (.tuple as)), none, none] =
      some (.ok ((pairL as js).map fun _ => .bool true, [some (.val (.tuple [.tuple js, .tuple ps])), some (.val (.tuple as)), none, none])) :=
    lcL_map (fun d hd => by
      obtain ⟨i, a, j, e1, e2, rfl⟩ := pairL_mem hd
      have h := ask i j a e2 e1
      have hs := eqT (bet_sh h.bet) nought_sh
      cases q : PyData.eqv a (.tuple [.int 0, .int 1]) with
      | true => simp [hs, q]
      | false =>
        have hp : isPlace j = true := h.pl.resolve_left fun z => by
          rw [z] at q
          simp [nought, PyData.eqv, PyData.eqvAll] at q
        obtain ⟨w, r, rfl⟩ := (hj j (List.mem_of_getElem? e2)).tup
        have hw : (w == Str.ofString "place") = true := hp
        simp [hs, q, hw]) (by have := pairL_len as js; simp; omega)
  have b1 : ∀ l : List PyData, boolsOf (l.map fun _ => PyData.bool true) = some (l.map fun _ => true) := fun l => boolsOf_map
  simp [m_are_asked, f_are_asked, netD, isiB, len, x1, x2, b1]
theorem rngL_eq : ∀ (n : Nat) (lo : Int), rngL lo n = (List.range n).map fun i => PyData.int (lo + (i : Nat))
  | 0, lo => rfl
  | n + 1, lo => by
    unfold rngL
    rw [List.range_succ_eq_map, rngL_eq n (lo + 1)]
    simp [List.map_map, Function.comp_def, Int.add_assoc, Int.add_comm, Int.add_left_comm]
theorem tanks_eq (js ps : List PyData) (hj : ∀ d ∈ js, JointP d) (hl : js.length ≤ 7) : m_tanks_of [.val (netD js ps)] = M.ok (.own (.lst ((tks js js.length).map fun i => PyData.int (i : Nat))), [some (.val (netD js ps))]) := by
  have x1 : lcL (gtName 1) (eT (e2 eqD (e2 ixD (e2 ixD (e2 ixD (eVar 0) (eC (.int 0))) (eVar 1)) (eC (.int 0))) (eC (.str (Str.ofString "tank"))))) (eVar 1) [1] (rngL 0 js.length) [] [some (.val (.tuple [.tuple js, .tuple ps])), none] =
      some (.ok ((rngL 0 js.length).filter (fun d => match d with | .int i => isTank (js.getD i.toNat .none) | _ => false), [some (.val (.tuple [.tuple js, .tuple ps])), none])) :=
    lcL_filt (fun d hd => by
      rw [rngL_eq] at hd
      obtain ⟨i, hi, rfl⟩ := List.mem_map.mp hd
      have hi := List.mem_range.mp hi
      obtain ⟨w, r, e⟩ := (hj js[i] (List.getElem_mem hi)).tup
      have g2 : js[i]? = some (.tuple (.str w :: r)) := by rw [List.getElem?_eq_getElem hi, e]
      have ga : atI js (i : Int) = some (.tuple (.str w :: r)) := by rw [atI_nat hi, g2]
      cases q : (w == Str.ofString "tank") <;> simp [ga, g2, isTank, q]) (by rw [rngL_len]; simp; omega)
  have e : (rngL 0 js.length).filter (fun d => match d with | .int i => isTank (js.getD i.toNat .none) | _ => false) = (tks js js.length).map fun i => PyData.int (i : Nat) := by
    rw [rngL_eq, List.filter_map]
    unfold tks
    simp [Function.comp_def]
  rw [e] at x1
  have sm : smallI (js.length : Int) = true := smallI_ok (by omega) (by omega)
  simp [m_tanks_of, f_tanks_of, netD, sm, x1]
theorem levels_is (js ps ls : List PyData) (hj : ∀ d ∈ js, JointP d) (hl : js.length ≤ 7) (h : LevP js ls js.length) :
    m_are_levels_of [.val (netD js ps), .val (.tuple ls)] = M.ok (.val (.bool true), [some (.val (netD js ps)), some (.val (.tuple ls))]) := by
  have tl : (tks js js.length).length ≤ 7 := by
    have := List.length_filter_le (fun i => isTank (js.getD i .none)) (List.range js.length)
    rw [List.length_range] at this
    exact Nat.le_trans this hl
  have te := tanks_eq js ps hj hl
  have len := h.len
  have x2 : lcL (gtTup (gtCons (gtName 4) (gtCons (gtName 3) gtNil))) yesF (callV m_is_between [] (aCons (eVar 4) (aCons (eC (.int 0)) (aCons (e2 ixD (e2 ixD (e2 ixD (eVar 0) (eC (.int 0))) (eVar 3)) (eC (.int 3))) aNil)))) [4, 3] (pairL ls ((tks js js.length).map fun i => PyData.int (i : Nat))) []
      [some (.val (.tuple [.tuple js, .tuple ps])), some (.val (.tuple ls)), some (.val (.list ((tks js js.length).map fun i => PyData.int (i : Nat)))), none, none] =
      some (.ok ((pairL ls ((tks js js.length).map fun i => PyData.int (i : Nat))).map fun _ => .bool true, [some (.val (.tuple [.tuple js, .tuple ps])), some (.val (.tuple ls)), some (.val (.list ((tks js js.length).map fun i => PyData.int (i : Nat)))), none, none])) :=
    lcL_map (fun d hd => by
      obtain ⟨m, l, b, e1, e2, rfl⟩ := pairL_mem hd
      rw [List.getElem?_map] at e2
      cases q : (tks js js.length)[m]? with
      | none => rw [q] at e2; cases e2
      | some i =>
        rw [q] at e2
        cases e2
        have hb := h.at_ m l i e1 q
        have hi := List.mem_of_getElem? q
        unfold tks at hi
        simp only [List.mem_filter, List.mem_range] at hi
        obtain ⟨hi, ht⟩ := hi
        have ga : atI js (i : Int) = some js[i] := by rw [atI_nat hi, List.getElem?_eq_getElem hi]
        have gd : js.getD i .none = js[i] := by rw [List.getD_eq_getElem?_getD, List.getElem?_eq_getElem hi]; rfl
        rw [gd] at ht hb
        have hJ := hj js[i] (List.getElem_mem hi)
        generalize js[i] = J at *
        cases hJ with
        | source h h0 h1 => simp [isTank] at ht; exact absurd ht (by decide)
        | place h a t h0 h1 h2 h3 h4 => simp [isTank] at ht; exact absurd ht (by decide)
        | tank h a t h0 h1 h2 h3 h4 h5 =>
          obtain ⟨tn, rfl⟩ : ∃ tn : Nat, t = tn := ⟨t.toNat, by omega⟩
          have hb' : BetP tn l := by simpa [topOf] using hb
          simp [ga, between_eq tn (by omega) l hb']) (by have := pairL_len ls ((tks js js.length).map fun i => PyData.int (i : Nat)); simp; omega)
  have b1 : ∀ l : List PyData, boolsOf (l.map fun _ => PyData.bool true) = some (l.map fun _ => true) := fun l => boolsOf_map
  unfold netD at *
  simp [m_are_levels_of, f_are_levels_of, isiB, te, len, x2, b1]
theorem can_is (js ps : List PyData) (n : Nat) (hp : ∀ d ∈ ps, PipeP n d) (k : Nat) (hk : k < ps.length) (hc : canS (ps.getD k .none) = true) :
    m_can_shut [.val (netD js ps), .val (.int k)] = M.ok (.val (.bool true), [some (.val (netD js ps)), some (.val (.int k))]) := by
  have ga : atI ps (k : Int) = some ps[k] := by rw [atI_nat hk, List.getElem?_eq_getElem hk]
  have gd : ps.getD k .none = ps[k] := by rw [List.getD_eq_getElem?_getD, List.getElem?_eq_getElem hk]; rfl
  rw [gd] at hc
  obtain ⟨a, b, f, l, v, on, g, e, _⟩ := (hp ps[k] (List.getElem_mem hk)).ex
  rw [e] at ga hc
  have hk' : (k : Int) ≤ (ps.length : Int) - 1 := by omega
  cases g with
  | true => simp [m_can_shut, f_can_shut, netD, is_number_eq, numB, hk', ga]
  | false =>
    have hl : 0 < l := by simpa [canS] using hc
    simp [m_can_shut, f_can_shut, m_is_pump, f_is_pump, netD, is_number_eq, numB, hk', ga, hl]
theorem rising_is (ks : List Nat) (h : ks.Pairwise (· < ·)) (hl : ks.length ≤ 1000) : m_are_rising [.val (.tuple (ks.map fun k => PyData.int (k : Nat)))] = M.ok (.val (.bool true), [some (.val (.tuple (ks.map fun k => PyData.int (k : Nat))))]) := by
  have c1 : DL.cutD (ks.map fun k => PyData.int (k : Nat)) none (some (-1)) = (ks.map fun k => PyData.int (k : Nat)).take (ks.length - 1) := by
    unfold DL.cutD
    have : HT.sIx (ks.map fun k => PyData.int (k : Nat)).length (ks.map fun k => PyData.int (k : Nat)).length (some (-1)) = ks.length - 1 := by
      unfold HT.sIx
      simp
      omega
    rw [this]
    simp [HT.sIx]
  have c2 : DL.cutD (ks.map fun k => PyData.int (k : Nat)) (some 1) none = (ks.map fun k => PyData.int (k : Nat)).drop 1 := by
    unfold DL.cutD
    have : HT.sIx (ks.map fun k => PyData.int (k : Nat)).length 0 (some 1) = min 1 ks.length := by
      unfold HT.sIx
      simp
    rw [this]
    simp only [HT.sIx]
    rw [List.take_of_length_le (by simp)]
    cases ks <;> simp
  have x1 : lcL (gtTup (gtCons (gtName 1) (gtCons (gtName 2) gtNil))) yesF (e2 ltD (eVar 1) (eVar 2)) [1, 2] (pairL ((ks.map fun k => PyData.int (k : Nat)).take (ks.length - 1)) ((ks.map fun k => PyData.int (k : Nat)).drop 1)) [] [some (.val (.tuple (ks.map fun k => PyData.int (k : Nat)))), none, none] =
      some (.ok ((pairL ((ks.map fun k => PyData.int (k : Nat)).take (ks.length - 1)) ((ks.map fun k => PyData.int (k : Nat)).drop 1)).map fun _ => .bool true, [some (.val (.tuple (ks.map fun k => PyData.int (k : Nat)))), none, none])) :=
    lcL_map (fun d hd => by
      obtain ⟨i, a, b, e1, e2, rfl⟩ := pairL_mem hd
      rw [List.getElem?_drop, List.getElem?_map] at e2
      rw [List.getElem?_take] at e1
      have e1 : (ks.map fun k => PyData.int (k : Nat))[i]? = some a := by
        split at e1
        · exact e1
        · cases e1
      rw [List.getElem?_map] at e1
      cases q1 : ks[i]? with
      | none => rw [q1] at e1; cases e1
      | some x =>
        cases q2 : ks[1 + i]? with
        | none => rw [q2] at e2; cases e2
        | some y =>
          rw [q1] at e1; rw [q2] at e2
          cases e1; cases e2
          obtain ⟨h1, h2⟩ := List.getElem?_eq_some_iff.mp q1
          obtain ⟨h3, h4⟩ := List.getElem?_eq_some_iff.mp q2
          have := List.pairwise_iff_getElem.mp h i (1 + i) h1 h3 (by omega)
          rw [h2, h4] at this
          simp [this]) (by have := pairL_len ((ks.map fun k => PyData.int (k : Nat)).take (ks.length - 1)) ((ks.map fun k => PyData.int (k : Nat)).drop 1); simp at this ⊢; omega)
  have b1 : ∀ l : List PyData, boolsOf (l.map fun _ => PyData.bool true) = some (l.map fun _ => true) := fun l => boolsOf_map
  simp [m_are_rising, f_are_rising, c1, c2, x1, b1, -List.drop_one]
theorem shut_is (js ps ss : List PyData) (n : Nat) (hp : ∀ d ∈ ps, PipeP n d) (hl : ps.length ≤ 9) (h : ShutP ps ss) :
    m_are_shut [.val (netD js ps), .val (.tuple ss)] = M.ok (.val (.bool true), [some (.val (netD js ps)), some (.val (.tuple ss))]) := by
  obtain ⟨ks, rfl, hpw, hlen', hks⟩ := h.ex
  have hlen : ks.length ≤ 9 := by omega
  have x1 : lcL (gtName 2) yesF (callV m_can_shut [] (aCons (eVar 0) (aCons (eVar 2) aNil))) [2] (ks.map fun k => PyData.int (k : Nat)) [] [some (.val (netD js ps)), some (.val (.tuple (ks.map fun k => PyData.int (k : Nat)))), none] =
      some (.ok ((ks.map fun k => PyData.int (k : Nat)).map fun _ => .bool true, [some (.val (netD js ps)), some (.val (.tuple (ks.map fun k => PyData.int (k : Nat)))), none])) :=
    lcL_map (fun d hd => by
      obtain ⟨k, hk, rfl⟩ := List.mem_map.mp hd
      simp [can_is js ps n hp k (hks k hk).1 (hks k hk).2]) (by simp; omega)
  have b1 : ∀ l : List PyData, boolsOf (l.map fun _ => PyData.bool true) = some (l.map fun _ => true) := fun l => boolsOf_map
  have rs := rising_is ks hpw (by omega)
  unfold netD at *
  simp [m_are_shut, f_are_shut, isiB, x1, rs, b1, -List.map_map]
theorem case_is (js ps as ls ss : List PyData) (h : NetP js ps) (c : CaseP js ps as ls ss) :
    m_is_case_of [.val (netD js ps), .val (.tuple [.tuple as, .tuple ls, .tuple ss])] = M.ok (.val (.bool true), [some (.val (netD js ps)), some (.val (.tuple [.tuple as, .tuple ls, .tuple ss]))]) := by
  have a1 := asked_is js ps as h.j h.j1 c.len c.ask
  have a2 := levels_is js ps ls h.j h.j1 c.lev
  have a3 := shut_is js ps ss js.length h.p h.p1 c.sh
  simp [m_is_case_of, f_is_case_of, isiB, a1, a2, a3]
end K53
set_option Elab.async false
set_option linter.all false
set_option maxRecDepth 100000
set_option maxHeartbeats 4000000
namespace K53
open PySem PySem.Spec PyProof.Rows L2 DL He
inductive BadNet (js ps : List PyData) : PyData → Prop
  | none : BadNet js ps .none
  | nil : BadNet js ps (.tuple [])
  | cut : BadNet js ps (.tuple [.tuple js])
  | lst : BadNet js ps (.list [.tuple js, .tuple ps])
  | dry : BadNet js ps (.tuple [.tuple js, .tuple []])
  | four : BadNet js ps (.tuple [.tuple (List.replicate 4 js).flatten, .tuple ps])
theorem badnet_is (js ps : List PyData) (h : NetP js ps) (d : PyData) (hd : BadNet js ps d) : m_is_net [.val d] = M.ok (.val (.bool false), [some (.val d)]) := by
  have b1 : ∀ l : List PyData, boolsOf (l.map fun _ => PyData.bool true) = some (l.map fun _ => true) := fun l => boolsOf_map
  cases hd with
  | none => simp [m_is_net, f_is_net, isiB]
  | nil => simp [m_is_net, f_is_net, isiB]
  | cut => simp [m_is_net, f_is_net, isiB]
  | lst => simp [m_is_net, f_is_net, isiB]
  | dry =>
    obtain ⟨hj, j0, j1, hp, p0, p1, hon⟩ := h
    have i0 : (2 : Int) ≤ js.length := by omega
    have i1 : (js.length : Int) ≤ 7 := by omega
    have x1 : lcL (gtName 4) yesF (callV m_is_joint [] (aCons (eVar 4) aNil)) [4] js [] [some (.val (netD js [])), some (.val (.tuple js)), some (.val (.tuple [])), none, none, none] = some (.ok (js.map fun _ => .bool true, [some (.val (netD js [])), some (.val (.tuple js)), some (.val (.tuple [])), none, none, none])) :=
      lcL_map (fun d hd => by simp [joint_is d (hj d hd)]) (by simp; omega)
    unfold netD at *
    simp [m_is_net, f_is_net, isiB, lcL_step, boolsOf, asBool, x1, i0, i1, b1]
  | four =>
    have hl : ¬ (((List.replicate 4 js).flatten.length : Nat) : Int) ≤ 7 := by
      have := h.j0
      simp [List.replicate]
      omega
    have hl2 : (2 : Int) ≤ (((List.replicate 4 js).flatten.length : Nat) : Int) := by omega
    generalize (List.replicate 4 js).flatten = l at *
    simp [m_is_net, f_is_net, isiB, lcL_step, boolsOf, asBool, hl, hl2]
def fl (d : PyData) : Sl × EnvD := (.val (.bool false), [some (.val d)])
theorem both_net {d c : PyData} (h : m_is_net [.val d] = M.ok (.val (.bool false), [some (.val d)])) : m_need_both [.val d, .val c] = some (.err "NoNet" [some (.val d), some (.val c)]) := by
  simp [m_need_both, f_need_both, m_need_case, f_need_case, m_need_net, f_need_net, h]
theorem both_case {d c : PyData} (h : m_is_net [.val d] = M.ok (.val (.bool true), [some (.val d)])) (h2 : m_is_case_of [.val d, .val c] = M.ok (.val (.bool false), [some (.val d), some (.val c)])) : m_need_both [.val d, .val c] = some (.err "NoCase" [some (.val d), some (.val c)]) := by
  simp [m_need_both, f_need_both, m_need_case, f_need_case, m_need_net, f_need_net, h, h2]
theorem both_ok {d c : PyData} (h : m_is_net [.val d] = M.ok (.val (.bool true), [some (.val d)])) (h2 : m_is_case_of [.val d, .val c] = M.ok (.val (.bool true), [some (.val d), some (.val c)])) : m_need_both [.val d, .val c] = M.ok (.val .none, [some (.val d), some (.val c)]) := by
  simp [m_need_both, f_need_both, m_need_case, f_need_case, m_need_net, f_need_net, h, h2]
section
variable {d c r g : PyData}
theorem leak_net (h : m_need_both [.val d, .val c] = some (.err "NoNet" [some (.val d), some (.val c)])) : m_leak [.val d, .val c, .val r, .val g] = some (.err "NoNet" [some (.val d), some (.val c), some (.val r), some (.val g)]) := by
  simp [m_leak, f_leak, h]
theorem leak_case (h : m_need_both [.val d, .val c] = some (.err "NoCase" [some (.val d), some (.val c)])) : m_leak [.val d, .val c, .val r, .val g] = some (.err "NoCase" [some (.val d), some (.val c), some (.val r), some (.val g)]) := by
  simp [m_leak, f_leak, h]
theorem leak_read (h : m_need_both [.val d, .val c] = M.ok (.val .none, [some (.val d), some (.val c)])) (h2 : m_are_readings [.val d, .val r] = M.ok (.val (.bool false), [some (.val d), some (.val r)])) : m_leak [.val d, .val c, .val r, .val g] = some (.err "NoReadings" [some (.val d), some (.val c), some (.val r), some (.val g)]) := by
  simp [m_leak, f_leak, h, h2]
theorem leak_frac (h : m_need_both [.val d, .val c] = M.ok (.val .none, [some (.val d), some (.val c)])) (h2 : m_are_readings [.val d, .val r] = M.ok (.val (.bool true), [some (.val d), some (.val r)])) (h3 : m_is_fraction [.val g] = M.ok (.val (.bool false), [some (.val g)])) :
    m_leak [.val d, .val c, .val r, .val g] = some (.err "NoFraction" [some (.val d), some (.val c), some (.val r), some (.val g)]) := by
  simp [m_leak, f_leak, h, h2, h3]
theorem alike_net (h : m_need_both [.val d, .val c] = some (.err "NoNet" [some (.val d), some (.val c)])) : m_alike [.val d, .val c, .val r, .val g] = some (.err "NoNet" [some (.val d), some (.val c), some (.val r), some (.val g)]) := by
  simp [m_alike, f_alike, h]
theorem alike_case (h : m_need_both [.val d, .val c] = some (.err "NoCase" [some (.val d), some (.val c)])) : m_alike [.val d, .val c, .val r, .val g] = some (.err "NoCase" [some (.val d), some (.val c), some (.val r), some (.val g)]) := by
  simp [m_alike, f_alike, h]
theorem alike_amt (h : m_need_both [.val d, .val c] = M.ok (.val .none, [some (.val d), some (.val c)])) (h2 : numB r 1 50 = false) : m_alike [.val d, .val c, .val r, .val g] = some (.err "NoAmount" [some (.val d), some (.val c), some (.val r), some (.val g)]) := by
  simp [m_alike, f_alike, h, is_number_eq, h2]
theorem alike_met (h : m_need_both [.val d, .val c] = M.ok (.val .none, [some (.val d), some (.val c)])) (h2 : numB r 1 50 = true) (h3 : m_are_meters [.val d, .val g] = M.ok (.val (.bool false), [some (.val d), some (.val g)])) :
    m_alike [.val d, .val c, .val r, .val g] = some (.err "NoMeters" [some (.val d), some (.val c), some (.val r), some (.val g)]) := by
  simp [m_alike, f_alike, h, is_number_eq, h2, h3]
end
inductive BadCase (as ls ss : List PyData) : PyData → Prop
  | none : BadCase as ls ss .none
  | nil : BadCase as ls ss (.tuple [])
  | cut : BadCase as ls ss (.tuple [.tuple as, .tuple ls])
  | lst : BadCase as ls ss (.list [.tuple as, .tuple ls, .tuple ss])
  | less : BadCase as ls ss (.tuple [.tuple (as.drop 1), .tuple ls, .tuple ss])
  | more : BadCase as ls ss (.tuple [.tuple as, .tuple (ls ++ [.tuple [.int 1, .int 1]]), .tuple ss])
theorem badcase_is (js ps as ls ss : List PyData) (h : NetP js ps) (c : CaseP js ps as ls ss) (d : PyData) (hd : BadCase as ls ss d) : m_is_case_of [.val (netD js ps), .val d] = M.ok (.val (.bool false), [some (.val (netD js ps)), some (.val d)]) := by
  cases hd with
  | none => simp [m_is_case_of, f_is_case_of, isiB]
  | nil => simp [m_is_case_of, f_is_case_of, isiB]
  | cut => simp [m_is_case_of, f_is_case_of, isiB]
  | lst => simp [m_is_case_of, f_is_case_of, isiB]
  | less =>
    have hn : ¬ ((as.drop 1).length : Int) = js.length := by
      have := c.len; have := h.j0
      simp; omega
    have z : m_are_asked [.val (netD js ps), .val (.tuple (as.drop 1))] = M.ok (.val (.bool false), [some (.val (netD js ps)), some (.val (.tuple (as.drop 1)))]) := by
      simp [m_are_asked, f_are_asked, netD, isiB, beqF hn, -List.drop_one, -List.length_drop]
    simp [m_is_case_of, f_is_case_of, isiB, z, -List.drop_one]
  | more =>
    have a1 := asked_is js ps as h.j h.j1 c.len c.ask
    have te := tanks_eq js ps h.j h.j1
    have hn : ¬ ((ls ++ [PyData.tuple [.int 1, .int 1]]).length : Int) = (tks js js.length).length := by
      have := c.lev.len
      simp; omega
    have z : m_are_levels_of [.val (netD js ps), .val (.tuple (ls ++ [.tuple [.int 1, .int 1]]))] = M.ok (.val (.bool false), [some (.val (netD js ps)), some (.val (.tuple (ls ++ [.tuple [.int 1, .int 1]])))]) := by
      unfold netD at *
      simp [m_are_levels_of, f_are_levels_of, isiB, te, beqF hn, -List.length_append]
    simp [m_is_case_of, f_is_case_of, isiB, a1, z]
end K53
set_option Elab.async false
set_option linter.all false
set_option maxRecDepth 100000
set_option maxHeartbeats 4000000
namespace K53
open PySem PySem.Spec PyProof.Rows L2 DL He
inductive BadFrac : PyData → Prop
  | a : BadFrac .none
  | b : BadFrac (.int 5)
  | c : BadFrac (.bool true)
  | d : BadFrac (.str "1")
  | e : BadFrac (.tuple [.int 2, .int 4])
  | f : BadFrac (.tuple [.int 1, .int 0])
  | g : BadFrac (.tuple [.int 1, .int (-2)])
  | h : BadFrac (.list [.int 1, .int 2])
  | i : BadFrac (.tuple [.int 1])
theorem badfrac_is (d : PyData) (h : BadFrac d) : m_is_fraction [.val d] = M.ok (.val (.bool false), [some (.val d)]) := by
  cases h with
  | e => rw [frac_eq]; rfl
  | f => rw [frac_eq]; rfl
  | g => rw [frac_eq]; rfl
  | _ => simp [m_is_fraction, f_is_fraction, isiB]
inductive BadAmt : PyData → Prop
  | a : BadAmt (.int 0)
  | b : BadAmt (.int 51)
  | c : BadAmt (.int (-1))
  | d : BadAmt .none
  | e : BadAmt (.bool true)
  | f : BadAmt (.str "1")
  | g : BadAmt (.tuple [.int 1, .int 1])
  | h : BadAmt (.int (10 ^ 11))
  | i : BadAmt (.list [.int 1])
theorem badamt_is (d : PyData) (h : BadAmt d) : numB d 1 50 = false := by
  cases h <;> rfl
/-- n times one thing -/
def reps (n : Nat) (d : PyData) : List PyData := List.replicate n d
inductive BadRead (n : Nat) : PyData → Prop
  | a : BadRead n .none
  | b : BadRead n (.tuple [])
  | c : BadRead n (.tuple (reps (n + 1) .none))
  | d : BadRead n (.list (reps n .none))
  | e : BadRead n (.tuple (reps n (.int 5)))
  | f : BadRead n (.tuple (reps n (.tuple [.int 2, .int 4])))
  | g : BadRead n (.tuple (reps n (.bool true)))
theorem reps_len (n : Nat) (d : PyData) : (reps n d).length = n := by simp [reps]
theorem reads_pure (js ps : List PyData) (n : Nat) (x : PyData) (b : Bool) (hl : js.length = n) (h1 : 1 ≤ n) (h2 : n ≤ 7) (hf : ∀ env : EnvD, env = [some (.val (netD js ps)), some (.val (.tuple (reps n x))), none] → lcStep (gtName 2) yesF (eOr (e2 isD (eVar 2) (eC .none)) (callV m_is_fraction [] (aCons (eVar 2) aNil))) [2] x env = some (some (.bool b), env)) :
    m_are_readings [.val (netD js ps), .val (.tuple (reps n x))] = M.ok (.val (.bool b), [some (.val (netD js ps)), some (.val (.tuple (reps n x)))]) := by
  have x1 : lcL (gtName 2) yesF (eOr (e2 isD (eVar 2) (eC .none)) (callV m_is_fraction [] (aCons (eVar 2) aNil))) [2] (reps n x) [] [some (.val (netD js ps)), some (.val (.tuple (reps n x))), none] = some (.ok ((reps n x).map fun _ => .bool b, [some (.val (netD js ps)), some (.val (.tuple (reps n x))), none])) :=
    lcL_map (fun d hd => by
      have : d = x := List.eq_of_mem_replicate hd
      subst this
      exact hf _ rfl) (by rw [reps_len]; simp; omega)
  have b1 : boolsOf ((reps n x).map fun _ => PyData.bool b) = some ((reps n x).map fun _ => b) := boolsOf_map (f := fun _ => b)
  have b2 : ((reps n x).map fun _ => b).all id = b := by
    unfold reps
    cases n with
    | zero => omega
    | succ n =>
      rw [List.replicate_succ, List.map_cons, List.all_cons]
      cases b <;> simp
  have ln : (reps n x).length = n := reps_len n x
  unfold netD at *
  simp [m_are_readings, f_are_readings, isiB, hl, ln, x1, b1, b2, -List.map_const, -List.map_const_fun]
theorem badread_is (js ps : List PyData) (n : Nat) (hl : js.length = n) (h1 : 2 ≤ n) (h2 : n ≤ 7) (d : PyData) (h : BadRead n d) : m_are_readings [.val (netD js ps), .val d] = M.ok (.val (.bool false), [some (.val (netD js ps)), some (.val d)]) := by
  cases h with
  | a => simp [m_are_readings, f_are_readings, isiB]
  | b =>
    have : ¬ (0 : Int) = js.length := by omega
    simp [m_are_readings, f_are_readings, isiB, netD, beqF this]
  | c =>
    have : ¬ ((reps (n + 1) PyData.none).length : Int) = js.length := by rw [reps_len]; omega
    simp [m_are_readings, f_are_readings, isiB, netD, beqF this]
  | d => simp [m_are_readings, f_are_readings, isiB]
  | e => exact reads_pure js ps n _ false hl (by omega) h2 fun env he => by subst he; simp [DL.isNon, badfrac_is _ .b]
  | f => exact reads_pure js ps n _ false hl (by omega) h2 fun env he => by subst he; simp [DL.isNon, badfrac_is _ .e]
  | g => exact reads_pure js ps n _ false hl (by omega) h2 fun env he => by subst he; simp [DL.isNon, badfrac_is _ .c]
theorem blank_is (js ps : List PyData) (n : Nat) (hl : js.length = n) (h1 : 2 ≤ n) (h2 : n ≤ 7) : m_are_readings [.val (netD js ps), .val (.tuple (reps n .none))] = M.ok (.val (.bool true), [some (.val (netD js ps)), some (.val (.tuple (reps n .none)))]) :=
  reads_pure js ps n _ true hl (by omega) h2 fun env he => by subst he; simp [DL.isNon]
inductive BadMet (n : Nat) : PyData → Prop
  | a : BadMet n .none
  | b : BadMet n (.int 0)
  | c : BadMet n (.list [.int 0])
  | d : BadMet n (.tuple [.int n])
  | e : BadMet n (.tuple [.int (-1)])
  | f : BadMet n (.tuple [.int 0, .int 0])
  | g : BadMet n (.tuple [.int 1, .int 0])
  | h : BadMet n (.tuple [.bool true])
  | i : BadMet n (.tuple [.str "0"])
  | j : BadMet n (.tuple [.tuple [.int 0]])
theorem rise_f (i : Int) (h : ¬ i < 0) : m_are_rising [.val (.tuple [.int i, .int 0])] = M.ok (.val (.bool false), [some (.val (.tuple [.int i, .int 0]))]) := by
  simp [m_are_rising, f_are_rising, DL.cutD, HT.sIx, pairL, lcL_step, boolsOf, asBool, h]
theorem badmet_is (js ps : List PyData) (n : Nat) (hl : js.length = n) (h1 : 2 ≤ n) (h2 : n ≤ 7) (d : PyData) (h : BadMet n d) : m_are_meters [.val (netD js ps), .val d] = M.ok (.val (.bool false), [some (.val (netD js ps)), some (.val d)]) := by
  have n0 : ∀ i : Int, 0 ≤ i → i ≤ 1 → numB (.int i) 0 ((n : Int) - 1) = true := fun i a b => by simp [numB]; omega
  have n1 : numB (.int n) 0 ((n : Int) - 1) = false := by simp [numB]; omega
  have n2 : numB (.int (-1)) 0 ((n : Int) - 1) = false := by simp [numB]
  have n3 : ∀ x, isI x = false → numB x 0 ((n : Int) - 1) = false := fun x hx => by cases x <;> simp [isI] at hx <;> rfl
  cases h with
  | a => simp [m_are_meters, f_are_meters, isiB]
  | b => simp [m_are_meters, f_are_meters, isiB]
  | c => simp [m_are_meters, f_are_meters, isiB]
  | d => simp [m_are_meters, f_are_meters, isiB, netD, lcL_step, is_number_eq, boolsOf, asBool, hl, n1]
  | e => simp [m_are_meters, f_are_meters, isiB, netD, lcL_step, is_number_eq, boolsOf, asBool, hl, n2]
  | f => simp [m_are_meters, f_are_meters, isiB, netD, lcL_step, is_number_eq, boolsOf, asBool, hl, n0 0 (by decide) (by decide), rise_f 0 (by decide)]
  | g => simp [m_are_meters, f_are_meters, isiB, netD, lcL_step, is_number_eq, boolsOf, asBool, hl, n0 0 (by decide) (by decide), n0 1 (by decide) (by decide), rise_f 1 (by decide)]
  | h => simp [m_are_meters, f_are_meters, isiB, netD, lcL_step, is_number_eq, boolsOf, asBool, hl, n3 (.bool true) rfl]
  | i => simp [m_are_meters, f_are_meters, isiB, netD, lcL_step, is_number_eq, boolsOf, asBool, hl, n3 (.str "0") rfl]
  | j => simp [m_are_meters, f_are_meters, isiB, netD, lcL_step, is_number_eq, boolsOf, asBool, hl, n3 (.tuple [.int 0]) rfl]
end K53
set_option Elab.async false
set_option linter.all false
set_option maxRecDepth 100000
set_option maxHeartbeats 4000000
namespace K53
open PySem PySem.Spec PyProof.Rows L2 DL He
end K53
set_option Elab.async false
set_option linter.all false
set_option maxRecDepth 100000
set_option maxHeartbeats 4000000
namespace K53
open PySem PySem.Spec PyProof.Rows L2 DL He
def caseD (as ls ss : List PyData) : PyData := .tuple [.tuple as, .tuple ls, .tuple ss]
/-- one of each kind -/
structure BadP (js ps as ls ss : List PyData) (l : List PyData) : Prop where
  ex : ∃ n c r f a m, l = [n, c, r, f, a, m] ∧ BadNet js ps n ∧ BadCase as ls ss c ∧ BadRead js.length r ∧ BadFrac f ∧ BadAmt a ∧ BadMet js.length m
/-- a list is drawn from -/
theorem pick (p : Pen) (l : List PyData) (h : 0 < l.length) (h2 : l.length < 1000) : ∃ i : Nat, drawR p l.length = i ∧ i < l.length := drawR_nat p l.length h
theorem pick_step (p : Pen) (l : List PyData) (h : 0 < l.length) (h2 : l.length < 1000) (a1 a2 a3 a4 a5 a6 a7 a8 a9 a10 : Option Sl) : ∃ (z : PyData) (p' : Pen), z ∈ l ∧
    lcStep (gtName 11) yesF (e2 ixD (eVar 11) (callP m__law_draw (aCons (eVar 0) (aCons (eCB lenD (aCons (eVar 11) aNil)) aNil)))) [11] (.list l) [some (.pen (penO p)), a1, a2, a3, a4, a5, a6, a7, a8, a9, a10, none] = some (some z, [some (.pen (penO p')), a1, a2, a3, a4, a5, a6, a7, a8, a9, a10, none]) := by
  obtain ⟨i, e, hi⟩ := pick p l h h2
  have ga : atI l (i : Int) = some l[i] := by rw [atI_nat hi, List.getElem?_eq_getElem hi]
  exact ⟨l[i], drawP p l.length, List.getElem_mem hi, by simp [draw_eq p l.length (by omega) (by omega), e, ga]⟩
theorem picks (a1 a2 a3 a4 a5 a6 a7 a8 a9 a10 : Option Sl) : ∀ (ks : List (List PyData)) (acc : List PyData) (p : Pen), (∀ l ∈ ks, 0 < l.length ∧ l.length < 1000) → acc.length + ks.length ≤ 100000 → ∃ (zs : List PyData) (p' : Pen), zs.length = ks.length ∧ (∀ (i : Nat) (z : PyData) (l : List PyData), zs[i]? = some z → ks[i]? = some l → z ∈ l) ∧
    lcL (gtName 11) yesF (e2 ixD (eVar 11) (callP m__law_draw (aCons (eVar 0) (aCons (eCB lenD (aCons (eVar 11) aNil)) aNil)))) [11] (ks.map PyData.list) acc [some (.pen (penO p)), a1, a2, a3, a4, a5, a6, a7, a8, a9, a10, none] = some (.ok (acc ++ zs, [some (.pen (penO p')), a1, a2, a3, a4, a5, a6, a7, a8, a9, a10, none]))
  | [], acc, p, _, _ => ⟨[], p, rfl, fun i z l e => by simp at e, by simp⟩
  | k :: ks, acc, p, h, hl => by
    obtain ⟨h1, h2⟩ := h k List.mem_cons_self
    simp only [List.length_cons] at hl
    obtain ⟨z, p1, hz, e⟩ := pick_step p k h1 h2 a1 a2 a3 a4 a5 a6 a7 a8 a9 a10
    obtain ⟨zs, p2, g1, g2, g3⟩ := picks a1 a2 a3 a4 a5 a6 a7 a8 a9 a10 ks (acc ++ [z]) p1 (fun l hl => h l (List.mem_cons_of_mem _ hl)) (by rw [List.length_append, List.length_singleton]; omega)
    refine ⟨z :: zs, p2, by simp [g1], fun i y l e1 e2 => ?_, ?_⟩
    · cases i with
      | zero => simp at e1 e2; subst e1 e2; exact hz
      | succ i => exact g2 i y l (by simpa using e1) (by simpa using e2)
    · rw [List.map_cons, lcL_step, e]
      dsimp only
      rw [if_pos (by simp; omega), g3, List.append_assoc]
      rfl
theorem picks_ok (p : Pen) (a1 a2 a3 a4 a5 a6 a7 a8 a9 : Option Sl) (ks : List (List PyData)) (h : ∀ l ∈ ks, 0 < l.length ∧ l.length < 1000) (hl : ks.length ≤ 1000) :
    OkM (retF (lcF (seqI (eVar 10)) (gtName 11) yesF (e2 ixD (eVar 11) (callP m__law_draw (aCons (eVar 0) (aCons (eCB lenD (aCons (eVar 11) aNil)) aNil)))) [11]) [some (.pen (penO p)), a1, a2, a3, a4, a5, a6, a7, a8, a9, some (.own (.lst (ks.map PyData.list))), none]) fun r =>
      ∃ zs p' env, r = .rt (.own (.lst zs)) env ∧ env = [some (.pen (penO p')), a1, a2, a3, a4, a5, a6, a7, a8, a9, some (.val (.list (ks.map PyData.list))), none] ∧ zs.length = ks.length ∧ ∀ (i : Nat) (z : PyData) (l : List PyData), zs[i]? = some z → ks[i]? = some l → z ∈ l := by
  obtain ⟨zs, p', g1, g2, g3⟩ := picks a1 a2 a3 a4 a5 a6 a7 a8 a9 (some (.val (.list (ks.map PyData.list)))) ks [] p h (by simp; omega)
  exact ⟨_, by simp [g3], zs, p', _, rfl, rfl, g1, g2⟩
theorem wrong_ok (p : Pen) (js ps as ls ss : List PyData) (h : NetP js ps) (c : CaseP js ps as ls ss) :
    OkM (m__law_wrong [.pen (penO p), .val (netD js ps), .val (caseD as ls ss)]) fun r => ∃ l p', r = (.own (.lst l), [some (.pen (penO p')), some (.val (netD js ps)), some (.val (caseD as ls ss))]) ∧ BadP js ps as ls ss l := by
  have j0 := h.j0
  have j1 := h.j1
  have p1 := h.p1
  have la := c.len
  have hn : js ≠ [] := fun z => by rw [z] at j0; simp at j0
  refine ok_body rfl ?_
  unfold f__law_wrong
  refine ok_seq ⟨_, by simp [netD]; exact rfl, _, rfl, ?_⟩
  have m4 : js.length ≤ 1000 := by omega
  refine ok_seq ⟨_, by simp [netD, DL.cutD, HT.sIx, m4, hn]; exact rfl, _, rfl, ?_⟩
  have cl : ls.length + 1 ≤ 100000 := by
    have a := c.lev.len
    have b := List.length_filter_le (fun i => isTank (js.getD i .none)) (List.range js.length)
    rw [List.length_range] at b
    unfold tks at a
    omega
  refine ok_seq ⟨_, by simp [caseD, DL.cutD, HT.sIx, cl]; exact rfl, _, rfl, ?_⟩
  have r1 : (2 : Int) ≤ js.length := by omega
  have r2 : (js.length : Int) ≤ 100 := by omega
  have r3 : (2 : Int) ≤ (js.length : Int) + 1 := by omega
  have r4 : (js.length : Int) + 1 ≤ 100 := by omega
  have r5 : (1 : Int) ≤ js.length := by omega
  have r6 : (0 : Int) ≤ js.length := by omega
  refine ok_seq ⟨_, by simp [r1, r2, r3, r4, r5, r6]; exact rfl, _, rfl, ?_⟩
  refine ok_seq ⟨_, by simp; exact rfl, _, rfl, ?_⟩
  refine ok_seq ⟨_, by simp [powD]; exact rfl, _, rfl, ?_⟩
  refine ok_seq ⟨_, by simp; exact rfl, _, rfl, ?_⟩
  refine ok_seq ⟨_, by simp; exact rfl, _, rfl, ?_⟩
  have dr : List.take (as.length - min 1 as.length) (List.drop (min 1 as.length) as) = as.drop 1 := by
    have m1 : min 1 as.length = 1 := by omega
    rw [m1, List.take_of_length_le (by simp)]
  rw [dr]
  have key := fun a1 a2 a3 a4 a5 a6 a7 a8 a9 => picks_ok p a1 a2 a3 a4 a5 a6 a7 a8 a9 [[.none, .tuple [], .tuple [.tuple js], .list [.tuple js, .tuple ps], .tuple [.tuple js, .tuple []], .tuple [.tuple (js ++ (js ++ (js ++ js))), .tuple ps]],
    [.none, .tuple [], .tuple [.tuple as, .tuple ls], .list [.tuple as, .tuple ls, .tuple ss], .tuple [.tuple (as.drop 1), .tuple ls, .tuple ss], .tuple [.tuple as, .tuple (ls ++ [.tuple [.int 1, .int 1]]), .tuple ss]],
    [.none, .tuple [], .tuple (List.replicate (js.length + 1) .none), .list (List.replicate js.length .none), .tuple (List.replicate js.length (.int 5)), .tuple (List.replicate js.length (.tuple [.int 2, .int 4])), .tuple (List.replicate js.length (.bool true))],
    [.none, .int 5, .bool true, .str (Str.ofString "1"), .tuple [.int 2, .int 4], .tuple [.int 1, .int 0], .tuple [.int 1, .int (-2)], .list [.int 1, .int 2], .tuple [.int 1]],
    [.int 0, .int 51, .int (-1), .none, .bool true, .str (Str.ofString "1"), .tuple [.int 1, .int 1], .int 100000000000, .list [.int 1]],
    [.none, .int 0, .list [.int 0], .tuple [.int js.length], .tuple [.int (-1)], .tuple [.int 0, .int 0], .tuple [.int 1, .int 0], .tuple [.bool true], .tuple [.str (Str.ofString "0")], .tuple [.tuple [.int 0]]]] (by
    intro l hl
    simp only [List.mem_cons, List.not_mem_nil, or_false] at hl
    rcases hl with rfl | rfl | rfl | rfl | rfl | rfl <;> simp) (by simp)
  simp only [List.map_cons, List.map_nil] at key
  refine ok_imp (key _ _ _ _ _ _ _ _ _) ?_
  · rintro r ⟨zs, p', env, rfl, rfl, hz, hm⟩
    refine ⟨_, by simp only [s_end3, s_ro2, s_fin, s_oa0, s_oa1, s_oa2, List.tail_cons], zs, p', rfl, ?_⟩
    clear key
    obtain ⟨n, cc, r, f, a, m, rfl⟩ : ∃ n cc r f a m, zs = [n, cc, r, f, a, m] := by
      match zs, hz with
      | [n, cc, r, f, a, m], _ => exact ⟨_, _, _, _, _, _, rfl⟩
    refine ⟨n, cc, r, f, a, m, rfl, ?_, ?_, ?_, ?_, ?_, ?_⟩
    · have := hm 0 _ _ rfl (by simp only [List.getElem?_cons_succ, List.getElem?_cons_zero]; exact rfl)
      simp only [List.mem_cons, List.not_mem_nil, or_false] at this
      rcases this with rfl | rfl | rfl | rfl | rfl | rfl
      · exact .none
      · exact .nil
      · exact .cut
      · exact .lst
      · exact .dry
      · have e : js ++ (js ++ (js ++ js)) = (List.replicate 4 js).flatten := by simp [List.replicate]
        rw [e]; exact .four
    · have := hm 1 _ _ rfl (by simp only [List.getElem?_cons_succ, List.getElem?_cons_zero]; exact rfl)
      simp only [List.mem_cons, List.not_mem_nil, or_false] at this
      rcases this with rfl | rfl | rfl | rfl | rfl | rfl
      · exact .none
      · exact .nil
      · exact .cut
      · exact .lst
      · exact .less
      · exact .more
    · have := hm 2 _ _ rfl (by simp only [List.getElem?_cons_succ, List.getElem?_cons_zero]; exact rfl)
      simp only [List.mem_cons, List.not_mem_nil, or_false] at this
      rcases this with rfl | rfl | rfl | rfl | rfl | rfl | rfl
      · exact .a
      · exact .b
      · exact .c
      · exact .d
      · exact .e
      · exact .f
      · exact .g
    · have := hm 3 _ _ rfl (by simp only [List.getElem?_cons_succ, List.getElem?_cons_zero]; exact rfl)
      simp only [List.mem_cons, List.not_mem_nil, or_false] at this
      rcases this with rfl | rfl | rfl | rfl | rfl | rfl | rfl | rfl | rfl
      · exact .a
      · exact .b
      · exact .c
      · exact .d
      · exact .e
      · exact .f
      · exact .g
      · exact .h
      · exact .i
    · have := hm 4 _ _ rfl (by simp only [List.getElem?_cons_succ, List.getElem?_cons_zero]; exact rfl)
      simp only [List.mem_cons, List.not_mem_nil, or_false] at this
      rcases this with rfl | rfl | rfl | rfl | rfl | rfl | rfl | rfl | rfl
      · exact .a
      · exact .b
      · exact .c
      · exact .d
      · exact .e
      · exact .f
      · exact .g
      · exact .h
      · exact .i
    · have := hm 5 _ _ rfl (by simp only [List.getElem?_cons_succ, List.getElem?_cons_zero]; exact rfl)
      simp only [List.mem_cons, List.not_mem_nil, or_false] at this
      rcases this with rfl | rfl | rfl | rfl | rfl | rfl | rfl | rfl | rfl | rfl
      · exact .a
      · exact .b
      · exact .c
      · exact .d
      · exact .e
      · exact .f
      · exact .g
      · exact .h
      · exact .i
      · exact .j
end K53
set_option Elab.async false
set_option linter.all false
set_option maxRecDepth 100000
set_option maxHeartbeats 4000000
namespace K53
open PySem PySem.Spec PyProof.Rows L2 DL He
theorem str_sm (x : Str) (h : smB 40 0 (.str x) = true) : Sm 40 0 (.str x) := smB_ok h
theorem joint_sm {d : PyData} (h : JointP d) : Sm 200 1 d := by
  have i : ∀ {z : Int}, 0 ≤ z → z ≤ 200 → Sm 40 0 (.int z) := fun h1 h2 => Sm.int (by omega)
  cases h with
  | source h h0 h1 =>
    refine Sm.tup (w := 40) (k := 0) (n := 4) ?_ (by simp) (by decide) (by decide)
    intro x hx
    simp only [List.mem_cons, List.not_mem_nil, or_false] at hx
    rcases hx with rfl | rfl
    · exact str_sm _ (by decide +kernel)
    · exact i h0 (by omega)
  | tank h a t h0 h1 h2 h3 h4 h5 =>
    refine Sm.tup (w := 40) (k := 0) (n := 4) ?_ (by simp) (by decide) (by decide)
    intro x hx
    simp only [List.mem_cons, List.not_mem_nil, or_false] at hx
    rcases hx with rfl | rfl | rfl | rfl
    · exact str_sm _ (by decide +kernel)
    · exact i h0 (by omega)
    · exact i (by omega) (by omega)
    · exact i (by omega) (by omega)
  | place h a t h0 h1 h2 h3 h4 =>
    refine Sm.tup (w := 40) (k := 0) (n := 4) ?_ (by simp) (by decide) (by decide)
    intro x hx
    simp only [List.mem_cons, List.not_mem_nil, or_false] at hx
    rcases hx with rfl | rfl | rfl | rfl
    · exact str_sm _ (by decide +kernel)
    · exact i h0 (by omega)
    · exact i (by omega) (by omega)
    · exact i (by omega) (by omega)
theorem pipe_sm {n : Nat} (hn : n ≤ 7) {d : PyData} (h : PipeP n d) : Sm 300 1 d := by
  obtain ⟨a, b, f, l, v, on, g, rfl, ha, hb, ha', hb', hne, hf, hf', hl, hl', hon, hv, hv'⟩ := h.ex
  have i : ∀ {z : Int}, 0 ≤ z → z ≤ 200 → Sm 40 0 (.int z) := fun h1 h2 => Sm.int (by omega)
  refine Sm.tup (w := 40) (k := 0) (n := 7) ?_ (by simp) (by decide) (by decide)
  intro x hx
  simp only [List.mem_cons, List.not_mem_nil, or_false] at hx
  rcases hx with rfl | rfl | rfl | rfl | rfl | rfl | rfl
  · exact i (by omega) (by omega)
  · exact i (by omega) (by omega)
  · exact i (by omega) (by omega)
  · cases on
    · exact str_sm _ (by decide +kernel)
    · exact str_sm _ (by decide +kernel)
  · exact i (by omega) (by omega)
  · exact Sm.bool
  · exact i (by omega) (by omega)
theorem frac_sm {n : Nat} (hn : n ≤ 50) {d : PyData} (h : BetP n d) : Sm 200 1 d := by
  obtain ⟨a, b, rfl, _, h1, h2⟩ := h.ex
  have h3 : a ≤ 50 * b := Nat.le_trans h1 (Nat.mul_le_mul_right _ hn)
  refine Sm.tup (w := 40) (k := 0) (n := 4) ?_ (by simp) (by decide) (by decide)
  intro x hx
  simp only [List.mem_cons, List.not_mem_nil, or_false] at hx
  rcases hx with rfl | rfl
  · exact Sm.int (by omega)
  · exact Sm.int (by omega)
theorem js_sm {js ps : List PyData} (h : NetP js ps) : Sm 2000 2 (.tuple js) := Sm.tup (w := 200) (k := 1) (n := 7) (fun x hx => joint_sm (h.j x hx)) h.j1 (by decide) (by decide)
theorem ps_sm {js ps : List PyData} (h : NetP js ps) : Sm 3000 2 (.tuple ps) := Sm.tup (w := 300) (k := 1) (n := 9) (fun x hx => pipe_sm h.j1 (h.p x hx)) h.p1 (by decide) (by decide)
theorem two_sm {w k : Nat} {a b : PyData} (h1 : Sm w k a) (h2 : Sm w k b) : Sm (2 * (w + 1)) (k + 1) (.tuple [a, b]) := Sm.tup (w := w) (k := k) (n := 2) (fun x hx => by
  simp only [List.mem_cons, List.not_mem_nil, or_false] at hx
  rcases hx with rfl | rfl
  · exact h1
  · exact h2) (by simp) (Nat.le_refl _) (Nat.le_refl _)
theorem three_sm {w k : Nat} {a b c : PyData} (h1 : Sm w k a) (h2 : Sm w k b) (h3 : Sm w k c) : Sm (3 * (w + 1)) (k + 1) (.tuple [a, b, c]) := Sm.tup (w := w) (k := k) (n := 3) (fun x hx => by
  simp only [List.mem_cons, List.not_mem_nil, or_false] at hx
  rcases hx with rfl | rfl | rfl
  · exact h1
  · exact h2
  · exact h3) (by simp) (Nat.le_refl _) (Nat.le_refl _)
theorem net_sm {js ps : List PyData} (h : NetP js ps) : Sm 20000 4 (netD js ps) := (two_sm ((js_sm h).mono (w' := 3000) (by decide) (Nat.le_refl _)) (ps_sm h)).mono (by decide) (by decide)
theorem as_sm {js ps as ls ss : List PyData} (h : NetP js ps) (c : CaseP js ps as ls ss) : (∀ x ∈ as, Sm 200 1 x) ∧ as.length ≤ 7 := by
  have := h.j1
  have := c.len
  refine ⟨fun x hx => ?_, by omega⟩
  obtain ⟨i, hi⟩ := List.mem_iff_getElem?.mp hx
  have h1 := (List.getElem?_eq_some_iff.mp hi).1
  exact frac_sm (Nat.le_refl _) (c.ask i _ x (List.getElem?_eq_getElem (by omega)) hi).bet
theorem tks_len (js : List PyData) (k : Nat) : (tks js k).length ≤ k := by
  have := List.length_filter_le (fun i => isTank (js.getD i .none)) (List.range k)
  rwa [List.length_range] at this
theorem ls_sm {js ps as ls ss : List PyData} (h : NetP js ps) (c : CaseP js ps as ls ss) : (∀ x ∈ ls, Sm 200 1 x) ∧ ls.length ≤ 7 := by
  have h1 := h.j1
  have h2 := c.lev.len
  have h3 := tks_len js js.length
  refine ⟨fun x hx => ?_, by omega⟩
  obtain ⟨m, hm⟩ := List.mem_iff_getElem?.mp hx
  have h4 := (List.getElem?_eq_some_iff.mp hm).1
  have h5 := c.lev.at_ m x _ hm (List.getElem?_eq_getElem (by omega))
  have h6 := List.getElem_mem (l := tks js js.length) (n := m) (by omega)
  generalize (tks js js.length)[m] = i at *
  unfold tks at h6
  simp only [List.mem_filter, List.mem_range] at h6
  obtain ⟨hi, ht⟩ := h6
  have hJ := h.j js[i] (List.getElem_mem hi)
  have gd : js.getD i .none = js[i] := by rw [List.getD_eq_getElem?_getD, List.getElem?_eq_getElem hi]; rfl
  rw [gd] at h5
  refine frac_sm ?_ h5
  generalize js[i] = J at *
  cases hJ with
  | source h h0 h1 => simp [topOf]
  | place h a t h0 h1 h2 h3 h4 => rw [gd] at ht; simp [isTank] at ht; exact absurd ht (by decide)
  | tank h a t h0 h1 h2 h3 h4 h5 => simp only [topOf]; omega
theorem ss_sm {js ps as ls ss : List PyData} (h : NetP js ps) (c : CaseP js ps as ls ss) : (∀ x ∈ ss, Sm 200 1 x) ∧ ss.length ≤ 9 := by
  obtain ⟨ks, rfl, h1, h2, h3⟩ := c.sh.ex
  have h4 := h.p1
  refine ⟨fun x hx => ?_, by simp; omega⟩
  obtain ⟨k, hk, rfl⟩ := List.mem_map.mp hx
  have := (h3 k hk).1
  exact Sm.int (by omega)
theorem case_sm {js ps as ls ss : List PyData} (h : NetP js ps) (c : CaseP js ps as ls ss) : Sm 20000 4 (caseD as ls ss) :=
  (three_sm (Sm.tup (w' := 3000) (k' := 2) (as_sm h c).1 (as_sm h c).2 (by decide) (by decide)) (Sm.tup (ls_sm h c).1 (ls_sm h c).2 (by decide) (by decide)) (Sm.tup (ss_sm h c).1 (ss_sm h c).2 (by decide) (by decide))).mono (by decide) (by decide)
theorem closed_sm {d : PyData} (h : smB 20000 4 d = true) : Sm 20000 4 d := smB_ok h
theorem reps_sm {n w k : Nat} {d : PyData} (h : Sm w k d) : ∀ x ∈ reps n d, Sm w k x := fun x hx => by
  rw [List.eq_of_mem_replicate hx]
  exact h
theorem badnet_sm {js ps : List PyData} (h : NetP js ps) {d : PyData} (b : BadNet js ps d) : Sm 20000 4 d := by
  have hj := (js_sm h).mono (w' := 6000) (k' := 3) (by decide) (by decide)
  have hp := (ps_sm h).mono (w' := 6000) (k' := 3) (by decide) (by decide)
  have hn : Sm 6000 3 (.tuple []) := Sm.mono (smB_ok (w := 0) (k := 1) (by decide)) (by decide) (by decide)
  have pair : ∀ xs : List PyData, xs.length ≤ 2 → (∀ x ∈ xs, Sm 6000 3 x) → Sm 20000 4 (.tuple xs) ∧ Sm 20000 4 (.list xs) := fun xs h1 h2 => ⟨Sm.tup h2 h1 (by decide) (by decide), Sm.lst h2 h1 (by decide) (by decide)⟩
  cases b with
  | none => exact Sm.none
  | nil => exact Sm.mono hn (by decide) (by decide)
  | cut => exact (pair _ (by simp) (fun x hx => by simp at hx; rw [hx]; exact hj)).1
  | lst => exact (pair _ (by simp) (fun x hx => by simp at hx; rcases hx with rfl | rfl; exact hj; exact hp)).2
  | dry => exact (pair _ (by simp) (fun x hx => by simp at hx; rcases hx with rfl | rfl; exact hj; exact hn)).1
  | four =>
    refine (pair _ (by simp) (fun x hx => ?_)).1
    simp only [List.mem_cons, List.not_mem_nil, or_false] at hx
    rcases hx with rfl | rfl
    · refine Sm.tup (w := 200) (k := 1) (n := 28) (fun x hx => ?_) ?_ (by decide) (by decide)
      · simp only [List.mem_flatten, List.mem_replicate] at hx
        obtain ⟨l, ⟨_, rfl⟩, hx⟩ := hx
        exact joint_sm (h.j x hx)
      · have := h.j1
        simp [List.replicate]; omega
    · exact hp
theorem badcase_sm {js ps as ls ss : List PyData} (h : NetP js ps) (c : CaseP js ps as ls ss) {d : PyData} (b : BadCase as ls ss d) : Sm 20000 4 d := by
  obtain ⟨a1, a2⟩ := as_sm h c
  obtain ⟨l1, l2⟩ := ls_sm h c
  obtain ⟨s1, s2⟩ := ss_sm h c
  have ha : Sm 4000 3 (.tuple as) := Sm.tup a1 a2 (by decide) (by decide)
  have hl : Sm 4000 3 (.tuple ls) := Sm.tup l1 l2 (by decide) (by decide)
  have hs : Sm 4000 3 (.tuple ss) := Sm.tup s1 s2 (by decide) (by decide)
  have pair : ∀ xs : List PyData, xs.length ≤ 3 → (∀ x ∈ xs, Sm 4000 3 x) → Sm 20000 4 (.tuple xs) ∧ Sm 20000 4 (.list xs) := fun xs h1 h2 => ⟨Sm.tup h2 h1 (by decide) (by decide), Sm.lst h2 h1 (by decide) (by decide)⟩
  cases b with
  | none => exact Sm.none
  | nil => exact smB_ok (by decide)
  | cut => exact (pair _ (by simp) (fun x hx => by simp at hx; rcases hx with rfl | rfl; exact ha; exact hl)).1
  | lst => exact (pair _ (by simp) (fun x hx => by simp at hx; rcases hx with rfl | rfl | rfl; exact ha; exact hl; exact hs)).2
  | less =>
    refine (pair _ (by simp) (fun x hx => ?_)).1
    simp only [List.mem_cons, List.not_mem_nil, or_false] at hx
    rcases hx with rfl | rfl | rfl
    · exact Sm.tup (w := 200) (k := 1) (n := 7) (fun x hx => a1 x (List.mem_of_mem_drop hx)) (by simp; omega) (by decide) (by decide)
    · exact hl
    · exact hs
  | more =>
    refine (pair _ (by simp) (fun x hx => ?_)).1
    simp only [List.mem_cons, List.not_mem_nil, or_false] at hx
    rcases hx with rfl | rfl | rfl
    · exact ha
    · refine Sm.tup (w := 200) (k := 1) (n := 8) (fun x hx => ?_) (by simp; omega) (by decide) (by decide)
      rcases List.mem_append.mp hx with hx | hx
      · exact l1 x hx
      · rw [List.mem_singleton.mp hx]; exact smB_ok (by decide)
    · exact hs
theorem badread_sm {n : Nat} (hn : n ≤ 7) {d : PyData} (b : BadRead n d) : Sm 20000 4 d := by
  have f : ∀ (m : Nat) (x : PyData), m ≤ 8 → smB 100 1 x = true → Sm 20000 4 (.tuple (reps m x)) ∧ Sm 20000 4 (.list (reps m x)) := fun m x h1 h2 =>
    ⟨Sm.tup (reps_sm (smB_ok h2)) (by rw [reps_len]; exact h1) (by decide) (by decide), Sm.lst (reps_sm (smB_ok h2)) (by rw [reps_len]; exact h1) (by decide) (by decide)⟩
  cases b with
  | a => exact Sm.none
  | b => exact smB_ok (by decide)
  | c => exact (f _ _ (by omega) (by decide)).1
  | d => exact (f _ _ (by omega) (by decide)).2
  | e => exact (f _ _ (by omega) (by decide +kernel)).1
  | f => exact (f _ _ (by omega) (by decide +kernel)).1
  | g => exact (f _ _ (by omega) (by decide)).1
theorem badfrac_sm {d : PyData} (b : BadFrac d) : Sm 20000 4 d := by
  cases b <;> exact smB_ok (by decide +kernel)
theorem badamt_sm {d : PyData} (b : BadAmt d) : Sm 20000 4 d := by
  cases b <;> exact smB_ok (by decide +kernel)
theorem badmet_sm {n : Nat} (hn : n ≤ 7) {d : PyData} (b : BadMet n d) : Sm 20000 4 d := by
  cases b with
  | d =>
    refine Sm.tup (w := 40) (k := 0) (n := 1) (fun x hx => ?_) (by simp) (by decide) (by decide)
    rw [List.mem_singleton.mp hx]
    exact Sm.int (by omega)
  | _ => exact smB_ok (by decide +kernel)
theorem all_sm {js ps as ls ss l : List PyData} (h : NetP js ps) (c : CaseP js ps as ls ss) (b : BadP js ps as ls ss l) : reprOk (.tuple [netD js ps, caseD as ls ss, .list l]) = true := by
  obtain ⟨n, cc, r, f, a, m, rfl, h1, h2, h3, h4, h5, h6⟩ := b.ex
  have hl : Sm 130000 5 (.list [n, cc, r, f, a, m]) := Sm.lst (w := 20000) (k := 4) (n := 6) (fun x hx => by
    simp only [List.mem_cons, List.not_mem_nil, or_false] at hx
    rcases hx with rfl | rfl | rfl | rfl | rfl | rfl
    · exact badnet_sm h h1
    · exact badcase_sm h c h2
    · exact badread_sm h.j1 h3
    · exact badfrac_sm h4
    · exact badamt_sm h5
    · exact badmet_sm h.j1 h6) (by simp) (by decide) (by decide)
  exact (three_sm ((net_sm h).mono (by decide) (by decide)) ((case_sm h c).mono (by decide) (by decide)) hl).repr
end K53
set_option Elab.async false
set_option linter.all false
set_option maxRecDepth 100000
set_option maxHeartbeats 4000000
namespace K53
open PySem PySem.Spec PyProof.Rows L2 DL He
def law_u : FS := (seqF (asgF 7 (callP m__law_wrong (aCons (eVar 2) (aCons (eVar 3) (aCons (eVar 4) aNil)))))
    (seqF (asgF 8 (eCB reprD (aCons (eTup (aCons (eVar 3) (aCons (eVar 4) (aCons (eVar 7) aNil)))) aNil)))
    (seqF (asgF 9 (eLst (aCons (saidF errs "told" said__law_said (callV m_leak [] (aCons (e2 ixD (eVar 7) (eC (.int 0))) (aCons (e2 ixD (eVar 7) (eC (.int 1))) (aCons (e2 ixD (eVar 7) (eC (.int 2))) (aCons (e2 ixD (eVar 7) (eC (.int 3))) aNil)))))) aNil)))
    (seqF (dropF (eApp 9 (saidF errs "told" said__law_said (callV m_leak [] (aCons (eVar 3) (aCons (e2 ixD (eVar 7) (eC (.int 1))) (aCons (e2 ixD (eVar 7) (eC (.int 2))) (aCons (e2 ixD (eVar 7) (eC (.int 3))) aNil))))))))
    (seqF (dropF (eApp 9 (saidF errs "told" said__law_said (callV m_leak [] (aCons (eVar 3) (aCons (eVar 4) (aCons (e2 ixD (eVar 7) (eC (.int 2))) (aCons (e2 ixD (eVar 7) (eC (.int 3))) aNil))))))))
    (seqF (dropF (eApp 9 (saidF errs "told" said__law_said (callV m_leak [] (aCons (eVar 3) (aCons (eVar 4) (aCons (eVar 5) (aCons (e2 ixD (eVar 7) (eC (.int 3))) aNil))))))))
    (seqF (ifF (eT (e2 neD (eVar 9) (eLst (aCons (eTup (aCons (eC (.str (Str.ofString "net"))) aNil)) (aCons (eTup (aCons (eC (.str (Str.ofString "case"))) aNil)) (aCons (eTup (aCons (eC (.str (Str.ofString "readings"))) aNil)) (aCons (eTup (aCons (eC (.str (Str.ofString "fraction"))) aNil)) aNil))))))) (retF (eC (.bool false))) nilF)
    (seqF (asgF 9 (eLst (aCons (saidF errs "told" said__law_said (callV m_alike [] (aCons (e2 ixD (eVar 7) (eC (.int 0))) (aCons (e2 ixD (eVar 7) (eC (.int 1))) (aCons (e2 ixD (eVar 7) (eC (.int 4))) (aCons (e2 ixD (eVar 7) (eC (.int 5))) aNil)))))) aNil)))
    (seqF (dropF (eApp 9 (saidF errs "told" said__law_said (callV m_alike [] (aCons (eVar 3) (aCons (e2 ixD (eVar 7) (eC (.int 1))) (aCons (e2 ixD (eVar 7) (eC (.int 4))) (aCons (e2 ixD (eVar 7) (eC (.int 5))) aNil))))))))
    (seqF (dropF (eApp 9 (saidF errs "told" said__law_said (callV m_alike [] (aCons (eVar 3) (aCons (eVar 4) (aCons (e2 ixD (eVar 7) (eC (.int 4))) (aCons (e2 ixD (eVar 7) (eC (.int 5))) aNil))))))))
    (seqF (dropF (eApp 9 (saidF errs "told" said__law_said (callV m_alike [] (aCons (eVar 3) (aCons (eVar 4) (aCons (eC (.int 1)) (aCons (e2 ixD (eVar 7) (eC (.int 5))) aNil))))))))
    (ifF (tOrF (eT (e2 neD (eVar 9) (eLst (aCons (eTup (aCons (eC (.str (Str.ofString "net"))) aNil)) (aCons (eTup (aCons (eC (.str (Str.ofString "case"))) aNil)) (aCons (eTup (aCons (eC (.str (Str.ofString "amount"))) aNil)) (aCons (eTup (aCons (eC (.str (Str.ofString "meters"))) aNil)) aNil))))))) (eT (e2 neD (eCB reprD (aCons (eTup (aCons (eVar 3) (aCons (eVar 4) (aCons (eVar 7) aNil)))) aNil)) (eVar 8)))) (retF (eC (.bool false))) nilF))))))))))))
def law_o : FS := (seqF (asgF 2 (callV m__law_pen_of [] (aCons (eVar 1) aNil)))
    (seqF (asgF 3 (callP m__law_net (aCons (eVar 2) (aCons (eC (.int 5)) aNil))))
    (seqF (asgG (gtTup (gtCons (gtName 4) (gtCons (gtName 5) gtNil))) (eTup (aCons (callP m__law_case (aCons (eVar 2) (aCons (eVar 3) aNil))) (aCons (e2 mulD (eTup (aCons (eC .none) aNil)) (eCB lenD (aCons (e2 ixD (eVar 3) (eC (.int 0))) aNil))) aNil))))
    (forF (argI rng1I (aCons (eC (.int 6)) aNil)) (gtName 6) law_u))))
theorem said_err {fb : FE} {env env1 : EnvD} {c : Str} (h : fb env = some (.err c env1)) (hc : c ∈ errs) : saidF errs "told" said__law_said fb env = M.ok (.val (said__law_said c), env1) := by
  unfold saidF
  rw [h]
  simp only [hc, if_true]
def wd (x : Str) : PyData := .tuple [.str x]
section
variable {js ps as ls ss : List PyData} {n cc r f a m : PyData}
/-- what the eight calls raise -/
theorem e1 (h : NetP js ps) (b : BadNet js ps n) : m_leak [.val n, .val cc, .val r, .val f] = some (.err "NoNet" [some (.val n), some (.val cc), some (.val r), some (.val f)]) := leak_net (both_net (badnet_is js ps h n b))
theorem e2' (h : NetP js ps) (c : CaseP js ps as ls ss) (b : BadCase as ls ss cc) : m_leak [.val (netD js ps), .val cc, .val r, .val f] = some (.err "NoCase" [some (.val (netD js ps)), some (.val cc), some (.val r), some (.val f)]) := leak_case (both_case (net_is js ps h) (badcase_is js ps as ls ss h c cc b))
theorem bo (h : NetP js ps) (c : CaseP js ps as ls ss) : m_need_both [.val (netD js ps), .val (caseD as ls ss)] = M.ok (.val .none, [some (.val (netD js ps)), some (.val (caseD as ls ss))]) := both_ok (net_is js ps h) (case_is js ps as ls ss h c)
theorem e3 (h : NetP js ps) (c : CaseP js ps as ls ss) (b : BadRead js.length r) : m_leak [.val (netD js ps), .val (caseD as ls ss), .val r, .val f] = some (.err "NoReadings" [some (.val (netD js ps)), some (.val (caseD as ls ss)), some (.val r), some (.val f)]) :=
  leak_read (bo h c) (badread_is js ps js.length rfl h.j0 h.j1 r b)
theorem e4 (h : NetP js ps) (c : CaseP js ps as ls ss) (b : BadFrac f) : m_leak [.val (netD js ps), .val (caseD as ls ss), .val (.tuple (reps js.length .none)), .val f] = some (.err "NoFraction" [some (.val (netD js ps)), some (.val (caseD as ls ss)), some (.val (.tuple (reps js.length .none))), some (.val f)]) :=
  leak_frac (bo h c) (blank_is js ps js.length rfl h.j0 h.j1) (badfrac_is f b)
theorem e5 (h : NetP js ps) (b : BadNet js ps n) : m_alike [.val n, .val cc, .val a, .val m] = some (.err "NoNet" [some (.val n), some (.val cc), some (.val a), some (.val m)]) := alike_net (both_net (badnet_is js ps h n b))
theorem e6 (h : NetP js ps) (c : CaseP js ps as ls ss) (b : BadCase as ls ss cc) : m_alike [.val (netD js ps), .val cc, .val a, .val m] = some (.err "NoCase" [some (.val (netD js ps)), some (.val cc), some (.val a), some (.val m)]) := alike_case (both_case (net_is js ps h) (badcase_is js ps as ls ss h c cc b))
theorem e7 (h : NetP js ps) (c : CaseP js ps as ls ss) (b : BadAmt a) : m_alike [.val (netD js ps), .val (caseD as ls ss), .val a, .val m] = some (.err "NoAmount" [some (.val (netD js ps)), some (.val (caseD as ls ss)), some (.val a), some (.val m)]) := alike_amt (bo h c) (badamt_is a b)
theorem e8 (h : NetP js ps) (c : CaseP js ps as ls ss) (b : BadMet js.length m) : m_alike [.val (netD js ps), .val (caseD as ls ss), .val (.int 1), .val m] = some (.err "NoMeters" [some (.val (netD js ps)), some (.val (caseD as ls ss)), some (.val (.int 1)), some (.val m)]) :=
  alike_met (bo h c) rfl (badmet_is js ps js.length rfl h.j0 h.j1 m b)
end
theorem in_errs : ∀ c : Str, c = "NoNet" ∨ c = "NoCase" ∨ c = "NoReadings" ∨ c = "NoFraction" ∨ c = "NoAmount" ∨ c = "NoMeters" → c ∈ errs := by
  intro c h
  rcases h with rfl | rfl | rfl | rfl | rfl | rfl <;> simp [errs, errs0, errs1]
theorem w_net : said__law_said "NoNet" = wd "net" := by kernel_rfl
theorem w_case : said__law_said "NoCase" = wd "case" := by kernel_rfl
theorem w_read : said__law_said "NoReadings" = wd "readings" := by kernel_rfl
theorem w_frac : said__law_said "NoFraction" = wd "fraction" := by kernel_rfl
theorem w_amt : said__law_said "NoAmount" = wd "amount" := by kernel_rfl
theorem w_met : said__law_said "NoMeters" = wd "meters" := by kernel_rfl
theorem ne1 : neD (.list [wd "net", wd "case", wd "readings", wd "fraction"]) (.list [.tuple [.str (Str.ofString "net")], .tuple [.str (Str.ofString "case")], .tuple [.str (Str.ofString "readings")], .tuple [.str (Str.ofString "fraction")]]) = some (.val (.bool false)) := by kernel_rfl
theorem ne2 : neD (.list [wd "net", wd "case", wd "amount", wd "meters"]) (.list [.tuple [.str (Str.ofString "net")], .tuple [.str (Str.ofString "case")], .tuple [.str (Str.ofString "amount")], .tuple [.str (Str.ofString "meters")]]) = some (.val (.bool false)) := by kernel_rfl
def lawEnv (s0 s1 : Option Sl) (p : Pen) (js ps as ls ss : List PyData) (t : EnvD) : EnvD := s0 :: s1 :: some (.own (penO p)) :: some (.val (netD js ps)) :: some (.val (caseD as ls ss)) :: some (.val (.tuple (reps js.length .none))) :: t
def Tail4 (t : EnvD) : Prop := t = [none, none, none, none] ∨ ∃ a b c d, t = [some (.val a), some (.val b), some (.val c), some (.own d)]
theorem turn_core (s0 s1 : Option Sl) (p p' : Pen) (N C B n cc r f a m d : PyData) (rs : Str) (t : EnvD) (ht : Tail4 t)
    (ew : m__law_wrong [.pen (penO p), .val N, .val C] = M.ok (.own (.lst [n, cc, r, f, a, m]), [some (.pen (penO p')), some (.val N), some (.val C)]))
    (rp : reprD [.tuple [N, C, .list [n, cc, r, f, a, m]]] = some (.val (.str rs)))
    (x1 : m_leak [.val n, .val cc, .val r, .val f] = some (.err "NoNet" [some (.val n), some (.val cc), some (.val r), some (.val f)]))
    (x2 : m_leak [.val N, .val cc, .val r, .val f] = some (.err "NoCase" [some (.val N), some (.val cc), some (.val r), some (.val f)]))
    (x3 : m_leak [.val N, .val C, .val r, .val f] = some (.err "NoReadings" [some (.val N), some (.val C), some (.val r), some (.val f)]))
    (x4 : m_leak [.val N, .val C, .val B, .val f] = some (.err "NoFraction" [some (.val N), some (.val C), some (.val B), some (.val f)]))
    (x5 : m_alike [.val n, .val cc, .val a, .val m] = some (.err "NoNet" [some (.val n), some (.val cc), some (.val a), some (.val m)]))
    (x6 : m_alike [.val N, .val cc, .val a, .val m] = some (.err "NoCase" [some (.val N), some (.val cc), some (.val a), some (.val m)]))
    (x7 : m_alike [.val N, .val C, .val a, .val m] = some (.err "NoAmount" [some (.val N), some (.val C), some (.val a), some (.val m)]))
    (x8 : m_alike [.val N, .val C, .val (.int 1), .val m] = some (.err "NoMeters" [some (.val N), some (.val C), some (.val (.int 1)), some (.val m)])) :
    OkM (forStep (gtName 6) law_u d (s0 :: s1 :: some (.own (penO p)) :: some (.val N) :: some (.val C) :: some (.val B) :: t)) fun r => ∃ t', r = .nx (s0 :: s1 :: some (.own (penO p')) :: some (.val N) :: some (.val C) :: some (.val B) :: t') ∧ Tail4 t' := by
  have i1 := in_errs "NoNet" (by simp)
  have i2 := in_errs "NoCase" (by simp)
  have i3 := in_errs "NoReadings" (by simp)
  have i4 := in_errs "NoFraction" (by simp)
  have i5 := in_errs "NoAmount" (by simp)
  have i6 := in_errs "NoMeters" (by simp)
  rcases ht with rfl | ⟨_, _, _, _, rfl⟩ <;>
  · refine ⟨_, by simp [law_u, ew, rp, saidF, i1, i2, i3, i4, i5, i6, x1, x2, x3, x4, x5, x6, x7, x8, w_net, w_case, w_read, w_frac, w_amt, w_met, ne1, ne2]; exact rfl, ?_⟩
    exact ⟨_, rfl, .inr ⟨_, _, _, _, rfl⟩⟩
theorem law_turn (s0 s1 : Option Sl) (p : Pen) (js ps as ls ss : List PyData) (h : NetP js ps) (c : CaseP js ps as ls ss) (t : EnvD) (ht : Tail4 t) (d : PyData) : OkM (forStep (gtName 6) law_u d (lawEnv s0 s1 p js ps as ls ss t)) fun r => ∃ p' t', r = .nx (lawEnv s0 s1 p' js ps as ls ss t') ∧ Tail4 t' := by
  obtain ⟨_, ew, l, p', rfl, hb⟩ := wrong_ok p js ps as ls ss h c
  have hr := all_sm h c hb
  obtain ⟨n, cc, r, f, a, m, rfl, h1, h2, h3, h4, h5, h6⟩ := hb.ex
  have rp : reprD [.tuple [netD js ps, caseD as ls ss, .list [n, cc, r, f, a, m]]] = some (.val (.str (PyData.shown (.tuple [netD js ps, caseD as ls ss, .list [n, cc, r, f, a, m]])))) := if_pos hr
  obtain ⟨z, e, t', h7, h8⟩ := turn_core s0 s1 p p' _ _ _ n cc r f a m d _ t ht ew rp (e1 h h1) (e2' h c h2) (e3 h c h3) (e4 h c h4) (e5 h h1) (e6 h c h2) (e7 h c h5) (e8 h c h6)
  exact ⟨z, e, p', t', h7, h8⟩
end K53
set_option Elab.async false
set_option linter.all false
set_option maxRecDepth 100000
set_option maxHeartbeats 4000000
namespace K53
open PySem PySem.Spec PyProof.Rows L2 DL He
theorem pen_of_eq (z : Int) : ∃ p, m__law_pen_of [.val (.int z)] = M.ok (.own (penO p), [some (.val (.int z))]) := by
  have e : (10 : Int) ^ 18 = 1000000000000000000 := by decide
  refine ⟨⟨if -z > z then -z else z, decide ((10 : Int) ^ 18 ≤ if -z > z then -z else z), (if -z > z then -z else z).fmod 1000003⟩, ?_⟩
  simp [m__law_pen_of, f__law_pen_of, powD, penO, b2, ordD, vB, vI]
theorem cell_at_eq (ns : List Int) : ∃ z : Int, m__law_cell_at [.val (.list (ns.map PyData.int)), .val (.int 0)] = M.ok (.val (.int z), [some (.val (.list (ns.map PyData.int))), some (.val (.int 0))]) := by
  cases ns with
  | nil => exact ⟨0, by simp [m__law_cell_at, f__law_cell_at]⟩
  | cons a r =>
    have : (0 : Int) < (r.length : Int) + 1 := by omega
    exact ⟨a, by simp [m__law_cell_at, f__law_cell_at, this]⟩
def Tail9 (t : EnvD) : Prop := t = [none, none, none, none, none, none, none, none, none] ∨ ∃ a b c d e t4, t = some (.val a) :: some (.own b) :: some (.val c) :: some (.val d) :: some (.val e) :: t4 ∧ Tail4 t4
theorem law_cell (s0 : Option Sl) (t : EnvD) (ht : Tail9 t) (z : Int) : OkM (forStep (gtName 1) law_o (.int z) (s0 :: t)) fun r => ∃ t', r = .nx (s0 :: t') ∧ Tail9 t' := by
  obtain ⟨p, ep⟩ := pen_of_eq z
  obtain ⟨_, en, js, ps, p2, rfl, hn⟩ := net_ok p 5 (by decide) (by decide)
  obtain ⟨_, ec, as, ls, ss, p3, rfl, hc⟩ := case_ok p2 js ps hn
  have j0 := hn.j0
  have j1 := hn.j1
  obtain ⟨t4, e0, ht4⟩ : ∃ t4, forStep (gtName 1) law_o (.int z) (s0 :: t) = forL (gtName 6) law_u (rngL 0 6) (lawEnv s0 (some (.val (.int z))) p3 js ps as ls ss t4) ∧ Tail4 t4 := by
    have r1 : (2 : Int) ≤ js.length := by omega
    have r2 : (js.length : Int) ≤ 100 := by omega
    have sm : smallI 6 = true := by decide
    have ec' : m__law_case [.pen (penO p2), .val (.tuple [.tuple js, .tuple ps])] = some (.ok (.val (caseD as ls ss), [some (.pen (penO p3)), some (.val (netD js ps))])) := ec
    rcases ht with rfl | ⟨_, _, _, _, _, t4, rfl, ht4⟩
    · refine ⟨[none, none, none, none], ?_, .inl rfl⟩
      simp [law_o, ep, en, ec', r1, r2, sm, lawEnv, reps, netD]
    · refine ⟨t4, ?_, ht4⟩
      simp [law_o, ep, en, ec', r1, r2, sm, lawEnv, reps, netD]
  rw [e0]
  obtain ⟨env', e, p4, t', rfl, ht'⟩ := forL_inv (gt := gtName 6) (u := law_u) (ds := rngL 0 6) (k := 0) (env := lawEnv s0 (some (.val (.int z))) p3 js ps as ls ss t4)
    (Inv := fun _ env => ∃ p t, env = lawEnv s0 (some (.val (.int z))) p js ps as ls ss t ∧ Tail4 t) (fun j d hd env ⟨p, t, he, ht⟩ => by
      subst he
      obtain ⟨_, e1, p', t', rfl, ht'⟩ := law_turn s0 (some (.val (.int z))) p js ps as ls ss hn hc t ht d
      exact ⟨_, e1, p', t', rfl, ht'⟩) ⟨p3, t4, rfl, ht4⟩
  exact ⟨_, e, _, rfl, .inr ⟨_, _, _, _, _, t', rfl, ht'⟩⟩
theorem plain (ns : List Int) (h1 : ns.length ≤ 63) (h2 : ∀ z ∈ ns, Builtin.Int.intBits z ≤ 1048576) : ∃ outs, m_law [.val (.list (ns.map PyData.int))] = M.ok (.val (.bool true), outs) := by
  obtain ⟨z, ez⟩ := cell_at_eq ns
  have hcut : ∀ d ∈ DL.cutD (ns.map PyData.int) (some 1) (some 3), ∃ i, d = .int i := fun d hd => by
    unfold DL.cutD at hd
    obtain ⟨i, _, rfl⟩ := List.mem_map.mp (List.mem_of_mem_drop (List.mem_of_mem_take hd))
    exact ⟨i, rfl⟩
  have hlen : (DL.cutD (ns.map PyData.int) (some 1) (some 3)).length ≤ 63 := by
    unfold DL.cutD
    simp only [List.length_take, List.length_drop, List.length_map]
    omega
  generalize hg : DL.cutD (ns.map PyData.int) (some 1) (some 3) = cs at *
  obtain ⟨env', e, t', rfl, ht'⟩ := forL_inv (gt := gtName 1) (u := law_o) (ds := .int z :: cs) (k := 0) (env := some (.val (.list (ns.map PyData.int))) :: [none, none, none, none, none, none, none, none, none])
    (Inv := fun _ env => ∃ t, env = some (.val (.list (ns.map PyData.int))) :: t ∧ Tail9 t) (fun j d hd env ⟨t, he, ht⟩ => by
      subst he
      obtain ⟨i, rfl⟩ : ∃ i, d = .int i := by
        rcases List.mem_cons.mp (List.mem_of_getElem? hd) with h | h
        · exact ⟨z, h⟩
        · exact hcut d h
      obtain ⟨_, e1, t', rfl, ht'⟩ := law_cell (some (.val (.list (ns.map PyData.int)))) t ht i
      exact ⟨_, e1, t', rfl, ht'⟩) ⟨_, rfl, .inl rfl⟩
  have l2 : 1 + cs.length ≤ 100000 := by omega
  have ef : f_law [some (.val (.list (ns.map PyData.int))), none, none, none, none, none, none, none, none, none] = M.ok (.rt (.val (.bool true)) (some (.val (.list (ns.map PyData.int))) :: t')) := by
    have e' : forL (gtName 1) law_o (.int z :: cs) [some (.val (.list (ns.map PyData.int))), none, none, none, none, none, none, none, none, none] = some (.ok (.nx (some (.val (.list (ns.map PyData.int))) :: t'))) := e
    show M.bind (forF (seqI (e2 addD (eLst (aCons (callV m__law_cell_at [] (aCons (eVar 0) (aCons (eC (.int 0)) aNil))) aNil)) (eSl (eVar 0) (oSome (eC (.int 1))) (oSome (eC (.int 3)))))) (gtName 1) law_o _) _ = _
    simp [ez, hg, l2, e']
  have l3 : bodyF 1 10 f_law [.val (.list (ns.map PyData.int))] = endF [.val (.list (ns.map PyData.int))] (f_law [some (.val (.list (ns.map PyData.int))), none, none, none, none, none, none, none, none, none]) := rfl
  exact ⟨_, by unfold m_law; rw [l3, ef]; rfl⟩
end K53
set_option Elab.async false
set_option linter.all false
set_option maxRecDepth 100000
set_option maxHeartbeats 0
namespace K53
open PySem PySem.Spec PyProof.Rows L2 DL He
theorem walk : PySem.W.WalkO qv names (PySem.W.XL qv []) hk.says R.toRowW (HandSHeadRun.topDef R.prog 100) [] (fun f vs => PySem.call f vs) :=
  walk_D (l := PySem.Challenge.rw_waterheads_k53_leaks_refused) (n := 63) (k := 12) (x := "_law_script") (m := m_law) rfl (by decide) (by kernel_rfl) ⟨rfl, by decide, by decide⟩ (by kernel_rfl) (fun K h => exq0 h) (fun K h => htk_of (xs := ["law"]) (exq12 h))
    (fun w K h mg X G c base TB => c_law (P := R.prog) (txt_of X G c TB)) plain
end K53
open PySem PySem.W PySem.Calls PyProof.Rows in
theorem PySem.Challenge.cw_waterheads_k53_leaks_refused_holds : PySem.Challenge.rw_waterheads_k53_leaks_refused.Holds := by
  w_on; o_law
  refine HandSHeadRun.head_any (r := OpenLaw.row PySem.Challenge.rw_waterheads_k53_leaks_refused) (q := K53.qv) (H := K53.hk) (ob := K53.ob) (M := 8000) (loose := K53.names) (d := HandSHeadRun.topDef (OpenLaw.row PySem.Challenge.rw_waterheads_k53_leaks_refused).prog 100) (kwd := []) K53.ob_eq
    (by kernel_rfl) (fun s => by kernel_rfl) K53.run (by kernel_rfl) (by kernel_rfl) (by kernel_rfl) (by rfl) (by first | assumption | decide +kernel) (by decide +kernel) ⟨rfl, rfl, rfl, rfl, rfl, by decide +kernel⟩ ?hw ?hc
  case hw => w_witness2
  case hc => exact K53.walk
