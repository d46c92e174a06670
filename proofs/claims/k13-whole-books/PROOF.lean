import PyProof.Rows.All
import Wide.All
import OpenK.AllK
import Wide.FinOn
import HandS.ForMost
import HandS.Exc
import HandS.TryOnly
import HandS.ExcOwn
import HandS.WordsExc
import HandS.Defaults
import HandS.Walk
import HandS.IsInst
import HandS.Replace
import HandS.Iter
import HandS.More
import HandS.DictTup
import HandS.SortInts
import KE.KDictWalk
import HandS.Small
import HandS.CallSlots
import HandS.TryMany
import HandS.Style
import HandS.TupLe
import KE.SortKeyHeap
import HandS.SortKw
import HandS.Deep
import KE.SortData
import HandS.ExcIs
import HandS.NoneIn
import HandS.HeadHook1
import HandS.HeadHook4
import HandS.Zip
import KE.GoesMore
import HandS.RaiseMore
import HandS.WrittenGet
import HandS.HeadHook2
import HandS.Text
import KE.GoesRaise
import KE.KAsSuite
import HandS.ReplaceLit
import HandS.HotCalls
import KE.KStateDown
import Lean
import HandS.Wide
import HandS.StrMore
import HandS.Head0
import HandS.Head1
import HandS.Head2
import HandS.HeadEnd
import HandS.HeadWalk
import HandS.HeadHook3
import HandS.StrSplit
import PySem.Challenge.RW_stockfloor_k13_whole_books
set_option Elab.async false
set_option linter.all false
set_option maxRecDepth 100000
set_option maxHeartbeats 4000000
/-! A calculus of symbolic states over the readings: data (what never changes again) and owned objects. -/
namespace Sf
open PySem L2

/-! ### worlds: a heap and the part of it that stays -/
structure Wd where
  i : Hp
  h : Hp
  s : Same i h
/-- a thing that is no tuple -/
def Mx (u : Option HO) : Prop := ∃ o, u = some o ∧ ∀ xs, o ≠ .tup xs
theorem Mx.ne {u : Option HO} (h : Mx u) : u ≠ none := let ⟨o, e, _⟩ := h; by rw [e]; simp
/-- a step that may touch the addresses F alone -/
structure LeX (F : List Addr) (W W' : Wd) : Prop where
  i : Same W.i W'.i
  h : ∀ a o, W.h a = some o → a ∉ F → W'.h a = some o
  n : ∀ a, W.i a = none → Mx (W.h a) → W'.i a = none
  d : ∀ a, W.h a ≠ none → W'.h a ≠ none
  m : ∀ a, Mx (W.h a) → Mx (W'.h a)
abbrev Le := LeX []
theorem LeX.refl (F : List Addr) (W : Wd) : LeX F W W := ⟨fun _ _ h => h, fun _ _ h _ => h, fun _ h _ => h, fun _ h => h, fun _ h => h⟩
theorem LeX.trans {F : List Addr} {W W1 W2 : Wd} (a : LeX F W W1) (b : LeX F W1 W2) : LeX F W W2 :=
  ⟨fun x o h => b.i x o (a.i x o h), fun x o h n => b.h x o (a.h x o h n) n, fun x h1 h2 => b.n x (a.n x h1 h2) (a.m x h2), fun x h => b.d x (a.d x h), fun x h => b.m x (a.m x h)⟩
theorem LeX.mono {F G : List Addr} {W W1 : Wd} (a : LeX F W W1) (h : ∀ x ∈ F, x ∈ G) : LeX G W W1 :=
  ⟨a.i, fun x o e n => a.h x o e fun m => n (h x m), a.n, a.d, a.m⟩
theorem LeX.of {F : List Addr} {W W1 : Wd} (a : Le W W1) : LeX F W W1 := a.mono (by intro x h; cases h)
theorem Le.same {W W1 : Wd} (a : Le W W1) : Same W.h W1.h := fun x o h => a.h x o h (by intro z; cases z)

end Sf
namespace L2
open PySem
abbrev PD := PyData
theorem sf_sqL {K : PySem.W.Frag} {H H' : Hp} {a : Addr} {xs : List V} (e : Same H H') (h : SqL K H a xs) : SqL K H' a xs := e.seq h
theorem sf_sqT {K : PySem.W.Frag} {H H' : Hp} {a : Addr} {xs : List V} (e : Same H H') (h : SqT K H a xs) : SqT K H' a xs := by
  rcases h with (h | ⟨o, h⟩) | h
  · exact .inl (.inl (e _ _ h))
  · exact .inl (.inr ⟨o, e _ _ h⟩)
  · exact .inr h
mutual
theorem Dp.ex {K : PySem.W.Frag} {H H' : Hp} (e : Same H H') : ∀ {v : V} {d : PD}, Dp K H v d → Dp K H' v d
  | _, _, .non => .non
  | _, _, .bl b => .bl b
  | _, _, .int i => .int i
  | _, _, .str x => .str x
  | _, _, .lst h r => .lst (sf_sqL e h) (DpAll.ex e r)
  | _, _, .tup h r => .tup (sf_sqT e h) (DpAll.ex e r)
theorem DpAll.ex {K : PySem.W.Frag} {H H' : Hp} (e : Same H H') : ∀ {vs : List V} {ds : List PD}, DpAll K H vs ds → DpAll K H' vs ds
  | _, _, .nil => .nil
  | _, _, .cons h r => .cons (Dp.ex e h) (DpAll.ex e r)
end
theorem DpAll.length {K : PySem.W.Frag} {H : Hp} : ∀ {vs : List V} {ds : List PD}, DpAll K H vs ds → vs.length = ds.length
  | _, _, .nil => rfl
  | _, _, .cons _ r => congrArg (· + 1) (DpAll.length r)
theorem DpAll.get {K : PySem.W.Frag} {H : Hp} : ∀ {vs : List V} {ds : List PD} {j : Nat} {d : PD}, DpAll K H vs ds → ds[j]? = some d → ∃ v, vs[j]? = some v ∧ Dp K H v d
  | _, _, _, _, .nil, e => by simp at e
  | _, _, 0, d, .cons h _, e => by
    simp at e
    subst e
    exact ⟨_, rfl, h⟩
  | _, _, j + 1, d, .cons _ r, e => by
    obtain ⟨v, h1, h2⟩ := DpAll.get (j := j) r (by simpa using e)
    exact ⟨v, by simpa using h1, h2⟩
theorem DpAll.getV {K : PySem.W.Frag} {H : Hp} : ∀ {vs : List V} {ds : List PD} {j : Nat} {v : V}, DpAll K H vs ds → vs[j]? = some v → ∃ d, ds[j]? = some d ∧ Dp K H v d
  | _, _, _, _, .nil, e => by simp at e
  | _, _, 0, d, .cons h _, e => by
    simp at e
    subst e
    exact ⟨_, rfl, h⟩
  | _, _, j + 1, d, .cons _ r, e => by
    obtain ⟨v, h1, h2⟩ := DpAll.getV (j := j) r (by simpa using e)
    exact ⟨v, by simpa using h1, h2⟩
theorem DpAll.app {K : PySem.W.Frag} {H : Hp} : ∀ {vs ws : List V} {ds es : List PD}, DpAll K H vs ds → DpAll K H ws es → DpAll K H (vs ++ ws) (ds ++ es)
  | _, _, _, _, .nil, s => s
  | _, _, _, _, .cons h r, s => .cons h (DpAll.app r s)
theorem DpAll.set {K : PySem.W.Frag} {H : Hp} {v : V} {d : PD} (q : Dp K H v d) : ∀ {vs : List V} {ds : List PD} (j : Nat), DpAll K H vs ds → DpAll K H (vs.set j v) (ds.set j d)
  | _, _, _, .nil => .nil
  | _, _, 0, .cons h r => .cons q r
  | _, _, j + 1, .cons h r => .cons h (DpAll.set q j r)
theorem DpAll.take {K : PySem.W.Frag} {H : Hp} : ∀ {vs : List V} {ds : List PD} (n : Nat), DpAll K H vs ds → DpAll K H (vs.take n) (ds.take n)
  | _, _, 0, _ => .nil
  | _, _, _ + 1, .nil => .nil
  | _, _, n + 1, .cons h r => .cons h (DpAll.take n r)
theorem DpAll.drop {K : PySem.W.Frag} {H : Hp} : ∀ {vs : List V} {ds : List PD} (n : Nat), DpAll K H vs ds → DpAll K H (vs.drop n) (ds.drop n)
  | _, _, 0, r => r
  | _, _, _ + 1, .nil => .nil
  | _, _, n + 1, .cons h r => DpAll.drop n r
theorem DpAll.atI {K : PySem.W.Frag} {H : Hp} {vs : List V} {ds : List PD} {i : Int} {d : PD} (r : DpAll K H vs ds) (e : L2.atI ds i = some d) : ∃ v, L2.atI vs i = some v ∧ Dp K H v d := by
  unfold L2.atI at e ⊢
  rw [r.length]
  cases q : ixN ds.length i with
  | none => rw [q] at e; cases e
  | some j =>
    rw [q] at e
    exact r.get e
theorem DpAll.ints {K : PySem.W.Frag} {H : Hp} : ∀ {ns : List Int} , DpAll K H (ns.map V.int) (ns.map PyData.int)
  | [] => .nil
  | n :: r => .cons (.int n) DpAll.ints
theorem DpAll.ints_inv {K : PySem.W.Frag} {H : Hp} : ∀ {ns : List Int} {vs : List V}, DpAll K H vs (ns.map PyData.int) → vs = ns.map V.int
  | [], _, .nil => rfl
  | n :: r, _, .cons (.int _) q => by rw [DpAll.ints_inv q]; rfl
theorem DpAll.strs {K : PySem.W.Frag} {H : Hp} : ∀ {ns : List Str} , DpAll K H (ns.map V.str) (ns.map PyData.str)
  | [] => .nil
  | n :: r => .cons (.str n) DpAll.strs
theorem DpAll.strs_inv {K : PySem.W.Frag} {H : Hp} : ∀ {ns : List Str} {vs : List V}, DpAll K H vs (ns.map PyData.str) → vs = ns.map V.str
  | [], _, .nil => rfl
  | n :: r, _, .cons (.str _) q => by rw [DpAll.strs_inv q]; rfl

end L2
namespace Sf
open PySem L2
/-! ### what a slot holds: data, or a value as it is -/
inductive Sv where
  | d (x : PD)
  | r (v : V)
  /-- a dict that is walked, locked -/
  | fk (o : Obj) (ws : List (Key × V))
  | ft (o : Obj) (ws : List (List Key × V))
  /-- the tuple ({}, 1); lists and tuples of data and such tuples; a list by its values -/
  | raw
  | xl (os : List (Option PD))
  | xt (os : List (Option PD))
  | xv (vs : List V) (os : List (Option PD))
def RawT (K : PySem.W.Frag) (I : Hp) (v : V) : Prop := ∃ p q, v = .ref p ∧ SqT K I p [.ref q, .int 1] ∧ I q = some (.dK [])
def XOk (K : PySem.W.Frag) (I : Hp) (v : V) : Option PD → Prop
  | some d => Dp K I v d
  | none => RawT K I v
theorem RawT.ex {K : PySem.W.Frag} {H H' : Hp} {v : V} (e : Same H H') (h : RawT K H v) : RawT K H' v := by
  obtain ⟨p, q, h1, h2, h3⟩ := h
  exact ⟨p, q, h1, sf_sqT e h2, e _ _ h3⟩
theorem XOk.ex {K : PySem.W.Frag} {H H' : Hp} {v : V} {o : Option PD} (e : Same H H') (h : XOk K H v o) : XOk K H' v o := by
  cases o with
  | some d => exact Dp.ex e h
  | none => exact RawT.ex e h
abbrev XAll (K : PySem.W.Frag) (I : Hp) : List V → List (Option PD) → Prop := Paired (XOk K I)
theorem XAll.ex {K : PySem.W.Frag} {H H' : Hp} {vs : List V} {os : List (Option PD)} (e : Same H H') (h : XAll K H vs os) : XAll K H' vs os := L2.Paired.mapP h fun _ _ z => z.ex e
def SvOk (K : PySem.W.Frag) (I : Hp) (v : V) : Sv → Prop
  | .d x => Dp K I v x
  | .r u => v = u
  | .fk o ws => ∃ p, v = .ref p ∧ I p = some (.frz o (.dK ws))
  | .ft o ws => ∃ p, v = .ref p ∧ I p = some (.frz o (.dT ws))
  | .raw => RawT K I v
  | .xl os => ∃ p vs, v = .ref p ∧ SqL K I p vs ∧ XAll K I vs os
  | .xt os => ∃ p vs, v = .ref p ∧ SqT K I p vs ∧ XAll K I vs os
  | .xv vs os => ∃ p, v = .ref p ∧ SqL K I p vs ∧ XAll K I vs os
theorem SvOk.ex {K : PySem.W.Frag} {H H' : Hp} {v : V} {s : Sv} (e : Same H H') (h : SvOk K H v s) : SvOk K H' v s := by
  cases s with
  | d x => exact Dp.ex e h
  | r u => exact h
  | fk o ws =>
    obtain ⟨p, h1, h2⟩ := h
    exact ⟨p, h1, e _ _ h2⟩
  | ft o ws =>
    obtain ⟨p, h1, h2⟩ := h
    exact ⟨p, h1, e _ _ h2⟩
  | raw => exact RawT.ex e h
  | xl os =>
    obtain ⟨p, vs, h1, h2, h3⟩ := h
    exact ⟨p, vs, h1, sf_sqL e h2, XAll.ex e h3⟩
  | xt os =>
    obtain ⟨p, vs, h1, h2, h3⟩ := h
    exact ⟨p, vs, h1, sf_sqT e h2, XAll.ex e h3⟩
  | xv vs os =>
    obtain ⟨p, h1, h2, h3⟩ := h
    exact ⟨p, h1, sf_sqL e h2, XAll.ex e h3⟩

/-! ### owned objects -/
def Kv {κ : Type} (K : PySem.W.Frag) (I : Hp) : List (κ × V) → List (κ × PD) → Prop := Paired fun p q => p.1 = q.1 ∧ Dp K I p.2 q.2
theorem Kv.ex {κ : Type} {K : PySem.W.Frag} {H H' : Hp} (e : Same H H') {ws : List (κ × V)} {kvs : List (κ × PD)} (h : Kv K H ws kvs) : Kv K H' ws kvs := L2.Paired.mapP h fun _ _ z => ⟨z.1, Dp.ex e z.2⟩
inductive OO where
  | lst (ds : List PD)
  | dK (kvs : List (Key × PD))
  | dT (kvs : List (List Key × PD))
  | ins (C : Addr) (fs : List (Str × V))
def OOk (K : PySem.W.Frag) (W : Wd) (p : Addr) : OO → Prop
  | .lst ds => ∃ vs, W.h p = some (.lst vs) ∧ DpAll K W.i vs ds
  | .dK kvs => ∃ ws, W.h p = some (.dK ws) ∧ Kv K W.i ws kvs
  | .dT kvs => ∃ ws, W.h p = some (.dT ws) ∧ Kv K W.i ws kvs
  | .ins C fs => ∃ dx, W.h p = some (.ins C dx fs)
theorem OOk.mx {K : PySem.W.Frag} {W : Wd} {p : Addr} {o : OO} (h : OOk K W p o) : Mx (W.h p) := by
  cases o with
  | lst ds => obtain ⟨vs, h1, _⟩ := h; exact ⟨_, h1, fun _ z => nomatch z⟩
  | dK kvs => obtain ⟨vs, h1, _⟩ := h; exact ⟨_, h1, fun _ z => nomatch z⟩
  | dT kvs => obtain ⟨vs, h1, _⟩ := h; exact ⟨_, h1, fun _ z => nomatch z⟩
  | ins C fs => obtain ⟨vs, h1⟩ := h; exact ⟨_, h1, fun _ z => nomatch z⟩
theorem OOk.le {K : PySem.W.Frag} {W W' : Wd} {p : Addr} {o : OO} (h : OOk K W p o) (l : Same W.i W'.i) (e : ∀ u, W.h p = some u → W'.h p = some u) : OOk K W' p o := by
  cases o with
  | lst ds =>
    obtain ⟨vs, h1, h2⟩ := h
    exact ⟨vs, e _ h1, DpAll.ex l h2⟩
  | dK kvs =>
    obtain ⟨vs, h1, h2⟩ := h
    exact ⟨vs, e _ h1, Kv.ex l h2⟩
  | dT kvs =>
    obtain ⟨vs, h1, h2⟩ := h
    exact ⟨vs, e _ h1, Kv.ex l h2⟩
  | ins C fs =>
    obtain ⟨vs, h1⟩ := h
    exact ⟨vs, e _ h1⟩
abbrev Mu := List (Addr × OO)
abbrev De := List (Option Sv)

/-- a list of owned objects stands, each apart -/
structure Owns (K : PySem.W.Frag) (W : Wd) (μ : Mu) : Prop where
  ok : ∀ e ∈ μ, OOk K W e.1 e.2
  fr : ∀ e ∈ μ, W.i e.1 = none ∧ W.h e.1 ≠ none
  nd : (μ.map (·.1)).Nodup

/-- where one stands: the written part, the entry's world, what may be touched of it, ghosts -/
structure Ga where
  K : PySem.W.Frag
  W0 : Wd
  F : List Addr
  O : List Addr
  gh : List (V × Sv)
/-- p may be written: it is to be touched, or it was made here -/
def Ga.may (Γ : Ga) (p : Addr) : Prop := p ∈ Γ.F ∨ p ∉ Γ.O

structure Ast (Γ : Ga) (σ : L2.St) (W : Wd) (δ : De) (μ : Mu) : Prop where
  bs : LeX Γ.F Γ.W0 W
  len : σ.length = δ.length
  sl : ∀ (j : Nat) s, δ[j]? = some (some s) → ∃ v, σ[j]? = some (some v) ∧ SvOk Γ.K W.i v s
  ow : Owns Γ.K W μ
  fo : ∀ e ∈ μ, e.1 ∈ Γ.O ∨ Γ.W0.h e.1 = none
  gh : ∀ g ∈ Γ.gh, SvOk Γ.K W.i g.1 g.2
  fF : ∀ b ∈ Γ.O, Γ.W0.h b ≠ none

theorem Owns.le {K : PySem.W.Frag} {W W' : Wd} {μ : Mu} {F : List Addr} (o : Owns K W μ) (l : LeX F W W') (hF : ∀ e ∈ μ, e.1 ∉ F) : Owns K W' μ :=
  ⟨fun e he => (o.ok e he).le l.i fun u h => l.h _ _ h (hF e he), fun e he => ⟨l.n _ (o.fr e he).1 (o.ok e he).mx, l.d _ (o.fr e he).2⟩, o.nd⟩
theorem Ast.le {Γ : Ga} {σ : L2.St} {W W' : Wd} {δ : De} {μ : Mu} (a : Ast Γ σ W δ μ) (l : Le W W') : Ast Γ σ W' δ μ :=
  ⟨a.bs.trans (LeX.of l), a.len, fun j s h => let ⟨v, h1, h2⟩ := a.sl j s h; ⟨v, h1, h2.ex l.i⟩, a.ow.le l (fun _ _ z => nomatch z), a.fo, fun g hg => (a.gh g hg).ex l.i, a.fF⟩
theorem Ast.set {Γ : Ga} {σ : L2.St} {W : Wd} {δ : De} {μ : Mu} (a : Ast Γ σ W δ μ) (j : Nat) {v : V} {s : Sv} (h : SvOk Γ.K W.i v s) : Ast Γ (σ.set j (some v)) W (δ.set j (some s)) μ := by
  refine ⟨a.bs, by simpa using a.len, fun k t e => ?_, a.ow, a.fo, a.gh, a.fF⟩
  by_cases hk : k = j
  · subst hk
    have hl : k < δ.length := by
      have := (List.getElem?_eq_some_iff.mp e).1
      simpa using this
    rw [List.getElem?_set_self hl] at e
    cases e
    exact ⟨v, List.getElem?_set_self (by rw [a.len]; exact hl), h⟩
  · rw [List.getElem?_set_ne (Ne.symm hk)] at e
    rw [List.getElem?_set_ne (Ne.symm hk)]
    exact a.sl k t e
/-- forget slots -/
theorem Ast.weak {Γ : Ga} {σ : L2.St} {W : Wd} {δ δ' : De} {μ : Mu} (a : Ast Γ σ W δ μ) (hl : δ'.length = δ.length) (h : ∀ (j : Nat) s, δ'[j]? = some (some s) → δ[j]? = some (some s)) : Ast Γ σ W δ' μ :=
  ⟨a.bs, a.len.trans hl.symm, fun j s e => a.sl j s (h j s e), a.ow, a.fo, a.gh, a.fF⟩
theorem Ast.ghost {Γ : Ga} {σ : L2.St} {W : Wd} {δ : De} {μ : Mu} (a : Ast Γ σ W δ μ) {v : V} {s : Sv} (h : SvOk Γ.K W.i v s) : Ast { Γ with gh := (v, s) :: Γ.gh } σ W δ μ :=
  ⟨a.bs, a.len, a.sl, a.ow, a.fo, fun g hg => by
    rcases List.mem_cons.mp hg with rfl | hg
    · exact h
    · exact a.gh g hg, a.fF⟩
theorem Ast.unghost {Γ : Ga} {σ : L2.St} {W : Wd} {δ : De} {μ : Mu} {g : V × Sv} (a : Ast { Γ with gh := g :: Γ.gh } σ W δ μ) : Ast Γ σ W δ μ :=
  ⟨a.bs, a.len, a.sl, a.ow, a.fo, fun g hg => a.gh g (List.mem_cons_of_mem _ hg), a.fF⟩
/-- fewer owned ones, in another order -/
theorem Ast.mu {Γ : Ga} {σ : L2.St} {W : Wd} {δ : De} {μ μ' : Mu} (a : Ast Γ σ W δ μ) (h : ∀ e ∈ μ', e ∈ μ) (nd : (μ'.map (·.1)).Nodup) : Ast Γ σ W δ μ' :=
  ⟨a.bs, a.len, a.sl, ⟨fun e he => a.ow.ok e (h e he), fun e he => a.ow.fr e (h e he), nd⟩, fun e he => a.fo e (h e he), a.gh, a.fF⟩

/-! ### making worlds -/
/-- a new object that stays -/
def Wd.put (W : Wd) (p : Addr) (o : HO) (n : W.h p = none) : Wd := ⟨upd W.i p o, upd W.h p o, fun a u h => by
  by_cases e : a = p
  · subst e
    rw [upd_same] at h ⊢
    exact h
  · rw [upd_ne e] at h ⊢
    exact W.s a u h⟩
theorem Wd.none_of {W : Wd} {p : Addr} (n : W.h p = none) : W.i p = none := by
  cases q : W.i p with
  | none => rfl
  | some o => rw [W.s p o q] at n; cases n
theorem mx_ne {W : Wd} {p a : Addr} {o : HO} (n : W.h p = none) (h : Mx (W.h a)) : Mx (upd W.h p o a) := by
  obtain ⟨u, e, t⟩ := h
  refine ⟨u, ?_, t⟩
  rw [upd_ne]
  · exact e
  · intro z; subst z; rw [n] at e; cases e
theorem le_put {W : Wd} {p : Addr} {o : HO} (n : W.h p = none) : Le W (W.put p o n) := by
  refine ⟨fun a u h => ?_, fun a u h _ => ?_, fun a h1 h2 => ?_, fun a h => ?_, fun a h => mx_ne n h⟩
  · show upd W.i p o a = some u
    rw [upd_ne]
    · exact h
    · intro e; subst e; rw [Wd.none_of n] at h; cases h
  · show upd W.h p o a = some u
    rw [upd_ne]
    · exact h
    · intro e; subst e; rw [n] at h; cases h
  · show upd W.i p o a = none
    rw [upd_ne]
    · exact h1
    · intro e; subst e; exact h2.ne n
  · show upd W.h p o a ≠ none
    by_cases e : a = p
    · subst e; rw [upd_same]; simp
    · rw [upd_ne e]; exact h
/-- a new object that may change; a write -/
def Wd.wr (W : Wd) (p : Addr) (o : HO) (n : W.i p = none) : Wd := ⟨W.i, upd W.h p o, fun a u h => by
  show upd W.h p o a = some u
  rw [upd_ne]
  · exact W.s a u h
  · intro e; subst e; rw [n] at h; cases h⟩
theorem le_new {W : Wd} {p : Addr} {o : HO} (n : W.h p = none) : Le W (W.wr p o (Wd.none_of n)) :=
  ⟨fun _ _ h => h, fun a u h _ => (by
    show upd W.h p o a = some u
    rw [upd_ne]
    · exact h
    · intro e; subst e; rw [n] at h; cases h), fun _ h _ => h, fun a h => (by
    show upd W.h p o a ≠ none
    by_cases e : a = p
    · subst e; rw [upd_same]; simp
    · rw [upd_ne e]; exact h), fun a h => mx_ne n h⟩
theorem le_wr {W : Wd} {p : Addr} {o : HO} (n : W.i p = none) (ho : Mx (some o)) : LeX [p] W (W.wr p o n) :=
  ⟨fun _ _ h => h, fun a u h m => (by
    show upd W.h p o a = some u
    rw [upd_ne]
    · exact h
    · intro e; subst e; exact m List.mem_cons_self), fun _ h _ => h, fun a h => (by
    show upd W.h p o a ≠ none
    by_cases e : a = p
    · subst e; rw [upd_same]; simp
    · rw [upd_ne e]; exact h), fun a h => (by
    show Mx (upd W.h p o a)
    by_cases e : a = p
    · subst e; rw [upd_same]; exact ho
    · rw [upd_ne e]; exact h)⟩
/-- what was owned stays from now on -/
def Wd.fz (W : Wd) (p : Addr) (o : HO) (h : W.h p = some o) : Wd := ⟨upd W.i p o, W.h, fun a u e => by
  by_cases z : a = p
  · subst z
    rw [upd_same] at e
    rw [← e]
    exact h
  · rw [upd_ne z] at e
    exact W.s a u e⟩

/-! ### an owned object is written; a new one comes -/
theorem Ast.wr {Γ : Ga} {σ : L2.St} {W : Wd} {δ : De} {μ : Mu} {p : Addr} {o o' : OO} {u : HO} (a : Ast Γ σ W δ ((p, o) :: μ)) (m : Γ.may p) (n : W.i p = none) (h : OOk Γ.K (W.wr p u n) p o') : Ast Γ σ (W.wr p u n) δ ((p, o') :: μ) := by
  have nd := a.ow.nd
  have hp : p ∉ μ.map (·.1) := (List.nodup_cons.mp nd).1
  have hx : Mx (some u) := by
    have e : (W.wr p u n).h p = some u := upd_same
    have := h.mx
    rwa [e] at this
  have l := le_wr (W := W) (p := p) (o := u) n hx
  refine ⟨⟨a.bs.i, fun b w e m' => ?_, a.bs.n, fun b e => l.d b (a.bs.d b e), fun b e => l.m b (a.bs.m b e)⟩, a.len, a.sl, ⟨fun e he => ?_, fun e he => ?_, nd⟩, fun e he => ?_, a.gh, a.fF⟩
  · have e1 := a.bs.h b w e m'
    refine l.h b w e1 fun z => ?_
    have z : b = p := by simpa using z
    subst z
    rcases m with q | q
    · exact m' q
    · have q := (a.fo (b, o) List.mem_cons_self).resolve_left q
      rw [q] at e; cases e
  · rcases List.mem_cons.mp he with rfl | he
    · exact h
    · exact (a.ow.ok e (List.mem_cons_of_mem _ he)).le (fun _ _ z => z) fun v q => l.h _ _ q fun z => hp (by
        have z : e.1 = p := by simpa using z
        rw [← z]
        exact List.mem_map_of_mem he)
  · rcases List.mem_cons.mp he with rfl | he
    · exact ⟨n, l.d _ (a.ow.fr (p, o) List.mem_cons_self).2⟩
    · exact ⟨(a.ow.fr e (List.mem_cons_of_mem _ he)).1, l.d _ (a.ow.fr e (List.mem_cons_of_mem _ he)).2⟩
  · rcases List.mem_cons.mp he with rfl | he
    · exact a.fo (p, o) List.mem_cons_self
    · exact a.fo e (List.mem_cons_of_mem _ he)
theorem Ast.new {Γ : Ga} {σ : L2.St} {W : Wd} {δ : De} {μ : Mu} {p : Addr} {o : OO} {u : HO} (a : Ast Γ σ W δ μ) (n : W.h p = none) (h : OOk Γ.K (W.wr p u (Wd.none_of n)) p o) : Ast Γ σ (W.wr p u (Wd.none_of n)) δ ((p, o) :: μ) := by
  have a1 := a.le (le_new (o := u) n)
  refine ⟨a1.bs, a1.len, a1.sl, ⟨fun e he => ?_, fun e he => ?_, List.nodup_cons.mpr ⟨fun m => ?_, a1.ow.nd⟩⟩, fun e he => ?_, a1.gh, a1.fF⟩
  · rcases List.mem_cons.mp he with rfl | he
    · exact h
    · exact a1.ow.ok e he
  · rcases List.mem_cons.mp he with rfl | he
    · refine ⟨Wd.none_of (W := W) n, ?_⟩
      show upd W.h p u p ≠ none
      rw [upd_same]
      simp
    · exact a1.ow.fr e he
  · obtain ⟨e, he, q⟩ := List.mem_map.mp m
    have := (a.ow.fr e he).2
    rw [q] at this
    exact this n
  · rcases List.mem_cons.mp he with rfl | he
    · right
      cases q : Γ.W0.h p with
      | none => rfl
      | some w =>
        have := a.bs.d p (by rw [q]; simp)
        exact absurd n this
    · exact a1.fo e he
theorem Ast.fresh {Γ : Ga} {σ : L2.St} {W : Wd} {δ : De} {μ : Mu} {p : Addr} (a : Ast Γ σ W δ μ) (n : W.h p = none) : Γ.W0.h p = none ∧ p ∉ Γ.O ∧ p ∉ μ.map (·.1) := by
  refine ⟨?_, fun m => a.bs.d p (a.fF p m) n, fun m => ?_⟩
  · cases q : Γ.W0.h p with
    | none => rfl
    | some w => exact absurd n (a.bs.d p (by rw [q]; simp))
  · obtain ⟨e, he, q⟩ := List.mem_map.mp m
    exact (a.ow.fr e he).2 (q ▸ n)
theorem perm_erase {α : Type} : ∀ {l : List α} {k : Nat} {x : α}, l[k]? = some x → (x :: l.eraseIdx k).Perm l
  | [], k, x, h => by simp at h
  | a :: l, 0, x, h => by
    simp at h
    subst h
    exact List.Perm.refl _
  | a :: l, k + 1, x, h => by
    have ih := perm_erase (l := l) (k := k) (x := x) (by simpa using h)
    exact (List.Perm.swap a x _).trans (ih.cons a)
/-- the k-th owned object is written -/
theorem Ast.wrAt {Γ : Ga} {σ : L2.St} {W : Wd} {δ : De} {μ : Mu} {p : Addr} {o o' : OO} {u : HO} (k : Nat) (hk : μ[k]? = some (p, o)) (a : Ast Γ σ W δ μ) (m : Γ.may p) (h : ∀ n, OOk Γ.K (W.wr p u n) p o') : ∃ n, Ast Γ σ (W.wr p u n) δ (μ.set k (p, o')) := by
  have hm : (p, o) ∈ μ := List.mem_of_getElem? hk
  have n : W.i p = none := (a.ow.fr _ hm).1
  have hl : k < μ.length := (List.getElem?_eq_some_iff.mp hk).1
  have perm := perm_erase hk
  have a1 : Ast Γ σ W δ ((p, o) :: μ.eraseIdx k) := a.mu (fun e he => perm.mem_iff.mp he) ((perm.map _).nodup_iff.mpr a.ow.nd)
  have a2 := a1.wr m n (h n)
  refine ⟨n, a2.mu (fun e he => ?_) ?_⟩
  · obtain ⟨j, hj, e1⟩ := List.mem_iff_getElem.mp he
    rw [List.getElem_set] at e1
    split at e1
    · rw [← e1]; exact List.mem_cons_self
    · rename_i hne
      refine List.mem_cons_of_mem _ ?_
      have hj' : j < μ.length := by simpa using hj
      rw [← e1]
      refine List.mem_eraseIdx_iff_getElem.mpr ⟨j, hj', fun z => hne z.symm, rfl⟩
  · have e : (μ.set k (p, o')).map (·.1) = μ.map (·.1) := by
      rw [List.map_set]
      refine List.ext_getElem? fun j => ?_
      by_cases hj : k = j
      · subst hj
        rw [List.getElem?_set_self (by simpa using hl), List.getElem?_map, hk]
        rfl
      · rw [List.getElem?_set_ne hj]
    rw [e]
    exact a.ow.nd
/-- an owned list that was made here stays from now on -/
theorem Ast.fz {Γ : Ga} {σ : L2.St} {W : Wd} {δ : De} {μ : Mu} {p : Addr} {ds : List PD} (a : Ast Γ σ W δ ((p, .lst ds) :: μ)) (hp : p ∉ Γ.O) : ∃ W', W'.h = W.h ∧ Same W.i W'.i ∧ Ast Γ σ W' δ μ ∧ Dp Γ.K W'.i (.ref p) (.list ds) := by
  have h0 : Γ.W0.h p = none := (a.fo _ List.mem_cons_self).resolve_left hp
  obtain ⟨vs, h1, h2⟩ := a.ow.ok _ List.mem_cons_self
  have hi : W.i p = none := (a.ow.fr _ List.mem_cons_self).1
  have hx : Same W.i (W.fz p _ h1).i := fun b u e => by
    show upd W.i p _ b = some u
    rw [upd_ne]
    · exact e
    · intro z; subst z; rw [hi] at e; cases e
  have nd := List.nodup_cons.mp a.ow.nd
  have ne : ∀ e ∈ μ, e.1 ≠ p := fun e he z => nd.1 (List.mem_map.mpr ⟨e, he, z⟩)
  refine ⟨W.fz p _ h1, rfl, hx, ⟨⟨fun b u e => hx b u (a.bs.i b u e), a.bs.h, fun b e1 e2 => ?_, a.bs.d, a.bs.m⟩, a.len, fun j s e => ?_, ⟨fun e he => ?_, fun e he => ?_, nd.2⟩, fun e he => a.fo e (List.mem_cons_of_mem _ he), fun g hg => (a.gh g hg).ex hx, a.fF⟩, .lst (SqL.of upd_same) (h2.ex hx)⟩
  · show upd W.i p _ b = none
    rw [upd_ne]
    · exact a.bs.n b e1 e2
    · intro z; subst z; exact e2.ne h0
  · obtain ⟨v, e1, e2⟩ := a.sl j s e
    exact ⟨v, e1, e2.ex hx⟩
  · exact (a.ow.ok e (List.mem_cons_of_mem _ he)).le hx fun _ q => q
  · refine ⟨?_, (a.ow.fr e (List.mem_cons_of_mem _ he)).2⟩
    show upd W.i p _ e.1 = none
    rw [upd_ne (ne e he)]
    exact (a.ow.fr e (List.mem_cons_of_mem _ he)).1
end Sf
namespace Sf
open PySem L2
abbrev dI (i : Int) : Sv := .d (.int i)
abbrev dS (s : Str) : Sv := .d (.str s)
abbrev dB (b : Bool) : Sv := .d (.bool b)
abbrev dN : Sv := .d .none
abbrev dL (ds : List PD) : Sv := .d (.list ds)
abbrev dU (ds : List PD) : Sv := .d (.tuple ds)
theorem Same.rfl' {H : Hp} : Same H H := fun _ _ h => h

/-! ### what an expression, a test, arguments evaluate to, and what the owned objects are behind it -/
def Ev (Γ : Ga) (te : TE) (δ : De) (μ : Mu) (s : Sv) (μ' : Mu) : Prop := ∀ σ W, Ast Γ σ W δ μ → ∀ Q : VK, (∀ v W', Ast Γ σ W' δ μ' → Same W.i W'.i → SvOk Γ.K W'.i v s → Q v W'.h) → te σ W.h Q
def EvT (Γ : Ga) (tt : TT) (δ : De) (μ : Mu) (b : Bool) (μ' : Mu) : Prop := ∀ σ W, Ast Γ σ W δ μ → ∀ Q : Bool → Hp → Prop, (∀ W', Ast Γ σ W' δ μ' → Same W.i W'.i → Q b W'.h) → tt σ W.h Q
abbrev SvAll (K : PySem.W.Frag) (I : Hp) : List V → List Sv → Prop := Paired (SvOk K I)
def EvA (Γ : Ga) (ta : TA) (δ : De) (μ : Mu) (ss : List Sv) (μ' : Mu) : Prop := ∀ σ W, Ast Γ σ W δ μ → ∀ Q : List V → Hp → Prop, (∀ vs W', Ast Γ σ W' δ μ' → Same W.i W'.i → SvAll Γ.K W'.i vs ss → Q vs W'.h) → ta σ W.h Q
def EvO (Γ : Ga) (to : TO) (δ : De) (μ : Mu) (o : Option Int) (μ' : Mu) : Prop := ∀ σ W, Ast Γ σ W δ μ → ∀ Q : Option Int → Hp → Prop, (∀ W', Ast Γ σ W' δ μ' → Same W.i W'.i → Q o W'.h) → to σ W.h Q

theorem SvAll.ex {K : PySem.W.Frag} {H H' : Hp} {vs : List V} {ss : List Sv} (e : Same H H') (h : SvAll K H vs ss) : SvAll K H' vs ss := L2.Paired.mapP h fun _ _ z => z.ex e

section
variable {Γ : Ga} {δ : De} {μ μ1 μ2 μ3 : Mu} {ta tb te tc : TE} {t u : TT} {i j : Int} {a b c : Bool} {x y : Str} {s s' : Sv} {d d' : PD} {ds es : List PD}
theorem Ev.to (h : Ev Γ te δ μ s μ1) (e : s = s') : Ev Γ te δ μ s' μ1 := e ▸ h
theorem EvT.to (h : EvT Γ t δ μ a μ1) (e : a = b) : EvT Γ t δ μ b μ1 := e ▸ h
theorem EvA.to {ta : TA} {ss ss' : List Sv} (h : EvA Γ ta δ μ ss μ1) (e : ss = ss') : EvA Γ ta δ μ ss' μ1 := e ▸ h
theorem e_var {k : Nat} (h : δ[k]? = some (some s)) : Ev Γ (tVar k) δ μ s μ := fun σ W A Q q =>
  let ⟨v, h1, h2⟩ := A.sl k s h
  ⟨v, h1, q v W A Same.rfl' h2⟩
theorem e_int : Ev Γ (tC (.int i)) δ μ (dI i) μ := fun σ W A Q q => q _ W A Same.rfl' (.int i)
theorem e_str : Ev Γ (tC (.str x)) δ μ (dS x) μ := fun σ W A Q q => q _ W A Same.rfl' (.str x)
theorem e_bl : Ev Γ (tC (.bl a)) δ μ (dB a) μ := fun σ W A Q q => q _ W A Same.rfl' (.bl a)
theorem e_non : Ev Γ (tC .non) δ μ dN μ := fun σ W A Q q => q _ W A Same.rfl' .non
theorem e_raw {v : V} : Ev Γ (tC v) δ μ (.r v) μ := fun σ W A Q q => q _ W A Same.rfl' rfl
/-- two in a row -/
theorem e_two (ha : Ev Γ ta δ μ s μ1) (hb : Ev Γ tb δ μ1 s' μ2) {σ : L2.St} {W : Wd} (A : Ast Γ σ W δ μ) {R : V → V → Hp → Prop} (k : ∀ v w W', Ast Γ σ W' δ μ2 → Same W.i W'.i → SvOk Γ.K W'.i v s → SvOk Γ.K W'.i w s' → R v w W'.h) :
    ta σ W.h fun x H1 => tb σ H1 fun y H2 => R x y H2 := by
  refine ha σ W A _ fun v W1 A1 l1 h1 => ?_
  exact hb σ W1 A1 _ fun w W2 A2 l2 h2 => k v w W2 A2 (l1.trans l2) (h1.ex l2) h2
theorem svI {K : PySem.W.Frag} {I : Hp} {v : V} (h : SvOk K I v (dI i)) : v = .int i := by
  have h : Dp K I v (.int i) := h
  cases h
  rfl
theorem svS {K : PySem.W.Frag} {I : Hp} {v : V} (h : SvOk K I v (dS x)) : v = .str x := by
  have h : Dp K I v (.str x) := h
  cases h
  rfl
theorem svB {K : PySem.W.Frag} {I : Hp} {v : V} (h : SvOk K I v (dB a)) : v = .bl a := by
  have h : Dp K I v (.bool a) := h
  cases h
  rfl
theorem svN {K : PySem.W.Frag} {I : Hp} {v : V} (h : SvOk K I v dN) : v = .non := by
  have h : Dp K I v .none := h
  cases h
  rfl
theorem svL {K : PySem.W.Frag} {I : Hp} {v : V} (h : SvOk K I v (dL ds)) : ∃ p vs, v = .ref p ∧ SqL K I p vs ∧ DpAll K I vs ds := by
  have h : Dp K I v (.list ds) := h
  cases h with
  | lst h1 h2 => exact ⟨_, _, rfl, h1, h2⟩
theorem svU {K : PySem.W.Frag} {I : Hp} {v : V} (h : SvOk K I v (dU ds)) : ∃ p vs, v = .ref p ∧ SqT K I p vs ∧ DpAll K I vs ds := by
  have h : Dp K I v (.tuple ds) := h
  cases h with
  | tup h1 h2 => exact ⟨_, _, rfl, h1, h2⟩
theorem Ev.rI (h : Ev Γ te δ μ (.r (.int i)) μ1) : Ev Γ te δ μ (dI i) μ1 := fun σ W A Q q => h σ W A Q fun v W' A' l e => q v W' A' l (by
  cases e
  exact .int i)
/-! ### ints -/
theorem e_opI {g : Int → Int → Int} (ha : Ev Γ ta δ μ (dI i) μ1) (hb : Ev Γ tb δ μ1 (dI j) μ2) : Ev Γ (tOp (rI0 fun i j => .int (g i j)) ta tb) δ μ (dI (g i j)) μ2 := fun σ W A Q q =>
  e_two ha hb A fun v w W' A' l h1 h2 => by
    cases svI h1
    cases svI h2
    exact ⟨i, j, rfl, rfl, q _ W' A' l (.int _)⟩
theorem e_opIC {C : Int → Int → Prop} {g : Int → Int → Int} (ha : Ev Γ ta δ μ (dI i) μ1) (hb : Ev Γ tb δ μ1 (dI j) μ2) (hc : C i j) : Ev Γ (tOp (rI C fun i j => .int (g i j)) ta tb) δ μ (dI (g i j)) μ2 := fun σ W A Q q =>
  e_two ha hb A fun v w W' A' l h1 h2 => by
    cases svI h1
    cases svI h2
    exact ⟨i, j, rfl, rfl, hc, q _ W' A' l (.int _)⟩
theorem e_opB {g : Int → Int → Bool} (ha : Ev Γ ta δ μ (dI i) μ1) (hb : Ev Γ tb δ μ1 (dI j) μ2) : Ev Γ (tOp (rI0 fun i j => .bl (g i j)) ta tb) δ μ (dB (g i j)) μ2 := fun σ W A Q q =>
  e_two ha hb A fun v w W' A' l h1 h2 => by
    cases svI h1
    cases svI h2
    exact ⟨i, j, rfl, rfl, q _ W' A' l (.bl _)⟩
theorem e_neg (ha : Ev Γ ta δ μ (dI i) μ1) : Ev Γ (tUn (rU fun i => .int (-i)) ta) δ μ (dI (-i)) μ1 := fun σ W A Q q =>
  ha σ W A _ fun v W' A' l h1 => by
    cases svI h1
    exact ⟨i, rfl, q _ W' A' l (.int _)⟩
theorem e_eqI (ha : Ev Γ ta δ μ (dI i) μ1) (hb : Ev Γ tb δ μ1 (dI j) μ2) : Ev Γ (tOp rEq ta tb) δ μ (dB (decide (i = j))) μ2 := fun σ W A Q q =>
  e_two ha hb A fun v w W' A' l h1 h2 => by
    cases svI h1
    cases svI h2
    refine ⟨rfl, ?_⟩
    have e : decide (V.int i = V.int j) = decide (i = j) := by simp
    rw [e]
    exact q _ W' A' l (.bl _)
theorem e_neI (ha : Ev Γ ta δ μ (dI i) μ1) (hb : Ev Γ tb δ μ1 (dI j) μ2) : Ev Γ (tOp rNe ta tb) δ μ (dB (!decide (i = j))) μ2 := fun σ W A Q q =>
  e_two ha hb A fun v w W' A' l h1 h2 => by
    cases svI h1
    cases svI h2
    refine ⟨rfl, ?_⟩
    have e : decide (V.int i = V.int j) = decide (i = j) := by simp
    rw [e]
    exact q _ W' A' l (.bl _)
theorem e_eqS (ha : Ev Γ ta δ μ (dS x) μ1) (hb : Ev Γ tb δ μ1 (dS y) μ2) : Ev Γ (tOp rEq ta tb) δ μ (dB (decide (x = y))) μ2 := fun σ W A Q q =>
  e_two ha hb A fun v w W' A' l h1 h2 => by
    cases svS h1
    cases svS h2
    refine ⟨rfl, ?_⟩
    have e : decide (V.str x = V.str y) = decide (x = y) := by simp
    rw [e]
    exact q _ W' A' l (.bl _)
theorem e_neS (ha : Ev Γ ta δ μ (dS x) μ1) (hb : Ev Γ tb δ μ1 (dS y) μ2) : Ev Γ (tOp rNe ta tb) δ μ (dB (!decide (x = y))) μ2 := fun σ W A Q q =>
  e_two ha hb A fun v w W' A' l h1 h2 => by
    cases svS h1
    cases svS h2
    refine ⟨rfl, ?_⟩
    have e : decide (V.str x = V.str y) = decide (x = y) := by simp
    rw [e]
    exact q _ W' A' l (.bl _)
/-- == of data at any depth -/
theorem e_eqD {K : PySem.W.Frag} (hK : Γ.K = K) (ha : Ev Γ ta δ μ (.d d) μ1) (hb : Ev Γ tb δ μ1 (.d d') μ2) (s1 : SeqAt.shaped d = true) (s2 : SeqAt.shaped d' = true) : Ev Γ (tOp (rEqD K) ta tb) δ μ (dB (PyData.eqv d d')) μ2 := fun σ W A Q q =>
  e_two ha hb A fun v w W' A' l h1 h2 => ⟨d, d', hK ▸ Dp.ex W'.s h1, hK ▸ Dp.ex W'.s h2, s1, s2, q _ W' A' l (.bl _)⟩
theorem e_neD {K : PySem.W.Frag} (hK : Γ.K = K) (ha : Ev Γ ta δ μ (.d d) μ1) (hb : Ev Γ tb δ μ1 (.d d') μ2) (s1 : SeqAt.shaped d = true) (s2 : SeqAt.shaped d' = true) : Ev Γ (tOp (rNeD K) ta tb) δ μ (dB (!PyData.eqv d d')) μ2 := fun σ W A Q q =>
  e_two ha hb A fun v w W' A' l h1 h2 => ⟨d, d', hK ▸ Dp.ex W'.s h1, hK ▸ Dp.ex W'.s h2, s1, s2, q _ W' A' l (.bl _)⟩
/-! ### is None -/
def isN : PD → Bool
  | .none => true
  | _ => false
theorem dp_isN {K : PySem.W.Frag} {I : Hp} {v : V} (h : Dp K I v d) : decide (v = .non) = isN d := by
  cases h <;> rfl
theorem e_isN (ha : Ev Γ ta δ μ (.d d) μ1) : Ev Γ (tIsN ta) δ μ (dB (isN d)) μ1 := fun σ W A Q q =>
  ha σ W A _ fun v W' A' l h1 => by
    rw [dp_isN h1]
    exact q _ W' A' l (.bl _)
theorem e_notN (ha : Ev Γ ta δ μ (.d d) μ1) : Ev Γ (tNotN ta) δ μ (dB (!isN d)) μ1 := fun σ W A Q q =>
  ha σ W A _ fun v W' A' l h1 => by
    rw [dp_isN h1]
    exact q _ W' A' l (.bl _)
/-! ### tests, and, or, not, if .. else -/
theorem t_tst (h : Ev Γ te δ μ (dB a) μ1) : EvT Γ (tTest te) δ μ a μ1 := fun σ W A Q q =>
  h σ W A _ fun v W' A' l h1 => ⟨a, svB h1, q W' A' l⟩
theorem t_B (h : Ev Γ te δ μ (dB a) μ1) : EvT Γ (tB te) δ μ a μ1 := fun σ W A Q q =>
  h σ W A _ fun v W' A' l h1 => ⟨a, svB h1, q W' A' l⟩
theorem t_and (h1 : EvT Γ t δ μ a μ1) (h2 : a = true → EvT Γ u δ μ1 b μ1) : EvT Γ (tAnd t u) δ μ (a && b) μ1 := fun σ W A Q q =>
  h1 σ W A _ fun W1 A1 l1 => by
    cases a with
    | true => exact h2 rfl σ W1 A1 Q fun W2 A2 l2 => q W2 A2 (l1.trans l2)
    | false => exact q W1 A1 l1
theorem t_or (h1 : EvT Γ t δ μ a μ1) (h2 : a = false → EvT Γ u δ μ1 b μ1) : EvT Γ (tOr t u) δ μ (a || b) μ1 := fun σ W A Q q =>
  h1 σ W A _ fun W1 A1 l1 => by
    cases a with
    | true => exact q W1 A1 l1
    | false => exact h2 rfl σ W1 A1 Q fun W2 A2 l2 => q W2 A2 (l1.trans l2)
theorem t_not (h1 : EvT Γ t δ μ a μ1) : EvT Γ (tNot t) δ μ (!a) μ1 := fun σ W A Q q => h1 σ W A _ fun W1 A1 l1 => q W1 A1 l1
theorem e_andV (h1 : Ev Γ ta δ μ (dB a) μ1) (h2 : a = true → Ev Γ tb δ μ1 (dB b) μ1) : Ev Γ (tAndV ta tb) δ μ (dB (a && b)) μ1 := fun σ W A Q q =>
  h1 σ W A _ fun v W1 A1 l1 h => ⟨a, svB h, by
    cases a with
    | true => exact h2 rfl σ W1 A1 Q fun v W2 A2 l2 h3 => q v W2 A2 (l1.trans l2) h3
    | false => exact q _ W1 A1 l1 (.bl _)⟩
theorem e_orV (h1 : Ev Γ ta δ μ (dB a) μ1) (h2 : a = false → Ev Γ tb δ μ1 (dB b) μ1) : Ev Γ (tOrV ta tb) δ μ (dB (a || b)) μ1 := fun σ W A Q q =>
  h1 σ W A _ fun v W1 A1 l1 h => ⟨a, svB h, by
    cases a with
    | false => exact h2 rfl σ W1 A1 Q fun v W2 A2 l2 h3 => q v W2 A2 (l1.trans l2) h3
    | true => exact q _ W1 A1 l1 (.bl _)⟩
theorem e_notV (h1 : Ev Γ ta δ μ (dB a) μ1) : Ev Γ (tNotV ta) δ μ (dB (!a)) μ1 := fun σ W A Q q =>
  h1 σ W A _ fun v W1 A1 l1 h => ⟨a, svB h, q _ W1 A1 l1 (.bl _)⟩
theorem e_if (h : EvT Γ t δ μ a μ1) (h1 : a = true → Ev Γ ta δ μ1 s μ2) (h2 : a = false → Ev Γ tb δ μ1 s μ2) : Ev Γ (tIf t ta tb) δ μ s μ2 := fun σ W A Q q =>
  h σ W A _ fun W1 A1 l1 => by
    cases a with
    | true => exact h1 rfl σ W1 A1 Q fun v W2 A2 l2 h3 => q v W2 A2 (l1.trans l2) h3
    | false => exact h2 rfl σ W1 A1 Q fun v W2 A2 l2 h3 => q v W2 A2 (l1.trans l2) h3
/-- a <= b <= c over ints -/
theorem e_chain {g g' : Int → Int → Bool} {k : Int} (ha : Ev Γ ta δ μ (dI i) μ) (hb : Ev Γ tb δ μ (dI j) μ) (hc : Ev Γ tc δ μ (dI k) μ) : Ev Γ (tChain (rI0 fun i j => .bl (g i j)) (rI0 fun i j => .bl (g' i j)) ta tb tc) δ μ (dB (g i j && g' j k)) μ := fun σ W A Q q =>
  e_two ha hb A fun v w W1 A1 l1 h1 h2 => by
    cases svI h1
    cases svI h2
    refine ⟨i, j, rfl, rfl, g i j, rfl, ?_⟩
    cases e : g i j with
    | true =>
      rw [if_pos rfl]
      refine hc σ W1 A1 _ fun v W2 A2 l2 h3 => ?_
      cases svI h3
      refine ⟨j, k, rfl, rfl, ?_⟩
      have := q (.bl (g' j k)) W2 A2 (l1.trans l2)
      rw [e] at this
      exact this (.bl _)
    | false =>
      rw [if_neg Bool.false_ne_true]
      have := q (.bl false) W1 A1 l1
      rw [e] at this
      exact this (.bl _)
/-! ### arguments, displays -/
theorem a_nil : EvA Γ tNil δ μ [] μ := fun σ W A Q q => q [] W A Same.rfl' .nil
theorem a_cons {tr : TA} {ss : List Sv} (h : Ev Γ te δ μ s μ1) (hr : EvA Γ tr δ μ1 ss μ2) : EvA Γ (tCons te tr) δ μ (s :: ss) μ2 := fun σ W A Q q =>
  h σ W A _ fun v W1 A1 l1 h1 => hr σ W1 A1 _ fun vs W2 A2 l2 h2 => q (v :: vs) W2 A2 (l1.trans l2) (.cons (h1.ex l2) h2)
/-- all of them data -/
def datas (ds : List PD) : List Sv := ds.map .d
theorem svAll_datas {K : PySem.W.Frag} {I : Hp} : ∀ {vs : List V} {ds : List PD}, SvAll K I vs (datas ds) → DpAll K I vs ds
  | _, [], .nil => .nil
  | _, d :: r, .cons h t => .cons h (svAll_datas t)
theorem a_nilD : EvA Γ tNil δ μ (datas []) μ := a_nil
theorem a_consD {tr : TA} {ds : List PD} (h : Ev Γ te δ μ (.d d) μ1) (hr : EvA Γ tr δ μ1 (datas ds) μ2) : EvA Γ (tCons te tr) δ μ (datas (d :: ds)) μ2 := a_cons h hr
theorem e_tup {ta : TA} (h : EvA Γ ta δ μ (datas ds) μ1) (hl : Nat.ble ds.length 100000 = true := by rfl) : Ev Γ (tTup ta) δ μ (dU ds) μ1 := fun σ W A Q q =>
  h σ W A _ fun vs W1 A1 l1 h1 => by
    have h2 := svAll_datas h1
    refine ⟨by rw [h2.length]; exact Nat.le_trans (Nat.le_of_ble_eq_true hl) (by decide), fun p hp => ?_⟩
    have l2 := le_put (o := .tup vs) hp
    exact q _ (W1.put p (.tup vs) hp) (A1.le l2) (l1.trans l2.i) (.tup (SqT.of upd_same) (h2.ex l2.i))
theorem e_lst {ta : TA} (h : EvA Γ ta δ μ (datas ds) μ1) (hl : Nat.ble ds.length 100000 = true := by rfl) : Ev Γ (tLst ta) δ μ (dL ds) μ1 := fun σ W A Q q =>
  h σ W A _ fun vs W1 A1 l1 h1 => by
    have h2 := svAll_datas h1
    refine ⟨by rw [h2.length]; exact Nat.le_trans (Nat.le_of_ble_eq_true hl) (by decide), fun p hp => ?_⟩
    have l2 := le_put (o := .lst vs) hp
    exact q _ (W1.put p (.lst vs) hp) (A1.le l2) (l1.trans l2.i) (.lst (SqL.of upd_same) (h2.ex l2.i))
/-! ### subscripts -/
theorem e_ixL {K : PySem.W.Frag} (hK : Γ.K = K) (ha : Ev Γ ta δ μ (dL ds) μ1) (hb : Ev Γ tb δ μ1 (dI i) μ2) (h : atI ds i = some d) : Ev Γ (tOp (rIxL K) ta tb) δ μ (.d d) μ2 := fun σ W A Q q =>
  e_two ha hb A fun v w W' A' l h1 h2 => by
    subst hK
    obtain ⟨p, vs, rfl, h3, h4⟩ := svL h1
    cases svI h2
    obtain ⟨z, h5, h6⟩ := h4.atI h
    exact ⟨p, vs, i, z, rfl, rfl, sf_sqL W'.s h3, h5, q _ W' A' l h6⟩
theorem e_ixU {K : PySem.W.Frag} (hK : Γ.K = K) (ha : Ev Γ ta δ μ (dU ds) μ1) (hb : Ev Γ tb δ μ1 (dI i) μ2) (h : atI ds i = some d) : Ev Γ (tOp (rIxT K) ta tb) δ μ (.d d) μ2 := fun σ W A Q q =>
  e_two ha hb A fun v w W' A' l h1 h2 => by
    subst hK
    obtain ⟨p, vs, rfl, h3, h4⟩ := svU h1
    cases svI h2
    obtain ⟨z, h5, h6⟩ := h4.atI h
    exact ⟨p, vs, i, z, rfl, rfl, sf_sqT W'.s h3, h5, q _ W' A' l h6⟩
/-- an owned list -/
theorem e_ixO {K : PySem.W.Frag} {p : Addr} (hK : Γ.K = K) (ha : Ev Γ ta δ μ (.r (.ref p)) μ1) (hb : Ev Γ tb δ μ1 (dI i) μ2) (hp : (p, OO.lst ds) ∈ μ2) (h : atI ds i = some d) : Ev Γ (tOp (rIxL K) ta tb) δ μ (.d d) μ2 := fun σ W A Q q =>
  e_two ha hb A fun v w W' A' l h1 h2 => by
    subst hK
    cases h1
    cases svI h2
    obtain ⟨vs, h3, h4⟩ := A'.ow.ok _ hp
    obtain ⟨z, h5, h6⟩ := h4.atI h
    exact ⟨p, vs, i, z, rfl, rfl, SqL.of h3, h5, q _ W' A' l h6⟩
theorem e_ixS {k : Nat} (ha : Ev Γ ta δ μ (dS x) μ1) (hb : Ev Γ tb δ μ1 (dI i) μ2) (hz : x.length ≤ 100000) (h : atI x.cps.toList i = some k) : Ev Γ (tOp rIxS ta tb) δ μ (dS ⟨#[k]⟩) μ2 := fun σ W A Q q =>
  e_two ha hb A fun v w W' A' l h1 h2 => by
    cases svS h1
    cases svI h2
    exact ⟨x, i, k, rfl, rfl, Nat.le_trans hz (by decide), h, q _ W' A' l (.str _)⟩
/-! ### slices -/
theorem o_none : EvO Γ tNoPart δ μ none μ := fun σ W A Q q => q W A Same.rfl'
theorem o_some (h : Ev Γ te δ μ (dI i) μ1) : EvO Γ (tPart te) δ μ (some i) μ1 := fun σ W A Q q => h σ W A _ fun v W' A' l h1 => ⟨i, svI h1, q W' A' l⟩
def cutD (xs : List PD) (lo hi : Option Int) : List PD := (xs.drop (HT.sIx xs.length 0 lo)).take (HT.sIx xs.length xs.length hi - HT.sIx xs.length 0 lo)
theorem dp_cut {K : PySem.W.Frag} {I : Hp} {vs : List V} (h : DpAll K I vs ds) (lo hi : Option Int) : DpAll K I (cutV vs lo hi) (cutD ds lo hi) := by
  unfold cutV cutD
  rw [h.length]
  exact (h.drop _).take _
theorem e_sl3 {tl th : TO} {lo hi : Option Int} (ha : Ev Γ ta δ μ s μ1) (hl : EvO Γ tl δ μ1 lo μ2) (hh : EvO Γ th δ μ2 hi μ3) {r : V → Option Int → Option Int → Hp → VK → Prop} {s' : Sv}
    (k : ∀ σ W v, Ast Γ σ W δ μ3 → SvOk Γ.K W.i v s → ∀ Q : VK, (∀ w W', Le W W' → SvOk Γ.K W'.i w s' → Q w W'.h) → r v lo hi W.h Q) : Ev Γ (tSl r ta tl th) δ μ s' μ3 := fun σ W A Q q =>
  ha σ W A _ fun v W1 A1 l1 h1 => hl σ W1 A1 _ fun W2 A2 l2 => hh σ W2 A2 _ fun W3 A3 l3 =>
    k σ W3 v A3 (h1.ex (l2.trans l3)) Q fun w W' l h => q w W' (A3.le l) (((l1.trans l2).trans l3).trans l.i) h
theorem e_slL {K : PySem.W.Frag} {tl th : TO} {lo hi : Option Int} (hK : Γ.K = K) (ha : Ev Γ ta δ μ (dL ds) μ1) (hl : EvO Γ tl δ μ1 lo μ2) (hh : EvO Γ th δ μ2 hi μ3) : Ev Γ (tSl (rSlL K) ta tl th) δ μ (dL (cutD ds lo hi)) μ3 :=
  e_sl3 ha hl hh fun σ W v A h Q q => by
    subst hK
    obtain ⟨p, vs, rfl, h3, h4⟩ := svL h
    refine ⟨p, vs, rfl, sf_sqL W.s h3, fun a hp => ?_⟩
    have l2 := le_put (o := .lst (cutV vs lo hi)) hp
    exact q _ (W.put a _ hp) l2 (.lst (SqL.of upd_same) ((dp_cut h4 lo hi).ex l2.i))
theorem e_slO {K : PySem.W.Frag} {p : Addr} {tl th : TO} {lo hi : Option Int} (hK : Γ.K = K) (ha : Ev Γ ta δ μ (.r (.ref p)) μ1) (hl : EvO Γ tl δ μ1 lo μ2) (hh : EvO Γ th δ μ2 hi μ3) (hp : (p, OO.lst ds) ∈ μ3) : Ev Γ (tSl (rSlL K) ta tl th) δ μ (dL (cutD ds lo hi)) μ3 :=
  e_sl3 ha hl hh fun σ W v A h Q q => by
    subst hK
    cases h
    obtain ⟨vs, h3, h4⟩ := A.ow.ok _ hp
    refine ⟨p, vs, rfl, SqL.of h3, fun a hp => ?_⟩
    have l2 := le_put (o := .lst (cutV vs lo hi)) hp
    exact q _ (W.put a _ hp) l2 (.lst (SqL.of upd_same) ((dp_cut h4 lo hi).ex l2.i))
theorem e_slS {tl th : TO} {lo hi : Option Int} (ha : Ev Γ ta δ μ (dS x) μ1) (hl : EvO Γ tl δ μ1 lo μ2) (hh : EvO Γ th δ μ2 hi μ3) (hz : x.length ≤ 100000) : Ev Γ (tSl rSlS ta tl th) δ μ (dS (cutS x lo hi)) μ3 :=
  e_sl3 ha hl hh fun σ W v A h Q q => by
    cases svS h
    exact ⟨x, rfl, Nat.le_trans hz (by decide), q _ W (LeX.refl _ W) (.str _)⟩
/-! ### texts -/
theorem e_addS (ha : Ev Γ ta δ μ (dS x) μ1) (hb : Ev Γ tb δ μ1 (dS y) μ2) (hz : x.length + y.length ≤ 100000) : Ev Γ (tOp (fun x y H Q => ∃ i j, x = .str i ∧ y = .str j ∧ i.length + j.length ≤ sizeLine ∧ Q (.str (i ++ j)) H) ta tb) δ μ (dS (x ++ y)) μ2 := fun σ W A Q q =>
  e_two ha hb A fun v w W' A' l h1 h2 => by
    cases svS h1
    cases svS h2
    exact ⟨x, y, rfl, rfl, Nat.le_trans hz (by decide), q _ W' A' l (.str _)⟩
theorem e_inSign {k : Nat} (ha : Ev Γ ta δ μ (dS ⟨#[k]⟩) μ1) (hb : Ev Γ tb δ μ1 (dS y) μ2) : Ev Γ (tOp (fun x y H Q => ∃ (c : Nat) (z : Str), x = .str ⟨#[c]⟩ ∧ y = .str z ∧ Q (.bl (decide (c ∈ z.cps.toList))) H) ta tb) δ μ (dB (decide (k ∈ y.cps.toList))) μ2 := fun σ W A Q q =>
  e_two ha hb A fun v w W' A' l h1 h2 => by
    cases svS h1
    cases svS h2
    exact ⟨k, y, rfl, rfl, q _ W' A' l (.bl _)⟩
theorem e_ninSign {k : Nat} (ha : Ev Γ ta δ μ (dS ⟨#[k]⟩) μ1) (hb : Ev Γ tb δ μ1 (dS y) μ2) : Ev Γ (tOp (fun x y H Q => ∃ (c : Nat) (z : Str), x = .str ⟨#[c]⟩ ∧ y = .str z ∧ Q (.bl (!decide (c ∈ z.cps.toList))) H) ta tb) δ μ (dB (!decide (k ∈ y.cps.toList))) μ2 := fun σ W A Q q =>
  e_two ha hb A fun v w W' A' l h1 h2 => by
    cases svS h1
    cases svS h2
    exact ⟨k, y, rfl, rfl, q _ W' A' l (.bl _)⟩
/-! ### built-ins by values -/
theorem e_cb {ta : TA} {ss : List Sv} {r : List V → Hp → VK → Prop} (h : EvA Γ ta δ μ ss μ1) (k : ∀ σ W vs, Ast Γ σ W δ μ1 → SvAll Γ.K W.i vs ss → ∀ Q : VK, (∀ w W', Le W W' → SvOk Γ.K W'.i w s → Q w W'.h) → r vs W.h Q) : Ev Γ (tCB r ta) δ μ s μ1 := fun σ W A Q q =>
  h σ W A _ fun vs W1 A1 l1 h1 => k σ W1 vs A1 h1 Q fun w W2 l2 h2 => q w W2 (A1.le l2) (l1.trans l2.i) h2
theorem sv1 {K : PySem.W.Frag} {I : Hp} {vs : List V} (h : SvAll K I vs [s]) : ∃ v, vs = [v] ∧ SvOk K I v s := by
  cases h with
  | cons h1 h2 =>
    cases h2
    exact ⟨_, rfl, h1⟩
theorem sv2 {K : PySem.W.Frag} {I : Hp} {vs : List V} (h : SvAll K I vs [s, s']) : ∃ v w, vs = [v, w] ∧ SvOk K I v s ∧ SvOk K I w s' := by
  cases h with
  | cons h1 h2 =>
    cases h2 with
    | cons h3 h4 =>
      cases h4
      exact ⟨_, _, rfl, h1, h3⟩
/-- len of a list or tuple, of an owned list -/
theorem e_lenL {K : PySem.W.Frag} (hK : Γ.K = K) (h : Ev Γ te δ μ (dL ds) μ1) : Ev Γ (tCB (fun xs H Q => ∃ p ys, xs = [.ref p] ∧ (SqL K H p ys ∨ SqT K H p ys) ∧ Q (.int ys.length) H) (tCons te tNil)) δ μ (dI ds.length) μ1 :=
  e_cb (a_cons h a_nil) fun σ W vs A hs Q q => by
    subst hK
    obtain ⟨v, rfl, h1⟩ := sv1 hs
    obtain ⟨p, vs, rfl, h3, h4⟩ := svL h1
    refine ⟨p, vs, rfl, .inl (sf_sqL W.s h3), ?_⟩
    rw [h4.length]
    exact q _ W (LeX.refl _ W) (.int _)
theorem e_lenU {K : PySem.W.Frag} (hK : Γ.K = K) (h : Ev Γ te δ μ (dU ds) μ1) : Ev Γ (tCB (fun xs H Q => ∃ p ys, xs = [.ref p] ∧ (SqL K H p ys ∨ SqT K H p ys) ∧ Q (.int ys.length) H) (tCons te tNil)) δ μ (dI ds.length) μ1 :=
  e_cb (a_cons h a_nil) fun σ W vs A hs Q q => by
    subst hK
    obtain ⟨v, rfl, h1⟩ := sv1 hs
    obtain ⟨p, vs, rfl, h3, h4⟩ := svU h1
    refine ⟨p, vs, rfl, .inr (sf_sqT W.s h3), ?_⟩
    rw [h4.length]
    exact q _ W (LeX.refl _ W) (.int _)
theorem e_lenO {K : PySem.W.Frag} {p : Addr} (hK : Γ.K = K) (h : Ev Γ te δ μ (.r (.ref p)) μ1) (hp : (p, OO.lst ds) ∈ μ1) : Ev Γ (tCB (fun xs H Q => ∃ p ys, xs = [.ref p] ∧ (SqL K H p ys ∨ SqT K H p ys) ∧ Q (.int ys.length) H) (tCons te tNil)) δ μ (dI ds.length) μ1 :=
  e_cb (a_cons h a_nil) fun σ W vs A hs Q q => by
    subst hK
    obtain ⟨v, rfl, h1⟩ := sv1 hs
    cases h1
    obtain ⟨vs, h3, h4⟩ := A.ow.ok _ hp
    refine ⟨p, vs, rfl, .inl (SqL.of h3), ?_⟩
    rw [h4.length]
    exact q _ W (LeX.refl _ W) (.int _)
theorem e_lenS (h : Ev Γ te δ μ (dS x) μ1) (hz : x.length ≤ 100000) : Ev Γ (tCB (fun xs H Q => ∃ z, xs = [.str z] ∧ z.length ≤ sizeLine ∧ Q (.int z.length) H) (tCons te tNil)) δ μ (dI x.length) μ1 :=
  e_cb (a_cons h a_nil) fun σ W vs A hs Q q => by
    obtain ⟨v, rfl, h1⟩ := sv1 hs
    cases svS h1
    exact ⟨x, rfl, Nat.le_trans hz (by decide), q _ W (LeX.refl _ W) (.int _)⟩
theorem e_sumL {K : PySem.W.Frag} {ns : List Int} (hK : Γ.K = K) (h : Ev Γ te δ μ (dL (ns.map .int)) μ1) : Ev Γ (tCB (rSum K) (tCons te tNil)) δ μ (dI ns.sum) μ1 :=
  e_cb (a_cons h a_nil) fun σ W vs A hs Q q => by
    subst hK
    obtain ⟨v, rfl, h1⟩ := sv1 hs
    obtain ⟨p, vs, rfl, h3, h4⟩ := svL h1
    cases h4.ints_inv
    exact ⟨p, ns, rfl, sf_sqL W.s h3, q _ W (LeX.refl _ W) (.int _)⟩
theorem e_sumO {K : PySem.W.Frag} {p : Addr} {ns : List Int} (hK : Γ.K = K) (h : Ev Γ te δ μ (.r (.ref p)) μ1) (hp : (p, OO.lst (ns.map .int)) ∈ μ1) : Ev Γ (tCB (rSum K) (tCons te tNil)) δ μ (dI ns.sum) μ1 :=
  e_cb (a_cons h a_nil) fun σ W vs A hs Q q => by
    subst hK
    obtain ⟨v, rfl, h1⟩ := sv1 hs
    cases h1
    obtain ⟨vs, h3, h4⟩ := A.ow.ok _ hp
    cases h4.ints_inv
    exact ⟨p, ns, rfl, SqL.of h3, q _ W (LeX.refl _ W) (.int _)⟩
theorem e_max2 (ha : Ev Γ ta δ μ (dI i) μ1) (hb : Ev Γ tb δ μ1 (dI j) μ2) : Ev Γ (tCB (fun xs H Q => ∃ i j, xs = [.int i, .int j] ∧ Q (.int (if j > i then j else i)) H) (tCons ta (tCons tb tNil))) δ μ (dI (max i j)) μ2 :=
  e_cb (a_cons ha (a_cons hb a_nil)) fun σ W vs A hs Q q => by
    obtain ⟨v, w, rfl, h1, h2⟩ := sv2 hs
    cases svI h1
    cases svI h2
    refine ⟨i, j, rfl, ?_⟩
    have e : (if j > i then j else i) = max i j := by omega
    rw [e]
    exact q _ W (LeX.refl _ W) (.int _)
theorem e_min2 (ha : Ev Γ ta δ μ (dI i) μ1) (hb : Ev Γ tb δ μ1 (dI j) μ2) : Ev Γ (tCB (fun xs H Q => ∃ i j, xs = [.int i, .int j] ∧ Q (.int (if j < i then j else i)) H) (tCons ta (tCons tb tNil))) δ μ (dI (min i j)) μ2 :=
  e_cb (a_cons ha (a_cons hb a_nil)) fun σ W vs A hs Q q => by
    obtain ⟨v, w, rfl, h1, h2⟩ := sv2 hs
    cases svI h1
    cases svI h2
    refine ⟨i, j, rfl, ?_⟩
    have e : (if j < i then j else i) = min i j := by omega
    rw [e]
    exact q _ W (LeX.refl _ W) (.int _)
end
end Sf
namespace Sf
open PySem PySem.Spec PyProof.Rows L2
/-! ### promises -/
inductive Oc where
  | ret (s : Sv) (m' : Mu)
  | new (k : Nat) (s : List Addr → Sv) (m' : List Addr → Mu)
  | exc (C : Addr) (m' : Mu)
def OcOk (K : PySem.W.Frag) (W : Wd) (F : List Addr) (Q : VK) (E : XK) : Oc → Prop
  | .ret s m' => ∀ v W', LeX F W W' → SvOk K W'.i v s → Owns K W' m' → Q v W'.h
  | .new k s m' => ∀ ps v W', ps.length = k → (∀ p ∈ ps, W.h p = none) → LeX F W W' → SvOk K W'.i v (s ps) → Owns K W' (m' ps) → Q v W'.h
  | .exc C m' => ∀ W', LeX F W W' → Owns K W' m' → E (.ref C) none W'.h
def foot (ro : Bool) (m : Mu) : List Addr := if ro then [] else m.map (·.1)
/-- a def's promise: by the arguments and the owned objects handed in one outcome; ro: none of them is changed -/
def spG (K : PySem.W.Frag) (n : Nat) (ro : Bool) (G : List Sv → Mu → Oc → Prop) : Sp := fun vs H Q E => ∃ W as m o, Wd.h W = H ∧ SvAll K W.i vs as ∧ Owns K W m ∧ as.length = n ∧ G as m o ∧ OcOk K W (foot ro m) Q E o
theorem paired_len {α β : Type} {R : α → β → Prop} : ∀ {l : List α} {r : List β}, Paired R l r → l.length = r.length
  | _, _, .nil => rfl
  | _, _, .cons _ t => congrArg (· + 1) (paired_len t)
theorem paired_get {α β : Type} {R : α → β → Prop} : ∀ {l : List α} {r : List β} {j : Nat} {y : β}, Paired R l r → r[j]? = some y → ∃ x, l[j]? = some x ∧ R x y
  | _, _, _, _, .nil, e => by simp at e
  | _, _, 0, y, .cons h _, e => by
    simp at e
    subst e
    exact ⟨_, rfl, h⟩
  | _, _, j + 1, y, .cons _ t, e => by
    obtain ⟨x, h1, h2⟩ := paired_get (j := j) t (by simpa using e)
    exact ⟨x, by simpa using h1, h2⟩

/-! ### statements -/
def Sx (Γ : Ga) (t : TS) (D : Ends) (δ : De) (μ : Mu) : Prop := ∀ σ W, Ast Γ σ W δ μ → t D σ W.h
def Nx (Γ : Ga) (D : Ends) (δ : De) (μ : Mu) : Prop := ∀ σ W, Ast Γ σ W δ μ → D.nx σ W.h
section
variable {Γ : Ga} {δ : De} {μ μ1 μ2 : Mu} {te ta tb ti to : TE} {t u tu tw : TS} {tc : TT} {D : Ends} {s : Sv} {b : Bool} {i : Int} {d : PD} {ds : List PD}
theorem x_seq (h : Sx Γ t { D with nx := u D } δ μ) : Sx Γ (tSeq t u) D δ μ := h
theorem x_nx (h : Sx Γ u D δ μ) : Nx Γ { D with nx := u D } δ μ := h
theorem x_next (h : Nx Γ D δ μ) : Sx Γ tNext D δ μ := h
theorem x_asg {k : Nat} (h : Ev Γ te δ μ s μ1) (n : Nx Γ D (δ.set k (some s)) μ1) : Sx Γ (tAsg te (gName k)) D δ μ := fun σ W A =>
  h σ W A _ fun v W1 A1 _ h1 => n _ W1 (A1.set k h1)
/-- x = e; rest -/
theorem x_let {k : Nat} (h : Ev Γ te δ μ s μ1) (n : Sx Γ u D (δ.set k (some s)) μ1) : Sx Γ (tSeq (tAsg te (gName k)) u) D δ μ := x_seq (x_asg h (x_nx n))
theorem x_drop (h : Ev Γ te δ μ s μ1) (n : Nx Γ D δ μ1) : Sx Γ (tDrop te) D δ μ := fun σ W A => h σ W A _ fun v W1 A1 _ h1 => n _ W1 A1
theorem x_if (h : EvT Γ tc δ μ b μ1) (h1 : b = true → Sx Γ tu D δ μ1) (h2 : b = false → Sx Γ tw D δ μ1) : Sx Γ (tIfS tc tu tw) D δ μ := fun σ W A =>
  h σ W A _ fun W1 A1 _ => by
    cases b with
    | true => exact h1 rfl σ W1 A1
    | false => exact h2 rfl σ W1 A1
/-- a return: what the promise wants -/
theorem x_ret {E : XK} {m' : Mu} (h : Ev Γ te δ μ s μ1) (hD : OcOk Γ.K Γ.W0 Γ.F D.rt E (.ret s m')) (hm : m'.Sublist μ1) : Sx Γ (tRet te) D δ μ := fun σ W A =>
  h σ W A _ fun v W1 A1 _ h1 => hD v W1 A1.bs h1 ⟨fun e he => A1.ow.ok e (hm.subset he), fun e he => A1.ow.fr e (hm.subset he), A1.ow.nd.sublist (hm.map _)⟩
theorem x_retN {E : XK} {m' : Mu} (hD : OcOk Γ.K Γ.W0 Γ.F D.rt E (.ret dN m')) (hm : m'.Sublist μ) : Sx Γ tRetN D δ μ := fun σ W A =>
  hD .non W A.bs .non ⟨fun e he => A.ow.ok e (hm.subset he), fun e he => A.ow.fr e (hm.subset he), A.ow.nd.sublist (hm.map _)⟩
/-- the def's end without a return -/
theorem x_end {E : XK} {m' : Mu} (hn : ∀ σ H, D.rt .non H → D.nx σ H) (hD : OcOk Γ.K Γ.W0 Γ.F D.rt E (.ret dN m')) (hm : m'.Sublist μ) : Nx Γ D δ μ := fun σ W A => hn σ _
  (hD .non W A.bs .non ⟨fun e he => A.ow.ok e (hm.subset he), fun e he => A.ow.fr e (hm.subset he), A.ow.nd.sublist (hm.map _)⟩)
/-- an owned list that was made here, handed out as data -/
theorem Ev.fz {p : Addr} (h : Ev Γ te δ μ (.r (.ref p)) ((p, .lst ds) :: μ1)) (hp : p ∉ Γ.O) : Ev Γ te δ μ (dL ds) μ1 := fun σ W A Q q =>
  h σ W A _ fun v W1 A1 l1 h1 => by
    obtain ⟨W2, e, l2, A2, h2⟩ := A1.fz hp
    cases h1
    rw [← e]
    exact q _ W2 A2 (l1.trans l2) h2
theorem Ev.pre {μ0 : Mu} (h : Ev Γ te δ μ s μ1) (hm : ∀ e ∈ μ, e ∈ μ0) (nd : (μ.map (·.1)).Nodup) : Ev Γ te δ μ0 s μ1 := fun σ W A Q q => h σ W (A.mu hm nd) Q q
/-- xs = [..] that will be changed -/
theorem x_asgO {k : Nat} {ta : TA} (h : EvA Γ ta δ μ (datas ds) μ1) (hl : Nat.ble ds.length 100000 = true) (n : ∀ p, p ∉ Γ.O → p ∉ μ1.map (·.1) → Nx Γ D (δ.set k (some (.r (.ref p)))) ((p, .lst ds) :: μ1)) : Sx Γ (tAsg (tLst ta) (gName k)) D δ μ := fun σ W A =>
  h σ W A _ fun vs W1 A1 l1 h1 => by
    have h2 := svAll_datas h1
    refine ⟨by rw [h2.length]; exact Nat.le_trans (Nat.le_of_ble_eq_true hl) (by decide), fun p hp => ?_⟩
    obtain ⟨f1, f2, f3⟩ := A1.fresh hp
    have A2 := A1.new (o := .lst ds) (u := .lst vs) hp ⟨vs, upd_same, h2⟩
    exact n p f2 f3 _ _ (A2.set k rfl)
theorem x_letO {k : Nat} {ta : TA} (h : EvA Γ ta δ μ (datas ds) μ1) (hl : Nat.ble ds.length 100000 = true) (n : ∀ p, p ∉ Γ.O → p ∉ μ1.map (·.1) → Sx Γ u D (δ.set k (some (.r (.ref p)))) ((p, .lst ds) :: μ1)) : Sx Γ (tSeq (tAsg (tLst ta) (gName k)) u) D δ μ :=
  x_seq (x_asgO h hl fun p h1 h2 => x_nx (n p h1 h2))
/-- xs.append(e), xs owned -/
theorem x_app {K : PySem.W.Frag} {p : Addr} (k : Nat) (ho : Ev Γ to δ μ (.r (.ref p)) μ1) (h : Ev Γ te δ μ1 (.d d) μ2) (hk : μ2[k]? = some (p, .lst ds)) (hz : ds.length < 100000) (may : Γ.may p) (h1k : ∃ es, (p, OO.lst es) ∈ μ1) (n : Nx Γ D δ (μ2.set k (p, .lst (ds ++ [d])))) :
    Sx Γ (tDrop (tBM K "list" rAppend to (tCons te tNil))) D δ μ := fun σ W A =>
  ho σ W A _ fun v W1 A1 l1 h1 => by
    cases h1
    obtain ⟨es, h1k⟩ := h1k
    obtain ⟨ws, e1, _⟩ := A1.ow.ok _ h1k
    refine ⟨.inl ⟨rfl, ws, .inl (.inl e1)⟩, h σ W1 A1 _ fun w W2 A2 l2 h2 => ?_⟩
    obtain ⟨vs, e2, e3⟩ := A2.ow.ok _ (List.mem_of_getElem? hk)
    refine ⟨p, vs, w, rfl, rfl, e2, by rw [e3.length]; exact Nat.lt_of_lt_of_le hz (by decide), ?_⟩
    obtain ⟨nn, A3⟩ := Ast.wrAt (o' := .lst (ds ++ [d])) (u := .lst (vs ++ [w])) k hk A2 may fun nn => ⟨_, upd_same, e3.app (.cons h2 .nil)⟩
    exact n σ _ A3
/-- xs[i] = e, xs owned -/
theorem x_setI {p : Addr} (k : Nat) {j : Nat} (h : Ev Γ te δ μ (.d d) μ1) (ho : Ev Γ to δ μ1 (.r (.ref p)) μ1) (hi : Ev Γ ti δ μ1 (dI i) μ1) (hk : μ1[k]? = some (p, .lst ds)) (hj : ixN ds.length i = some j) (may : Γ.may p) (n : Nx Γ D δ (μ1.set k (p, .lst (ds.set j d)))) :
    Sx Γ (tAsg te (gSub to ti rSetL)) D δ μ := fun σ W A =>
  h σ W A _ fun v W1 A1 l1 h1 => ho σ W1 A1 _ fun o W2 A2 l2 h2 => hi σ W2 A2 _ fun w W3 A3 l3 h3 => by
    cases h2
    cases svI h3
    obtain ⟨vs, e2, e3⟩ := A3.ow.ok _ (List.mem_of_getElem? hk)
    refine ⟨p, vs, i, j, rfl, rfl, e2, by rw [e3.length]; exact hj, ?_⟩
    obtain ⟨nn, A4⟩ := Ast.wrAt (o' := .lst (ds.set j d)) (u := .lst (vs.set j v)) k hk A3 may fun nn => ⟨_, upd_same, e3.set ((h1.ex l2).ex l3) j⟩
    exact n σ _ A4
/-- o.f, an attribute of an owned instance -/
theorem e_fld {K : PySem.W.Frag} {p C : Addr} {fs : List (Str × V)} {f : Str} {v : V} (h : Ev Γ te δ μ (.r (.ref p)) μ1) (hp : (p, OO.ins C fs) ∈ μ1) (c : Cls K C) (n : NoAttr K C f) (l : fs.lookup f = some v) : Ev Γ (tFld K te f) δ μ (.r v) μ1 := fun σ W A Q q =>
  h σ W A _ fun x W1 A1 l1 h1 => by
    cases h1
    obtain ⟨dx, e⟩ := A1.ow.ok _ hp
    exact ⟨p, C, dx, fs, v, rfl, e, c, n, l, q _ W1 A1 l1 rfl⟩
/-- o.f = e (raw) -/
theorem x_fld {K : PySem.W.Frag} {p C : Addr} {fs : List (Str × V)} {f : Str} {v : V} (k : Nat) (h : Ev Γ te δ μ (.r v) μ1) (ho : Ev Γ to δ μ1 (.r (.ref p)) μ2) (hk : μ2[k]? = some (p, .ins C fs)) (c : Cls K C) (n : NoAttr K C f) (hl : fs.length < 1000) (may : Γ.may p) (nx : Nx Γ D δ (μ2.set k (p, .ins C (putF f v fs)))) :
    Sx Γ (sFld K to te f) D δ μ := fun σ W A =>
  h σ W A _ fun y W1 A1 l1 h1 => ho σ W1 A1 _ fun x W2 A2 l2 h2 => by
    cases h1
    cases h2
    obtain ⟨dx, e⟩ := A2.ow.ok _ (List.mem_of_getElem? hk)
    refine ⟨p, C, dx, fs, rfl, e, c, n, hl, ?_⟩
    obtain ⟨nn, A3⟩ := Ast.wrAt (o' := .ins C (putF f v fs)) (u := .ins C dx (putF f v fs)) k hk A2 may fun nn => ⟨dx, upd_same⟩
    exact nx σ _ A3
end
/-! ### calls -/
section
variable {Γ : Ga} {δ : De} {μ μ1 μ2 : Mu} {te to : TE} {ta : TA} {as : List Sv} {m m' rest : Mu} {n : Nat} {G : List Sv → Mu → Oc → Prop} {s : Sv} {E : XK} {K : PySem.W.Frag}
theorem Ast.behind {σ : L2.St} {W W' : Wd} {F : List Addr} (a : Ast Γ σ W δ (m ++ rest)) (l : LeX F W W') (hF : ∀ b ∈ F, b ∈ m.map (·.1)) (may : ∀ b ∈ F, Γ.may b) (o : Owns Γ.K W' m') (e : m'.map (·.1) = m.map (·.1)) : Ast Γ σ W' δ (m' ++ rest) := by
  have nd : (m.map (·.1) ++ rest.map (·.1)).Nodup := by
    have := a.ow.nd
    rwa [List.map_append] at this
  have apart : ∀ e ∈ rest, e.1 ∉ F := fun e he hm => (List.nodup_append.mp nd).2.2 _ (hF _ hm) _ (List.mem_map_of_mem he) rfl
  refine ⟨⟨fun b u h => l.i b u (a.bs.i b u h), fun b u h hn => l.h b u (a.bs.h b u h hn) fun hm => ?_, fun b h1 h2 => l.n b (a.bs.n b h1 h2) (a.bs.m b h2), fun b h => l.d b (a.bs.d b h), fun b h => l.m b (a.bs.m b h)⟩, a.len, fun j s h => ?_, ⟨fun e he => ?_, fun e he => ?_, ?_⟩, fun e he => ?_, fun g hg => (a.gh g hg).ex l.i, a.fF⟩
  · obtain ⟨e1, he, q⟩ := List.mem_map.mp (hF b hm)
    rcases may b hm with z | z
    · exact hn z
    · have z := (a.fo e1 (List.mem_append_left _ he)).resolve_left (q ▸ z)
      rw [q, h] at z; cases z
  · obtain ⟨v, h1, h2⟩ := a.sl j s h
    exact ⟨v, h1, h2.ex l.i⟩
  · rcases List.mem_append.mp he with q | q
    · exact o.ok e q
    · exact (a.ow.ok e (List.mem_append_right _ q)).le l.i fun u h => l.h _ _ h (apart e q)
  · rcases List.mem_append.mp he with q | q
    · exact o.fr e q
    · have := a.ow.fr e (List.mem_append_right _ q)
      exact ⟨l.n _ this.1 (a.ow.ok e (List.mem_append_right _ q)).mx, l.d _ this.2⟩
  · rw [List.map_append, e, ← List.map_append]
    exact a.ow.nd
  · rcases List.mem_append.mp he with q | q
    · have : e.1 ∈ m.map (·.1) := by
        rw [← ‹m'.map (·.1) = m.map (·.1)›]
        exact List.mem_map_of_mem q
      obtain ⟨e1, he1, q1⟩ := List.mem_map.mp this
      rw [← q1]
      exact a.fo e1 (List.mem_append_left _ he1)
    · exact a.fo e (List.mem_append_right _ q)
theorem Owns.sub {W : Wd} (o : Owns K W μ) (hm : m.Sublist μ) : Owns K W m := ⟨fun e he => o.ok e (hm.subset he), fun e he => o.fr e (hm.subset he), o.nd.sublist (hm.map _)⟩
theorem foot_true {m : Mu} : foot true m = [] := rfl
theorem foot_false {m : Mu} : foot false m = m.map (·.1) := rfl
/-- what a callee that changes nothing wants -/
theorem sp_ro {σ : L2.St} {W : Wd} {vs : List V} {Q : VK} (hK : Γ.K = K) (A : Ast Γ σ W δ μ) (hm : m.Sublist μ) (hn : as.length = n) (hs : SvAll Γ.K W.i vs as) (hG : G as m (.ret s m')) (q : ∀ v W', Ast Γ σ W' δ μ → Same W.i W'.i → SvOk Γ.K W'.i v s → Q v W'.h) : spG K n true G vs W.h Q E := by
  subst hK
  refine ⟨W, as, m, _, rfl, hs, A.ow.sub hm, hn, hG, fun v W' l h o => q v W' (A.le l) l.i h⟩
theorem sp_rw {σ : L2.St} {W : Wd} {vs : List V} {Q : VK} (hK : Γ.K = K) (A : Ast Γ σ W δ (m ++ rest)) (hn : as.length = n) (hs : SvAll Γ.K W.i vs as) (hG : G as m (.ret s m')) (e : m'.map (·.1) = m.map (·.1)) (may : ∀ b ∈ m.map (·.1), Γ.may b) (q : ∀ v W', Ast Γ σ W' δ (m' ++ rest) → Same W.i W'.i → SvOk Γ.K W'.i v s → Q v W'.h) : spG K n false G vs W.h Q E := by
  subst hK
  refine ⟨W, as, m, _, rfl, hs, A.ow.sub (List.sublist_append_left _ _), hn, hG, fun v W' l h o => q v W' (A.behind l (fun _ hb => hb) may o e) l.i h⟩
/-- a callee that raises -/
theorem sp_ex {σ : L2.St} {W : Wd} {vs : List V} {Q : VK} {C : Addr} (hK : Γ.K = K) (A : Ast Γ σ W δ (m ++ rest)) (hn : as.length = n) (hs : SvAll Γ.K W.i vs as) (hG : G as m (.exc C m')) (e : m'.map (·.1) = m.map (·.1)) {ro : Bool} (may : ∀ b ∈ foot ro m, Γ.may b) (q : ∀ W', Ast Γ σ W' δ (m' ++ rest) → E (.ref C) none W'.h) : spG K n ro G vs W.h Q E := by
  subst hK
  refine ⟨W, as, m, _, rfl, hs, A.ow.sub (List.sublist_append_left _ _), hn, hG, fun W' l o => q W' (A.behind l ?_ may o e)⟩
  intro b hb
  cases ro with
  | true => cases hb
  | false => exact hb
theorem app_nil_sv {vs : List V} {H : Hp} {Q : VK} {sp : Sp} (h : sp vs H Q E) : sp (vs ++ []) H Q E := by rw [List.append_nil]; exact h
theorem e_call (hK : Γ.K = K) (ha : EvA Γ ta δ μ as μ1) (hG : G as m (.ret s m')) (hm : m.Sublist μ1) (hn : as.length = n := by rfl) : Ev Γ (tCall (spG K n true G) [] E ta) δ μ s μ1 := fun σ W A Q q =>
  ha σ W A _ fun vs W1 A1 l1 h1 => app_nil_sv (sp_ro hK A1 hm hn h1 hG fun v W' A' l' h' => q v W' A' (l1.trans l') h')
theorem e_callM (hK : Γ.K = K) (ha : EvA Γ ta δ μ as (m ++ rest)) (hG : G as m (.ret s m')) (e : m'.map (·.1) = m.map (·.1)) (may : ∀ b ∈ m.map (·.1), Γ.may b) (hn : as.length = n := by rfl) : Ev Γ (tCall (spG K n false G) [] E ta) δ μ s (m' ++ rest) := fun σ W A Q q =>
  ha σ W A _ fun vs W1 A1 l1 h1 => app_nil_sv (sp_rw hK A1 hn h1 hG e may fun v W' A' l' h' => q v W' A' (l1.trans l') h')
theorem e_meth {p C : Addr} {fs : List (Str × V)} {mn : Str} (hK : Γ.K = K) (ho : Ev Γ to δ μ (.r (.ref p)) μ1) (hp : (p, OO.ins C fs) ∈ μ1) (hl : fs.lookup mn = none) (ha : EvA Γ ta δ μ1 as μ2) (hG : G (.r (.ref p) :: as) m (.ret s m')) (hm : m.Sublist μ2) (hn : as.length + 1 = n := by rfl) :
    Ev Γ (tMeth C mn (spG K n true G) [] E to ta) δ μ s μ2 := fun σ W A Q q =>
  ho σ W A _ fun x W1 A1 l1 h1 => by
    cases h1
    obtain ⟨dx, e⟩ := A1.ow.ok _ hp
    refine ⟨p, dx, fs, rfl, e, hl, ha σ W1 A1 _ fun vs W2 A2 l2 h2 => ?_⟩
    rw [List.append_nil]
    exact sp_ro (as := .r (.ref p) :: as) hK A2 hm hn (.cons rfl h2) hG fun v W' A' l' h' => q v W' A' ((l1.trans l2).trans l') h'
theorem e_methM {p C : Addr} {fs : List (Str × V)} {mn : Str} (hK : Γ.K = K) (ho : Ev Γ to δ μ (.r (.ref p)) μ1) (hp : (p, OO.ins C fs) ∈ μ1) (hl : fs.lookup mn = none) (ha : EvA Γ ta δ μ1 as (m ++ rest)) (hG : G (.r (.ref p) :: as) m (.ret s m')) (e : m'.map (·.1) = m.map (·.1)) (may : ∀ b ∈ m.map (·.1), Γ.may b) (hn : as.length + 1 = n := by rfl) :
    Ev Γ (tMeth C mn (spG K n false G) [] E to ta) δ μ s (m' ++ rest) := fun σ W A Q q =>
  ho σ W A _ fun x W1 A1 l1 h1 => by
    cases h1
    obtain ⟨dx, e1⟩ := A1.ow.ok _ hp
    refine ⟨p, dx, fs, rfl, e1, hl, ha σ W1 A1 _ fun vs W2 A2 l2 h2 => ?_⟩
    rw [List.append_nil]
    exact sp_rw (as := .r (.ref p) :: as) hK A2 hn (.cons rfl h2) hG e may fun v W' A' l' h' => q v W' A' ((l1.trans l2).trans l') h'
end
/-! ### a def keeps its promise -/
section
variable {P : Program} {w : World} {K : PySem.W.Frag} {mg : Str → Option Value} {base : Heap} {x qual : Str} {params : Arguments} {body : List Stmt} {scope : Scope} {f : Addr} {fd : FuncData}
theorem Ast.start {W : Wd} {vs : List V} {as : List Sv} {m : Mu} {N : List Str} {ro : Bool} (hs : SvAll K W.i vs as) (ho : Owns K W m) :
    Ast ⟨K, W, foot ro m, m.map (·.1), []⟩ (L2.start N vs) W (as.map some ++ List.replicate (N.length - as.length) none) m := by
  have hl : vs.length = as.length := paired_len hs
  refine ⟨LeX.refl _ W, ?_, fun j s e => ?_, ho, fun e he => .inl (List.mem_map_of_mem he), fun g hg => (nomatch hg), fun b hb => ?_⟩
  · unfold L2.start
    simp [hl]
  · have hj : j < as.length := by
      by_cases hj : j < as.length
      · exact hj
      · rw [List.getElem?_append_right (by simpa using hj), List.getElem?_replicate] at e
        split at e <;> cases e
    rw [List.getElem?_append_left (by simpa using hj), List.getElem?_map] at e
    cases q : as[j]? with
    | none => rw [q] at e; cases e
    | some a =>
      rw [q] at e
      cases e
      obtain ⟨v, h1, h2⟩ := paired_get hs q
      refine ⟨v, ?_, h2⟩
      unfold L2.start
      rw [List.getElem?_append_left (by simpa [hl] using hj), List.getElem?_map, h1]
      rfl
  · obtain ⟨e, he, q⟩ := List.mem_map.mp hb
    exact q ▸ (ho.fr e he).2
/-- THE RULE for a def: its body's reading from the state at the entry -/
theorem fn_ok {N ps : List Str} {k n : Nat} {ro : Bool} {G : List Sv → Mu → Oc → Prop} (F : FunD K x qual params body scope [] [] f fd) (S : FnScope N ps scope) (hn : ps.length = n)
    (hb : ∀ (cdv : Value) (A : Around) (outer : List Env) (s : Shared) (H : Hp) (E : XK), Room k (A.deeper (envOfC qual scope s.heap.objs.size f cdv)) →
      ∃ t, PSs (cxOf (L2.CX P w) P w K mg base N qual scope f cdv A outer s H E) body t ∧ ∀ (Γ : Ga) (as : List Sv) (m : Mu) (o : Oc) (D : Ends), Γ.K = K → Γ.F = foot ro m → Γ.O = m.map (·.1) → as.length = n → G as m o → (∀ σ H, D.rt .non H → D.nx σ H) →
        OcOk Γ.K Γ.W0 Γ.F D.rt E o → Sx Γ t D (as.map some ++ List.replicate (N.length - n) none) m) : FnOk P w K mg base (L2.CX P w) (k + 1) f fd ps (spG K n ro G) := by
  refine FunD.ok F S (fun vs H Q E h => ?_) (fun cdv A outer s H vs Q E hr h => ?_)
  · obtain ⟨W, as, m, o, _, h1, _, h2, _⟩ := h
    rw [paired_len h1, h2, hn]
  · obtain ⟨W, as, m, o, rfl, h1, h2, h3, h4, h5⟩ := h
    obtain ⟨t, ht, hx⟩ := hb cdv A outer s W.h E hr
    refine ⟨t, ht, ?_⟩
    have A0 := Ast.start (N := N) (ro := ro) h1 h2
    rw [h3] at A0
    exact hx ⟨K, W, foot ro m, m.map (·.1), []⟩ as m o _ rfl rfl rfl h3 h4 (fun _ _ z => z) h5 _ W A0
end
end Sf
namespace Sf
open PySem PySem.Spec PyProof.Rows L2
/-! ### isinstance -/
def tyN : PD → String
  | .none => "NoneType"
  | .bool _ => "bool"
  | .int _ => "int"
  | .str _ => "str"
  | .list _ => "list"
  | .tuple _ => "tuple"
  | .dict _ => "dict"
theorem dp_ty {K : PySem.W.Frag} {I : Hp} {v : V} {d : PD} (h : Dp K I v d) : TyX K I v (.type (tyN d)) := by
  cases h with
  | non => exact .base .non
  | bl b => exact .base (.bl b)
  | int i => exact .base (.int i)
  | str x => exact .base (.str x)
  | lst h1 _ =>
    rcases h1 with (h1 | ⟨o, h1⟩) | ⟨o, its, n, h1, h2, _⟩
    · exact .base (.lst h1)
    · exact .base (.frz h1)
    · exact .kList h1 h2
  | tup h1 _ =>
    rcases h1 with (h1 | ⟨o, h1⟩) | ⟨o, its, n, h1, h2, _⟩
    · exact .base (.tup h1)
    · exact .fTuple h1
    · exact .kTuple h1 h2
/-- which of the five classes a datum is of -/
def isA (n : String) : PD → Bool
  | .bool _ => n == "bool" || n == "int"
  | .int _ => n == "int"
  | .str _ => n == "str"
  | .list _ => n == "list"
  | .tuple _ => n == "tuple"
  | .none => false
  | .dict _ => n == "dict"
theorem kit_isA {K : PySem.W.Frag} (n : String) (hn : n = "int" ∨ n = "bool" ∨ n = "str" ∨ n = "list" ∨ n = "tuple") (d : PD) : PySem.W.kitOne K (.type (tyN d)) (.type n) = some (isA n d) := by
  refine kit_ty ?_
  rcases hn with rfl | rfl | rfl | rfl | rfl <;> cases d <;> (first | decide +kernel | rfl)
def isI : PD → Bool
  | .int _ => true
  | _ => false
section
variable {Γ : Ga} {δ : De} {μ μ1 μ2 : Mu} {ta tb te : TE} {d : PD} {K : PySem.W.Frag}
theorem tyx_ex {H H' : Hp} {v : V} {t : Value} (e : Same H H') (h : TyX K H v t) : TyX K H' v t := by
  cases h with
  | base b =>
    refine .base ?_
    cases b with
    | non => exact .non
    | bl b => exact .bl b
    | int i => exact .int i
    | str x => exact .str x
    | flt x => exact .flt x
    | lst h => exact .lst (e _ _ h)
    | frz h => exact .frz (e _ _ h)
    | tup h => exact .tup (e _ _ h)
    | dK h => exact .dK (e _ _ h)
    | dT h => exact .dT (e _ _ h)
    | ins h a b c d f => exact .ins (e _ _ h) a b c d f
  | byt b => exact .byt b
  | set h => exact .set (e _ _ h)
  | kList h c => exact .kList h c
  | kTuple h c => exact .kTuple h c
  | kDict h c => exact .kDict h c
  | fTuple h => exact .fTuple (e _ _ h)
  | fDict h => exact .fDict (e _ _ h)
theorem e_isi {n : String} (hK : Γ.K = K) (hn : n = "int" ∨ n = "bool" ∨ n = "str" ∨ n = "list" ∨ n = "tuple") (ha : Ev Γ ta δ μ (.d d) μ1) (hb : Ev Γ tb δ μ1 (.r (.ty n)) μ2) : Ev Γ (tCB (rIsi K) (tCons ta (tCons tb tNil))) δ μ (dB (isA n d)) μ2 :=
  e_cb (a_cons ha (a_cons hb a_nil)) fun σ W vs A hs Q q => by
    subst hK
    obtain ⟨v, w, rfl, h1, h2⟩ := sv2 hs
    cases h2
    exact ⟨v, .ty n, _, _, _, rfl, .ty n, tyx_ex W.s (dp_ty h1), kit_isA n hn d, q _ W (LeX.refl _ W) (.bl _)⟩
theorem e_isi_int (hK : Γ.K = K) (ha : Ev Γ ta δ μ (.d d) μ1) : Ev Γ (tCB (rIsi K) (tCons ta (tCons (tC (.ty "int")) tNil))) δ μ (dB (isA "int" d)) μ1 := e_isi hK (.inl rfl) ha e_raw
theorem e_isi_bool (hK : Γ.K = K) (ha : Ev Γ ta δ μ (.d d) μ1) : Ev Γ (tCB (rIsi K) (tCons ta (tCons (tC (.ty "bool")) tNil))) δ μ (dB (isA "bool" d)) μ1 := e_isi hK (.inr (.inl rfl)) ha e_raw
theorem e_isi_str (hK : Γ.K = K) (ha : Ev Γ ta δ μ (.d d) μ1) : Ev Γ (tCB (rIsi K) (tCons ta (tCons (tC (.ty "str")) tNil))) δ μ (dB (isA "str" d)) μ1 := e_isi hK (.inr (.inr (.inl rfl))) ha e_raw
theorem e_isi_list (hK : Γ.K = K) (ha : Ev Γ ta δ μ (.d d) μ1) : Ev Γ (tCB (rIsi K) (tCons ta (tCons (tC (.ty "list")) tNil))) δ μ (dB (isA "list" d)) μ1 := e_isi hK (.inr (.inr (.inr (.inl rfl)))) ha e_raw
theorem e_isi_tuple (hK : Γ.K = K) (ha : Ev Γ ta δ μ (.d d) μ1) : Ev Γ (tCB (rIsi K) (tCons ta (tCons (tC (.ty "tuple")) tNil))) δ μ (dB (isA "tuple" d)) μ1 := e_isi hK (.inr (.inr (.inr (.inr rfl)))) ha e_raw
/-- isinstance of an owned list -/
theorem e_isiO {n : String} {p : Addr} {ds : List PD} (hK : Γ.K = K) (hn : n = "int" ∨ n = "bool" ∨ n = "str" ∨ n = "list" ∨ n = "tuple") (ha : Ev Γ ta δ μ (.r (.ref p)) μ1) (hb : Ev Γ tb δ μ1 (.r (.ty n)) μ2) (hp : (p, OO.lst ds) ∈ μ2) : Ev Γ (tCB (rIsi K) (tCons ta (tCons tb tNil))) δ μ (dB (n == "list")) μ2 :=
  e_cb (a_cons ha (a_cons hb a_nil)) fun σ W vs A hs Q q => by
    subst hK
    obtain ⟨v, w, rfl, h1, h2⟩ := sv2 hs
    cases h1
    cases h2
    obtain ⟨vs, h3, h4⟩ := A.ow.ok _ hp
    exact ⟨_, .ty n, _, _, _, rfl, .ty n, .base (.lst h3), kit_isA n hn (.list []), q _ W (LeX.refl _ W) (.bl _)⟩
end
/-! ### what is walked -/
def Gh (K : PySem.W.Frag) (gs : List (V × Sv)) (W : Wd) : Prop := ∀ g ∈ gs, SvOk K W.i g.1 g.2
/-- J yields the values xs, while the ghosts stand -/
structure Yl (K : PySem.W.Frag) (J : It) (xs : List Sv) (gs : List (V × Sv)) : Prop where
  go : ∀ i (W : Wd), i < xs.length → Gh K gs W → J.go i W.h
  stop : ∀ W : Wd, Gh K gs W → J.stop xs.length W.h
  yld : ∀ i (W : Wd) x H', i < xs.length → Gh K gs W → J.yld i W.h x H' → ∃ W' s, Wd.h W' = H' ∧ Le W W' ∧ xs[i]? = some s ∧ SvOk K W'.i x s
def EvW (Γ : Ga) (wi : TI) (δ : De) (μ : Mu) (xs : List Sv) (μ' : Mu) : Prop := ∀ σ W, Ast Γ σ W δ μ → ∀ R : It → Hp → Prop, (∀ J gs W', Ast Γ σ W' δ μ' → Same W.i W'.i → Gh Γ.K gs W' → Yl Γ.K J xs gs → R J W'.h) → wi σ W.h R
/-- owned objects that are to stand -/
def Ow (K : PySem.W.Frag) (ow : Mu) (W : Wd) : Prop := ∀ e ∈ ow, OOk K W e.1 e.2
structure Ylo (K : PySem.W.Frag) (J : It) (xs : List Sv) (gs : List (V × Sv)) (ow : Mu) : Prop where
  go : ∀ i (W : Wd), i < xs.length → Gh K gs W → Ow K ow W → J.go i W.h
  stop : ∀ W : Wd, Gh K gs W → Ow K ow W → J.stop xs.length W.h
  yld : ∀ i (W : Wd) x H', i < xs.length → Gh K gs W → Ow K ow W → J.yld i W.h x H' → ∃ W' s, Wd.h W' = H' ∧ Le W W' ∧ xs[i]? = some s ∧ SvOk K W'.i x s
def EvWo (Γ : Ga) (wi : TI) (δ : De) (μ : Mu) (xs : List Sv) (ow : Mu) (μ' : Mu) : Prop := ∀ σ W, Ast Γ σ W δ μ → ∀ R : It → Hp → Prop, (∀ J gs W', Ast Γ σ W' δ μ' → Same W.i W'.i → Gh Γ.K gs W' → Ylo Γ.K J xs gs ow → R J W'.h) → wi σ W.h R
theorem EvW.o {Γ : Ga} {wi : TI} {δ : De} {μ μ' : Mu} {xs : List Sv} (h : EvW Γ wi δ μ xs μ') : EvWo Γ wi δ μ xs [] μ' := fun σ W A R r =>
  h σ W A R fun J gs W' A' l g y => r J gs W' A' l g ⟨fun i W h1 h2 _ => y.go i W h1 h2, fun W h _ => y.stop W h, fun i W x H' h1 h2 _ h3 => y.yld i W x H' h1 h2 h3⟩
theorem Ast.ghosts {Γ : Ga} {σ : L2.St} {W : Wd} {δ : De} {μ : Mu} (a : Ast Γ σ W δ μ) {gs : List (V × Sv)} (h : Gh Γ.K gs W) : Ast { Γ with gh := gs ++ Γ.gh } σ W δ μ :=
  ⟨a.bs, a.len, a.sl, a.ow, a.fo, fun g hg => (List.mem_append.mp hg).elim (h g) (a.gh g), a.fF⟩
theorem Ast.unghosts {Γ : Ga} {σ : L2.St} {W : Wd} {δ : De} {μ : Mu} {gs : List (V × Sv)} (a : Ast { Γ with gh := gs ++ Γ.gh } σ W δ μ) : Ast Γ σ W δ μ :=
  ⟨a.bs, a.len, a.sl, a.ow, a.fo, fun g hg => a.gh g (List.mem_append_right _ hg), a.fF⟩
theorem gh_nil {K : PySem.W.Frag} {W : Wd} : Gh K [] W := fun _ h => nomatch h
theorem gh_one {K : PySem.W.Frag} {W : Wd} {v : V} {s : Sv} (h : SvOk K W.i v s) : Gh K [(v, s)] W := fun g hg => by
  cases List.mem_singleton.mp hg
  exact h
theorem gh_two {K : PySem.W.Frag} {W : Wd} {v v' : V} {s s' : Sv} (h : SvOk K W.i v s) (h' : SvOk K W.i v' s') : Gh K [(v, s), (v', s')] W := fun g hg => by
  rcases List.mem_cons.mp hg with rfl | hg
  · exact h
  · cases List.mem_singleton.mp hg
    exact h'
theorem gh_L {K : PySem.W.Frag} {W : Wd} {p : Addr} {ds : List PD} (h : SvOk K W.i (.ref p) (dL ds)) : ∃ ws, SqL K W.h p ws ∧ DpAll K W.i ws ds := by
  obtain ⟨p', ws, e, h5, h6⟩ := svL h
  cases e
  exact ⟨ws, sf_sqL W.s h5, h6⟩
theorem gh_U {K : PySem.W.Frag} {W : Wd} {p : Addr} {ds : List PD} (h : SvOk K W.i (.ref p) (dU ds)) : ∃ ws, SqT K W.h p ws ∧ DpAll K W.i ws ds := by
  obtain ⟨p', ws, e, h5, h6⟩ := svU h
  cases e
  exact ⟨ws, sf_sqT W.s h5, h6⟩
section
variable {Γ : Ga} {δ : De} {μ μ1 μ2 : Mu} {ta tb te : TE} {ds es : List PD} {K : PySem.W.Frag}
theorem w_list (hK : Γ.K = K) (h : Ev Γ te δ μ (dL ds) μ1) : EvW Γ (iList K te) δ μ (datas ds) μ1 := fun σ W A R r =>
  h σ W A _ fun v W1 A1 l1 h1 => by
    subst hK
    obtain ⟨p, vs, rfl, h3, h4⟩ := svL h1
    refine ⟨p, rfl, ⟨vs, sf_sqL W1.s h3⟩, r _ [(.ref p, dL ds)] W1 A1 l1 (gh_one h1) ⟨fun i W hi hg => ?_, fun W hg => ?_, fun i W x H' hi hg y => ?_⟩⟩
    all_goals obtain ⟨ws, h5, h6⟩ := gh_L (hg _ List.mem_cons_self)
    · have : i < ws.length := by rw [h6.length]; simpa [datas] using hi
      exact (walk_list (K := Γ.K) (a := p) (xs := ws)).goes i W.h this h5
    · have := (walk_list (K := Γ.K) (a := p) (xs := ws)).stops W.h h5
      rw [h6.length] at this
      simpa [datas] using this
    · have hlt : i < ws.length := by rw [h6.length]; simpa [datas] using hi
      obtain ⟨e1, e2⟩ := (walk_list (K := Γ.K) (a := p) (xs := ws)).yields i W.h x H' hlt h5 y
      obtain ⟨d, e3, e4⟩ := h6.getV e2
      exact ⟨W, .d d, e1.symm, LeX.refl _ W, by simp [datas, e3], e4⟩
theorem w_tup (hK : Γ.K = K) (h : Ev Γ te δ μ (dU ds) μ1) : EvW Γ (iTup K te) δ μ (datas ds) μ1 := fun σ W A R r =>
  h σ W A _ fun v W1 A1 l1 h1 => by
    subst hK
    obtain ⟨p, vs, rfl, h3, h4⟩ := svU h1
    refine ⟨p, rfl, ⟨vs, sf_sqT W1.s h3⟩, r _ [(.ref p, dU ds)] W1 A1 l1 (gh_one h1) ⟨fun i W hi hg => ?_, fun W hg => ?_, fun i W x H' hi hg y => ?_⟩⟩
    all_goals obtain ⟨ws, h5, h6⟩ := gh_U (hg _ List.mem_cons_self)
    · have : i < ws.length := by rw [h6.length]; simpa [datas] using hi
      exact (walk_tup (K := Γ.K) (a := p) (xs := ws)).goes i W.h this h5
    · have := (walk_tup (K := Γ.K) (a := p) (xs := ws)).stops W.h h5
      rw [h6.length] at this
      simpa [datas] using this
    · have hlt : i < ws.length := by rw [h6.length]; simpa [datas] using hi
      obtain ⟨e1, e2⟩ := (walk_tup (K := Γ.K) (a := p) (xs := ws)).yields i W.h x H' hlt h5 y
      obtain ⟨d, e3, e4⟩ := h6.getV e2
      exact ⟨W, .d d, e1.symm, LeX.refl _ W, by simp [datas, e3], e4⟩
/-- range(n), range(a, b) -/
def rangeS (lo : Int) (n : Nat) : List Sv := (List.range n).map fun (k : Nat) => dI (lo + k)
theorem rangeS_len {lo : Int} {n : Nat} : (rangeS lo n).length = n := by simp [rangeS]
theorem rangeS_get {lo : Int} {n i : Nat} (h : i < n) : (rangeS lo n)[i]? = some (dI (lo + i)) := by simp [rangeS, h]
theorem yl_range {lo : Int} {n : Nat} : Yl K (Itr lo n) (rangeS lo n) [] := by
  refine ⟨fun i W hi _ => ?_, fun W _ => ?_, fun i W x H' hi _ y => ?_⟩
  · exact (walk_range (lo := lo) (n := n)).goes i W.h (by simpa [rangeS_len] using hi) True.intro
  · rw [rangeS_len]
    exact (walk_range (lo := lo) (n := n)).stops W.h True.intro
  · have hi : i < n := by simpa [rangeS_len] using hi
    obtain ⟨e1, e2⟩ := (walk_range (lo := lo) (n := n)).yields i W.h x H' hi True.intro y
    exact ⟨W, _, e1.symm, LeX.refl _ W, rangeS_get hi, by rw [e2]; exact .int _⟩
theorem w_range1 {j : Int} (h : Ev Γ te δ μ (dI j) μ1) (h1 : -(2 ^ 62) ≤ j) (h2 : j < 2 ^ 62) : EvW Γ (iRng1 (tCons te tNil)) δ μ (rangeS 0 j.toNat) μ1 := fun σ W A R r =>
  (a_cons h a_nil) σ W A _ fun vs W1 A1 l1 hs => by
    obtain ⟨v, rfl, h3⟩ := sv1 hs
    cases svI h3
    exact ⟨j, rfl, h1, h2, r _ [] W1 A1 l1 gh_nil yl_range⟩
/-- a text, sign by sign -/
def signS (x : Str) : List Sv := x.cps.toList.map fun c => dS ⟨#[c]⟩
theorem w_str {x : Str} (h : Ev Γ te δ μ (dS x) μ1) : EvW Γ (iStr te) δ μ (signS x) μ1 := fun σ W A R r =>
  h σ W A _ fun v W1 A1 l1 h1 => by
    cases svS h1
    refine ⟨x, rfl, r _ [] W1 A1 l1 gh_nil ⟨fun i W hi _ => ?_, fun W _ => ?_, fun i W y H' hi _ q => ?_⟩⟩
    · exact (walk_str (z := x)).goes i W.h (by simpa [signS] using hi) True.intro
    · have := (walk_str (z := x)).stops W.h True.intro
      simpa [signS] using this
    · have hi : i < x.cps.size := by simpa [signS] using hi
      obtain ⟨e1, c, e2, e3⟩ := (walk_str (z := x)).yields i W.h y H' hi True.intro q
      refine ⟨W, dS ⟨#[c]⟩, e1.symm, LeX.refl _ W, ?_, by rw [e3]; exact .str _⟩
      unfold signS
      rw [List.getElem?_map, Array.getElem?_toList, e2]
      rfl
/-- enumerate(list): pairs -/
def enumS (ds : List PD) : List Sv := (ds.zipIdx).map fun p => dU [.int (p.2 : Nat), p.1]
theorem enumS_len : (enumS ds).length = ds.length := by simp [enumS]
theorem enumS_get {i : Nat} {d : PD} (h : ds[i]? = some d) : (enumS ds)[i]? = some (dU [.int (i : Nat), d]) := by
  simp [enumS, List.getElem?_zipIdx, h]
theorem w_enum (hK : Γ.K = K) (h : Ev Γ te δ μ (dL ds) μ1) : EvW Γ (iEnum K (tCons te tNil)) δ μ (enumS ds) μ1 := fun σ W A R r =>
  (a_cons h a_nil) σ W A _ fun vs W1 A1 l1 hs => by
    subst hK
    obtain ⟨v, rfl, h1⟩ := sv1 hs
    obtain ⟨p, vs, rfl, h3, h4⟩ := svL h1
    refine ⟨p, vs, rfl, sf_sqL W1.s h3, r _ [(.ref p, dL ds)] W1 A1 l1 (gh_one h1) ⟨fun i W hi hg => ?_, fun W hg => ?_, fun i W x H' hi hg y => ?_⟩⟩
    all_goals obtain ⟨ws, h5, h6⟩ := gh_L (hg _ List.mem_cons_self)
    · have : i < ws.length := by rw [h6.length]; simpa [enumS_len] using hi
      exact (walk_enum (K := Γ.K) (a := p) (xs := ws)).goes i W.h this h5
    · have := (walk_enum (K := Γ.K) (a := p) (xs := ws)).stops W.h h5
      rw [h6.length] at this
      simpa [enumS_len] using this
    · have hlt : i < ws.length := by rw [h6.length]; simpa [enumS_len] using hi
      obtain ⟨T, a, b, e1, e2, e3, e4, e5⟩ := (walk_enum (K := Γ.K) (a := p) (xs := ws)).yields i W.h x H' hlt h5 y
      obtain ⟨d, e6, e7⟩ := h6.getV e5
      cases e4
      have l := le_put (o := .tup [.int (i : Nat), b]) e2
      exact ⟨W.put T _ e2, _, e3.symm, l, enumS_get e6, by
        rw [e1]
        exact .tup (SqT.of upd_same) (.cons (.int _) (.cons (Dp.ex l.i e7) .nil))⟩
/-- zip of two lists -/
def zipS (ds es : List PD) : List Sv := (ds.zip es).map fun p => dU [p.1, p.2]
theorem w_zip (hK : Γ.K = K) (h : Ev Γ ta δ μ (dL ds) μ1) (h' : Ev Γ tb δ μ1 (dL es) μ2) : EvW Γ (iZip K (tCons ta (tCons tb tNil))) δ μ (zipS ds es) μ2 := fun σ W A R r =>
  (a_cons h (a_cons h' a_nil)) σ W A _ fun vs W1 A1 l1 hs => by
    subst hK
    obtain ⟨v, v', rfl, h1, h1'⟩ := sv2 hs
    obtain ⟨p, vs, rfl, h3, h4⟩ := svL h1
    obtain ⟨p', vs', rfl, h3', h4'⟩ := svL h1'
    refine ⟨p, p', vs, vs', rfl, sf_sqL W1.s h3, sf_sqL W1.s h3', r _ [(.ref p, dL ds), (.ref p', dL es)] W1 A1 l1 (gh_two h1 h1') ⟨fun i W hi hg => ?_, fun W hg => ?_, fun i W x H' hi hg y => ?_⟩⟩
    all_goals obtain ⟨ws, h5, h6⟩ := gh_L (hg _ List.mem_cons_self)
    all_goals obtain ⟨ws', h5', h6'⟩ := gh_L (hg _ (List.mem_cons_of_mem _ List.mem_cons_self))
    · have : i < min ws.length ws'.length := by rw [h6.length, h6'.length]; simpa [zipS] using hi
      exact (walk_zip (K := Γ.K) (a := p) (b := p') (xs := ws) (ys := ws') rfl).goes i W.h this ⟨h5, h5'⟩
    · have := (walk_zip (K := Γ.K) (a := p) (b := p') (xs := ws) (ys := ws') rfl).stops W.h ⟨h5, h5'⟩
      rw [h6.length, h6'.length] at this
      simpa [zipS] using this
    · have hlt : i < min ws.length ws'.length := by rw [h6.length, h6'.length]; simpa [zipS] using hi
      obtain ⟨T, a, b, e1, e2, e3, e4, e5⟩ := (walk_zip (K := Γ.K) (a := p) (b := p') (xs := ws) (ys := ws') rfl).yields i W.h x H' hlt ⟨h5, h5'⟩ y
      obtain ⟨d, e6, e7⟩ := h6.getV e4
      obtain ⟨d', e6', e7'⟩ := h6'.getV e5
      have l := le_put (o := .tup [a, b]) e2
      refine ⟨W.put T _ e2, dU [d, d'], e3.symm, l, ?_, ?_⟩
      · simp [zipS, List.getElem?_zip_eq_some, e6, e6']
      · rw [e1]
        exact .tup (SqT.of upd_same) (.cons (Dp.ex l.i e7) (.cons (Dp.ex l.i e7') .nil))
/-! ### targets -/
def GT (Γ : Ga) (g : TG) (δ : De) (μ : Mu) (s : Sv) (δ' : De) : Prop := ∀ v σ W, Ast Γ σ W δ μ → SvOk Γ.K W.i v s → ∀ Q : L2.St → Hp → Prop, (∀ σ', Ast Γ σ' W δ' μ → Q σ' W.h) → g v σ W.h Q
theorem gt_name {k : Nat} {s : Sv} : GT Γ (gName k) δ μ s (δ.set k (some s)) := fun v σ W A h Q q => q _ (A.set k h)
def GTs (Γ : Ga) (g : TGs) (δ : De) (μ : Mu) (ds : List PD) (δ' : De) : Prop := ∀ vs σ W, Ast Γ σ W δ μ → DpAll Γ.K W.i vs ds → ∀ Q : L2.St → Hp → Prop, (∀ σ', Ast Γ σ' W δ' μ → Q σ' W.h) → g vs σ W.h Q
theorem gts_nil : GTs Γ gNil δ μ [] δ := fun vs σ W A h Q q => by
  cases h
  exact ⟨rfl, q σ A⟩
theorem gts_cons {g : TG} {gs : TGs} {d : PD} {δ1 δ2 : De} (h1 : GT Γ g δ μ (.d d) δ1) (h2 : GTs Γ gs δ1 μ ds δ2) : GTs Γ (gCons g gs) δ μ (d :: ds) δ2 := fun vs σ W A h Q q => by
  cases h with
  | cons ha hb => exact ⟨_, _, rfl, h1 _ σ W A ha _ fun σ' A' => h2 _ σ' W A' hb Q q⟩
theorem gt_tup {gs : TGs} {δ1 : De} {n : Nat} (hK : Γ.K = K) (hn : ds.length = n) (h : GTs Γ gs δ μ ds δ1) : GT Γ (gTup K n gs) δ μ (dU ds) δ1 := fun v σ W A h1 Q q => by
  subst hK
  obtain ⟨p, vs, rfl, h3, h4⟩ := svU h1
  exact ⟨p, vs, rfl, sf_sqT W.s h3, by rw [h4.length, hn], h vs σ W A h4 Q q⟩
/-- a, b = e -/
theorem x_asgT {te : TE} {g : TG} {D : Ends} {s : Sv} {δ' : De} (h : Ev Γ te δ μ s μ1) (hg : GT Γ g δ μ1 s δ') (n : Nx Γ D δ' μ1) : Sx Γ (tAsg te g) D δ μ := fun σ W A =>
  h σ W A _ fun v W1 A1 l1 h1 => hg v σ W1 A1 h1 _ fun σ' A' => n σ' W1 A'
theorem x_letT {te : TE} {g : TG} {D : Ends} {s : Sv} {δ' : De} {u : TS} (h : Ev Γ te δ μ s μ1) (hg : GT Γ g δ μ1 s δ') (n : Sx Γ u D δ' μ1) : Sx Γ (tSeq (tAsg te g) u) D δ μ := x_seq (x_asgT h hg (x_nx n))
/-! ### for -/
/-- what a turn is to reach -/
def LoopNx (Γ : Ga) (Inv : Nat → De → Mu → Prop) (i : Nat) : L2.St → Hp → Prop := fun σ H => ∃ W δ μ, Wd.h W = H ∧ Ast Γ σ W δ μ ∧ Inv i δ μ
theorem nx_loop {Inv : Nat → De → Mu → Prop} {i : Nat} {D : Ends} (hD : D.nx = LoopNx Γ Inv i) (h : Inv i δ μ) : Nx Γ D δ μ := fun σ W A => by
  rw [hD]
  exact ⟨W, δ, μ, rfl, A, h⟩
theorem x_cont {Inv : Nat → De → Mu → Prop} {i : Nat} {D : Ends} (hD : D.ct = LoopNx Γ Inv i) (h : Inv i δ μ) : Sx Γ tCont D δ μ := fun σ W A => by
  show D.ct σ W.h
  rw [hD]
  exact ⟨W, δ, μ, rfl, A, h⟩
theorem x_forO {wi : TI} {g : TG} {tb : TS} {D : Ends} {xs : List Sv} {ow : Mu} (hw : EvWo Γ wi δ μ xs ow μ1) (Inv : Nat → De → Mu → Prop) (h0 : Inv 0 δ μ1)
    (hs : ∀ i s δ' μ' gh (D' : Ends), xs[i]? = some s → Inv i δ' μ' → D'.nx = LoopNx { Γ with gh := gh } Inv (i + 1) → D'.ct = LoopNx { Γ with gh := gh } Inv (i + 1) → D'.rt = D.rt → D'.bk = (fun σ H => D.nx σ H) →
      ∃ δ2, GT { Γ with gh := gh } g δ' μ' s δ2 ∧ Sx { Γ with gh := gh } tb D' δ2 μ')
    (hd : ∀ δ' μ', Inv xs.length δ' μ' → Nx Γ D δ' μ') (hO : ∀ i δ' μ', Inv i δ' μ' → ∀ e ∈ ow, e ∈ μ') : Sx Γ (tFor wi g tb) D δ μ := fun σ W A =>
  hw σ W A _ fun J gs W1 A1 l1 hg Y => by
    have A1' := A1.ghosts hg
    refine ⟨fun i m σ' H' => m = xs.length - i ∧ i ≤ xs.length ∧ LoopNx { Γ with gh := gs ++ Γ.gh } Inv i σ' H', ⟨xs.length, by simp, Nat.zero_le _, W1, δ, μ1, rfl, A1', h0⟩, ?_⟩
    rintro i m σ' H' ⟨rfl, hi, W2, δ2, μ2, rfl, A2, hinv⟩
    have hg2 : Gh Γ.K gs W2 := fun g hm => A2.gh g (List.mem_append_left _ hm)
    have hw2 : Ow Γ.K ow W2 := fun e he => A2.ow.ok e (hO i δ2 μ2 hinv e he)
    by_cases hlt : i < xs.length
    · refine .inr ⟨Y.go i W2 hlt hg2 hw2, LoopNx { Γ with gh := gs ++ Γ.gh } Inv (i + 1), fun σ3 H3 h3 => ⟨xs.length - (i + 1), by omega, rfl, hlt, h3⟩, fun x H3 y => ?_⟩
      obtain ⟨W3, s, rfl, l3, e3, e4⟩ := Y.yld i W2 x H3 hlt hg2 hw2 y
      obtain ⟨δ3, h5, h6⟩ := hs i s δ2 μ2 (gs ++ Γ.gh) { D with nx := LoopNx { Γ with gh := gs ++ Γ.gh } Inv (i + 1), ct := LoopNx { Γ with gh := gs ++ Γ.gh } Inv (i + 1), bk := D.nx } e3 hinv rfl rfl rfl rfl
      exact h5 x σ' W3 (A2.le l3) e4 _ fun σ4 A4 => h6 σ4 W3 A4
    · have e : i = xs.length := by omega
      subst e
      exact .inl ⟨Y.stop W2 hg2 hw2, hd δ2 μ2 hinv σ' W2 A2.unghosts⟩
theorem x_for {wi : TI} {g : TG} {tb : TS} {D : Ends} {xs : List Sv} (hw : EvW Γ wi δ μ xs μ1) (Inv : Nat → De → Mu → Prop) (h0 : Inv 0 δ μ1)
    (hs : ∀ i s δ' μ' gh (D' : Ends), xs[i]? = some s → Inv i δ' μ' → D'.nx = LoopNx { Γ with gh := gh } Inv (i + 1) → D'.ct = LoopNx { Γ with gh := gh } Inv (i + 1) → D'.rt = D.rt → D'.bk = (fun σ H => D.nx σ H) →
      ∃ δ2, GT { Γ with gh := gh } g δ' μ' s δ2 ∧ Sx { Γ with gh := gh } tb D' δ2 μ')
    (hd : ∀ δ' μ', Inv xs.length δ' μ' → Nx Γ D δ' μ') : Sx Γ (tFor wi g tb) D δ μ := x_forO hw.o Inv h0 hs hd fun _ _ _ _ e he => nomatch he
/-- an owned list is walked -/
theorem w_listO {p : Addr} (hK : Γ.K = K) (h : Ev Γ te δ μ (.r (.ref p)) μ1) (hp : (p, OO.lst ds) ∈ μ1) : EvWo Γ (iList K te) δ μ (datas ds) [(p, .lst ds)] μ1 := fun σ W A R r =>
  h σ W A _ fun v W1 A1 l1 h1 => by
    subst hK
    cases h1
    obtain ⟨vs, h3, h4⟩ := A1.ow.ok _ hp
    refine ⟨p, rfl, ⟨vs, SqL.of h3⟩, r _ [] W1 A1 l1 gh_nil ⟨fun i W hi _ hw => ?_, fun W _ hw => ?_, fun i W x H' hi _ hw y => ?_⟩⟩
    all_goals obtain ⟨ws, h5, h6⟩ := hw _ List.mem_cons_self
    · have : i < ws.length := by rw [h6.length]; simpa [datas] using hi
      exact (walk_list (K := Γ.K) (a := p) (xs := ws)).goes i W.h this (SqL.of h5)
    · have := (walk_list (K := Γ.K) (a := p) (xs := ws)).stops W.h (SqL.of h5)
      rw [h6.length] at this
      simpa [datas] using this
    · have hlt : i < ws.length := by rw [h6.length]; simpa [datas] using hi
      obtain ⟨e1, e2⟩ := (walk_list (K := Γ.K) (a := p) (xs := ws)).yields i W.h x H' hlt (SqL.of h5) y
      obtain ⟨d, e3, e4⟩ := h6.getV e2
      exact ⟨W, .d d, e1.symm, LeX.refl _ W, by simp [datas, e3], e4⟩
end
end Sf
namespace Sf
open PySem PySem.Spec PyProof.Rows L2
/-! ### comprehensions -/
def wipeD (δ : De) : List Nat → De
  | [] => δ
  | v :: vs => (wipeD δ vs).set v none
theorem wipeD_len {δ : De} : ∀ {vs : List Nat}, (wipeD δ vs).length = δ.length
  | [] => rfl
  | v :: vs => by unfold wipeD; rw [List.length_set, wipeD_len]
theorem wipeD_some {δ : De} {i : Nat} {s : Sv} : ∀ {vs : List Nat}, (wipeD δ vs)[i]? = some (some s) → δ[i]? = some (some s) ∧ i ∉ vs
  | [], h => ⟨h, by simp⟩
  | v :: vs, h => by
    unfold wipeD at h
    by_cases e : i = v
    · subst e
      by_cases hl : i < (wipeD δ vs).length
      · rw [List.getElem?_set_self hl] at h
        cases h
      · rw [List.getElem?_eq_none (by rw [List.length_set]; omega)] at h
        cases h
    · rw [List.getElem?_set_ne (Ne.symm e)] at h
      obtain ⟨h1, h2⟩ := wipeD_some h
      exact ⟨h1, by simp [e, h2]⟩
theorem wipe_get {σ : L2.St} {i : Nat} : ∀ {vs : List Nat}, i ∉ vs → (wipe σ vs)[i]? = σ[i]?
  | [], _ => rfl
  | v :: vs, h => by
    unfold wipe
    rw [List.getElem?_set_ne (fun e => h (by simp [e])), wipe_get fun m => h (List.mem_cons_of_mem _ m)]
theorem wipe_in {σ : L2.St} {i : Nat} : ∀ {vs : List Nat}, i ∈ vs → (wipe σ vs)[i]? = if i < σ.length then some none else none
  | v :: vs, h => by
    unfold wipe
    by_cases e : i = v
    · subst e
      by_cases hl : i < σ.length
      · rw [List.getElem?_set_self (by rw [wipe_length]; exact hl), if_pos hl]
      · rw [List.getElem?_eq_none (by rw [List.length_set, wipe_length]; omega), if_neg hl]
    · rw [List.getElem?_set_ne (Ne.symm e)]
      exact wipe_in ((List.mem_cons.mp h).resolve_left e)
theorem wipe_set {σ : L2.St} {k : Nat} {x : Option V} {vs : List Nat} (h : k ∈ vs) : wipe (σ.set k x) vs = wipe σ vs := by
  refine List.ext_getElem? fun i => ?_
  by_cases m : i ∈ vs
  · rw [wipe_in m, wipe_in m, List.length_set]
  · rw [wipe_get m, wipe_get m, List.getElem?_set_ne]
    intro e
    subst e
    exact m h
theorem Ast.wipe {Γ : Ga} {σ : L2.St} {W : Wd} {δ : De} {μ : Mu} (a : Ast Γ σ W δ μ) (vs : List Nat) : Ast Γ (L2.wipe σ vs) W (wipeD δ vs) μ :=
  ⟨a.bs, by rw [wipe_length, wipeD_len]; exact a.len, fun j s h => by
    obtain ⟨h1, h2⟩ := wipeD_some h
    obtain ⟨v, h3, h4⟩ := a.sl j s h1
    exact ⟨v, by rw [wipe_get h2]; exact h3, h4⟩, a.ow, a.fo, a.gh, a.fF⟩
theorem Ast.back {Γ : Ga} {σ σ' : L2.St} {W W' : Wd} {δ δ' : De} {μ μ' : Mu} (a : Ast Γ σ W δ μ) (b : Ast Γ σ' W' δ' μ') (e : Same W.i W'.i) : Ast Γ σ W' δ μ' :=
  ⟨b.bs, a.len, fun j s h => let ⟨v, h1, h2⟩ := a.sl j s h; ⟨v, h1, h2.ex e⟩, b.ow, b.fo, b.gh, b.fF⟩
/-- a target of a comprehension: its names are the block's own -/
def GW (Γ : Ga) (g : TG) (vs : List Nat) (δ : De) (μ : Mu) (s : Sv) (δ' : De) : Prop := ∀ v σ W, Ast Γ σ W δ μ → SvOk Γ.K W.i v s → ∀ Q : L2.St → Hp → Prop, (∀ σ', Ast Γ σ' W δ' μ → wipe σ' vs = wipe σ vs → Q σ' W.h) → g v σ W.h Q
def GWs (Γ : Ga) (g : TGs) (vs : List Nat) (δ : De) (μ : Mu) (ds : List PD) (δ' : De) : Prop := ∀ ws σ W, Ast Γ σ W δ μ → DpAll Γ.K W.i ws ds → ∀ Q : L2.St → Hp → Prop, (∀ σ', Ast Γ σ' W δ' μ → wipe σ' vs = wipe σ vs → Q σ' W.h) → g ws σ W.h Q
section
variable {Γ : Ga} {δ : De} {μ μ1 μ2 : Mu} {ta tb te : TE} {ds es : List PD} {K : PySem.W.Frag} {vs : List Nat}
theorem gw_name {k : Nat} {s : Sv} (h : k ∈ vs := by decide) : GW Γ (gName k) vs δ μ s (δ.set k (some s)) := fun v σ W A hv Q q => q _ (A.set k hv) (wipe_set h)
theorem gws_nil : GWs Γ gNil vs δ μ [] δ := fun ws σ W A h Q q => by
  cases h
  exact ⟨rfl, q σ A rfl⟩
theorem gws_cons {g : TG} {gs : TGs} {d : PD} {δ1 δ2 : De} (h1 : GW Γ g vs δ μ (.d d) δ1) (h2 : GWs Γ gs vs δ1 μ ds δ2) : GWs Γ (gCons g gs) vs δ μ (d :: ds) δ2 := fun ws σ W A h Q q => by
  cases h with
  | cons ha hb => exact ⟨_, _, rfl, h1 _ σ W A ha _ fun σ' A' e' => h2 _ σ' W A' hb Q fun σ'' A'' e'' => q σ'' A'' (e''.trans e')⟩
theorem gw_tup {gs : TGs} {δ1 : De} {n : Nat} (hK : Γ.K = K) (hn : ds.length = n) (h : GWs Γ gs vs δ μ ds δ1) : GW Γ (gTup K n gs) vs δ μ (dU ds) δ1 := fun v σ W A h1 Q q => by
  subst hK
  obtain ⟨p, ws, rfl, h3, h4⟩ := svU h1
  exact ⟨p, ws, rfl, sf_sqT W.s h3, by rw [h4.length, hn], h ws σ W A h4 Q q⟩
theorem t_yes : EvT Γ tYes δ μ true μ := fun σ W A Q q => q W A Same.rfl'
theorem take_succ_get {α : Type} {l : List α} {i : Nat} {a : α} (h : l[i]? = some a) : l.take (i + 1) = l.take i ++ [a] := by
  rw [List.take_add_one, h]
  rfl
theorem e_lcO {α : Type} {wi : TI} {g : TG} {tt : TT} {te : TE} {ow : Mu} (L : List α) (F : α → Sv) (p : α → Bool) (y : α → PD) (hw : EvWo Γ wi δ μ (L.map F) ow μ1) (hO : ∀ e ∈ ow, e ∈ μ1)
    (hb : ∀ a, a ∈ L → ∀ gh o, ∃ δ2, GW { Γ with gh := gh } g vs (wipeD δ vs) (o :: μ1) (F a) δ2 ∧ EvT { Γ with gh := gh } tt δ2 (o :: μ1) (p a) (o :: μ1) ∧ (p a = true → Ev { Γ with gh := gh } te δ2 (o :: μ1) (.d (y a)) (o :: μ1)))
    (hlen : L.length ≤ 100000) : Ev Γ (tLc wi g tt te vs) δ μ (dL ((L.filter p).map y)) μ1 := fun σ W A Q q =>
  hw σ W A _ fun J gs W1 A1 l1 hg Y => by
    have A1' := A1.ghosts hg
    intro D hD
    obtain ⟨f1, f2, f3⟩ := A1'.fresh hD
    have A2 := A1'.new (o := .lst []) (u := .lst []) hD ⟨[], upd_same, .nil⟩
    have lenL : (L.map F).length = L.length := List.length_map _
    refine ⟨fun i m H' => m = L.length - i ∧ i ≤ L.length ∧ ∃ W', Wd.h W' = H' ∧ Same W1.i W'.i ∧ Ast { Γ with gh := gs ++ Γ.gh } σ W' δ ((D, .lst (((L.take i).filter p).map y)) :: μ1), ⟨L.length, by simp, Nat.zero_le _, W1.wr D (.lst []) (Wd.none_of hD), rfl, (Same.rfl' : Same W1.i W1.i), A2⟩, ?_⟩
    rintro i m H' ⟨rfl, hi, W2, rfl, l2, A3⟩
    have hg2 : Gh Γ.K gs W2 := fun g hm => A3.gh g (List.mem_append_left _ hm)
    have hw2 : Ow Γ.K ow W2 := fun e he => A3.ow.ok e (List.mem_cons_of_mem _ (hO e he))
    by_cases hlt : i < L.length
    · refine .inr ⟨Y.go i W2 (by rw [lenL]; exact hlt) hg2 hw2, fun H4 => i + 1 ≤ L.length ∧ ∃ W', Wd.h W' = H4 ∧ Same W1.i W'.i ∧ Ast { Γ with gh := gs ++ Γ.gh } σ W' δ ((D, .lst (((L.take (i + 1)).filter p).map y)) :: μ1), fun H4 h4 => ⟨L.length - (i + 1), by omega, rfl, h4.1, h4.2⟩, fun x H3 yl => ?_⟩
      obtain ⟨W3, s, rfl, l3, e3, e4⟩ := Y.yld i W2 x H3 (by rw [lenL]; exact hlt) hg2 hw2 yl
      obtain ⟨a, ea, es⟩ : ∃ a, L[i]? = some a ∧ s = F a := by
        rw [List.getElem?_map] at e3
        cases q1 : L[i]? with
        | none => rw [q1] at e3; cases e3
        | some a =>
          rw [q1] at e3
          cases e3
          exact ⟨a, rfl, rfl⟩
      subst es
      obtain ⟨δ2, h5, h6, h7⟩ := hb a (List.mem_of_getElem? ea) (gs ++ Γ.gh) (D, .lst (((L.take i).filter p).map y))
      have A4 := A3.le l3
      refine h5 x (wipe σ vs) W3 (A4.wipe vs) e4 _ fun σ5 A5 e5 => ⟨?_, ?_⟩
      · rw [e5]
        refine List.ext_getElem? fun j => ?_
        by_cases m : j ∈ vs
        · rw [wipe_in m, wipe_in m, wipe_length]
        · simp only [wipe_get m]
      refine h6 σ5 W3 A5 _ fun W6 A6 l6 => ?_
      have tk := take_succ_get ea
      cases hp : p a with
      | true =>
        rw [if_pos rfl]
        rw [hp] at h7
        refine h7 rfl σ5 W6 A6 _ fun v W7 A7 l7 e7 => ?_
        obtain ⟨ws, k1, k2⟩ := A7.ow.ok _ List.mem_cons_self
        have hsz : ws.length < sizeLine := by
          rw [k2.length]
          refine Nat.lt_of_lt_of_le ?_ (show 100001 ≤ sizeLine by decide)
          rw [List.length_map]
          have := List.length_filter_le p (L.take i)
          rw [List.length_take] at this
          omega
        refine ⟨ws, k1, hsz, hlt, ?_⟩
        have A8 := A4.back A7 (l6.trans l7)
        have hDi : W7.i D = none := (A8.ow.fr _ List.mem_cons_self).1
        have A9 := A8.wr (o' := .lst (((L.take i).filter p).map y ++ [y a])) (u := .lst (ws ++ [v])) (.inr f2) hDi ⟨_, upd_same, k2.app (.cons e7 .nil)⟩
        refine ⟨W7.wr D (.lst (ws ++ [v])) hDi, rfl, ((l2.trans l3.i).trans l6).trans l7, ?_⟩
        rw [tk, List.filter_append, List.map_append]
        have : List.filter p [a] = [a] := by simp [hp]
        rw [this]
        exact A9
      | false =>
        rw [if_neg Bool.false_ne_true]
        refine ⟨hlt, W6, rfl, (l2.trans l3.i).trans l6, ?_⟩
        have : List.filter p [a] = [] := by simp [hp]
        rw [tk, List.filter_append, this, List.append_nil]
        exact A4.back A6 l6
    · have e : i = L.length := by omega
      subst e
      refine .inl ⟨?_, ?_⟩
      · have := Y.stop W2 hg2 hw2
        rwa [lenL] at this
      · rw [List.take_length] at A3
        obtain ⟨W4, e4, l4, A4, h4⟩ := A3.unghosts.fz f2
        rw [← e4]
        exact q _ W4 A4 ((l1.trans l2).trans l4) h4
theorem e_lc {α : Type} {wi : TI} {g : TG} {tt : TT} {te : TE} (L : List α) (F : α → Sv) (p : α → Bool) (y : α → PD) (hw : EvW Γ wi δ μ (L.map F) μ1)
    (hb : ∀ a, a ∈ L → ∀ gh o, ∃ δ2, GW { Γ with gh := gh } g vs (wipeD δ vs) (o :: μ1) (F a) δ2 ∧ EvT { Γ with gh := gh } tt δ2 (o :: μ1) (p a) (o :: μ1) ∧ (p a = true → Ev { Γ with gh := gh } te δ2 (o :: μ1) (.d (y a)) (o :: μ1)))
    (hlen : L.length ≤ 100000) : Ev Γ (tLc wi g tt te vs) δ μ (dL ((L.filter p).map y)) μ1 := e_lcO L F p y hw.o (fun e he => nomatch he) hb hlen
/-! ### while -/
theorem x_while {tc : TT} {tb : TS} {D : Ends} (Inv : Nat → De → Mu → Prop) {m0 : Nat} (h0 : Inv m0 δ μ)
    (hs : ∀ m δ' μ', Inv m δ' μ' → ∃ b, EvT Γ tc δ' μ' b μ' ∧ (b = true → ∀ D' : Ends, D'.nx = (fun σ H => ∃ m', m' < m ∧ LoopNx Γ Inv m' σ H) → D'.ct = (fun σ H => ∃ m', m' < m ∧ LoopNx Γ Inv m' σ H) → D'.rt = D.rt → D'.bk = (fun σ H => D.nx σ H) → Sx Γ tb D' δ' μ') ∧ (b = false → Nx Γ D δ' μ')) :
    Sx Γ (tWhile tc tb) D δ μ := fun σ W A => by
  refine ⟨fun m σ' H' => LoopNx Γ Inv m σ' H', ⟨m0, W, δ, μ, rfl, A, h0⟩, ?_⟩
  rintro m σ' H' ⟨W2, δ2, μ2, rfl, A2, hi⟩
  obtain ⟨b, h1, h2, h3⟩ := hs m δ2 μ2 hi
  refine h1 σ' W2 A2 _ fun W3 A3 l3 => ?_
  cases b with
  | true =>
    rw [if_pos rfl]
    exact ⟨fun σ H => ∃ m', m' < m ∧ LoopNx Γ Inv m' σ H, fun _ _ h => h, h2 rfl { D with nx := fun σ H => ∃ m', m' < m ∧ LoopNx Γ Inv m' σ H, ct := fun σ H => ∃ m', m' < m ∧ LoopNx Γ Inv m' σ H, bk := D.nx } rfl rfl rfl rfl σ' W3 A3⟩
  | false =>
    rw [if_neg Bool.false_ne_true]
    exact h3 rfl σ' W3 A3
theorem nx_while {Inv : Nat → De → Mu → Prop} {m : Nat} {D : Ends} (hD : D.nx = (fun σ H => ∃ m', m' < m ∧ LoopNx Γ Inv m' σ H)) (m' : Nat) (hm : m' < m) (h : Inv m' δ μ) : Nx Γ D δ μ := fun σ W A => by
  rw [hD]
  exact ⟨m', hm, W, δ, μ, rfl, A, h⟩
/-- a return of a def that has no owned objects to hand back -/
theorem x_retP {te : TE} {D : Ends} {s : Sv} {E : XK} (h : Ev Γ te δ μ s μ) (hD : OcOk Γ.K Γ.W0 Γ.F D.rt E (.ret s [])) : Sx Γ (tRet te) D δ μ := x_ret h hD (List.nil_sublist _)
end
end Sf
namespace Sf
open PySem PySem.Spec PyProof.Rows L2
section
variable {Γ : Ga} {δ : De} {μ μ1 μ2 : Mu} {ta tb te to : TE} {K : PySem.W.Frag} {x y : Str}
theorem e_sindex {i : Nat} (ha : Ev Γ to δ μ (dS x) μ1) (hb : Ev Γ te δ μ1 (dS y) μ2) (h : ∃ rest, Builtin.Str.occurrences x y 0 x.length 1 = i :: rest) :
    Ev Γ (tBM K "str" (fun x xs H Q => ∃ a b i rest, x = .str a ∧ xs = [.str b] ∧ Builtin.Str.occurrences a b 0 a.length 1 = i :: rest ∧ Q (.int (i : Nat)) H) to (tCons te tNil)) δ μ (dI i) μ2 := fun σ W A Q q =>
  ha σ W A _ fun v W1 A1 l1 h1 => by
    cases svS h1
    refine ⟨rfl, hb σ W1 A1 _ fun w W2 A2 l2 h2 => ?_⟩
    cases svS h2
    obtain ⟨rest, h⟩ := h
    exact ⟨x, y, i, rest, rfl, rfl, h, q _ W2 A2 (l1.trans l2) (.int _)⟩
theorem e_join {ys : List Str} (hK : Γ.K = K) (ha : Ev Γ to δ μ (dS x) μ1) (hb : Ev Γ te δ μ1 (dL (ys.map .str)) μ2) (h : (ys.map (·.length)).sum + ys.length * x.length ≤ 16777216) :
    Ev Γ (tM1 (fun x xs H Q => ∃ a p, ∃ ys : List Str, x = .str a ∧ xs = [.ref p] ∧ (SqL K H p (ys.map V.str) ∨ SqT K H p (ys.map V.str)) ∧ (ys.map (·.length)).sum + ys.length * a.length ≤ 16777216 ∧ Q (.str (Txt.join a ys)) H) to te) δ μ (dS (Txt.join x ys)) μ2 := fun σ W A Q q =>
  ha σ W A _ fun v W1 A1 l1 h1 => by
    subst hK
    cases svS h1
    refine ⟨⟨x, rfl⟩, hb σ W1 A1 _ fun w W2 A2 l2 h2 => ?_⟩
    obtain ⟨p, vs, rfl, h3, h4⟩ := svL h2
    cases h4.strs_inv
    exact ⟨x, p, ys, rfl, rfl, .inl (sf_sqL W2.s h3), h, q _ W2 A2 (l1.trans l2) (.str _)⟩
end
end Sf
namespace Sf
open PySem L2
/-! ### texts as lists of codes -/
abbrev tx (l : List Nat) : Str := ⟨l.toArray⟩
theorem tx_len (l : List Nat) : (tx l).length = l.length := by
  show l.toArray.size = l.length
  simp
theorem tx_cps (l : List Nat) : (tx l).cps.toList = l := by simp [tx]
theorem tx_inj {a b : List Nat} : tx a = tx b ↔ a = b := by
  constructor
  · intro h
    have := congrArg (fun s : Str => s.cps.toList) h
    simpa [tx] using this
  · intro h; rw [h]
theorem tx_add (a b : List Nat) : tx a ++ tx b = tx (a ++ b) := by
  show Str.append (tx a) (tx b) = tx (a ++ b)
  simp [Str.append, tx]
/-! ### wares -/
def wareC (c : Int) (k : Nat) : Nat := 97 + ((c / 19 + 7 * (k : Int) + (k : Int) * (k : Int)) % 26).toNat
def wareL (c : Int) : List Nat := (List.range (1 + c % 19).toNat).map (wareC c)
theorem wareL_len (c : Int) : (wareL c).length = (1 + c % 19).toNat := by simp [wareL]
theorem wareL_len1 (c : Int) : 1 ≤ (wareL c).length ∧ (wareL c).length ≤ 19 := by
  rw [wareL_len]
  omega
theorem wareL_mem {c : Int} {z : Nat} (h : z ∈ wareL c) : 97 ≤ z ∧ z ≤ 122 := by
  obtain ⟨k, _, rfl⟩ := List.mem_map.mp h
  unfold wareC
  omega
def letters : Str := "abcdefghijklmnopqrstuvwxyz"
def letters1 : Str := "abcdefghijklmnopqrstuvwxyza"
theorem letters_at {j : Nat} (h : j < 26) : atI letters.cps.toList (j : Int) = some (97 + j) := by
  refine atI_nat ?_
  have : ∀ j, j < 26 → letters.cps.toList[j]? = some (97 + j) := by decide +kernel
  exact this j h
def nextC (z : Nat) : Nat := if z = 122 then 97 else z + 1
theorem letters1_at {z : Nat} (h1 : 97 ≤ z) (h2 : z ≤ 122) : atI letters1.cps.toList (((z - 97 : Nat) : Int) + 1) = some (nextC z) := by
  have : ∀ j, j < 26 → letters1.cps.toList[j + 1]? = some (nextC (97 + j)) := by decide +kernel
  have h3 := this (z - 97) (by omega)
  have e : 97 + (z - 97) = z := by omega
  rw [e] at h3
  have e2 : ((z - 97 : Nat) : Int) + 1 = ((z - 97 + 1 : Nat) : Int) := by omega
  rw [e2]
  exact atI_nat h3
theorem letters1_ix {z : Nat} (h1 : 97 ≤ z) (h2 : z ≤ 122) : ∃ rest, Builtin.Str.occurrences letters1 (tx [z]) 0 letters1.length 1 = (z - 97) :: rest := by
  have : ∀ j, j < 26 → (Builtin.Str.occurrences letters1 (tx [97 + j]) 0 letters1.length 1).head? = some j := by decide +kernel
  have h3 := this (z - 97) (by omega)
  have e : 97 + (z - 97) = z := by omega
  rw [e] at h3
  cases q : Builtin.Str.occurrences letters1 (tx [z]) 0 letters1.length 1 with
  | nil => rw [q] at h3; cases h3
  | cons a r =>
    rw [q] at h3
    cases h3
    exact ⟨r, rfl⟩
theorem nextC_ok {z : Nat} (h1 : 97 ≤ z) (h2 : z ≤ 122) : 97 ≤ nextC z ∧ nextC z ≤ 122 ∧ nextC z ≠ z := by
  unfold nextC
  split <;> omega
/-- the place where one letter is changed -/
def wAt (c : Int) : Nat := (c / 7 % ((wareL (c % 494000)).length : Int)).toNat
def wBase (c : Int) : List Nat := wareL (c % 494000)
def wThird0 (c : Int) : List Nat := (wBase c).take (wAt c) ++ [nextC ((wBase c).getD (wAt c) 0)] ++ (wBase c).drop (wAt c + 1)
def wTurn (c : Int) : Bool := decide (c * 48271 % 65537 % 2 = 1) && !decide ((wBase c).reverse = wBase c)
def wThird (c : Int) : List Nat := if wTurn c then (wBase c).reverse else wThird0 c
/-- the three wares, by number -/
def wr (c : Int) : Nat → Str
  | 0 => tx (wBase c)
  | 1 => tx (wBase c ++ [97])
  | _ => tx (wThird c)
theorem wAt_lt (c : Int) : wAt c < (wBase c).length := by
  have := wareL_len1 (c % 494000)
  have h1 : 0 ≤ c / 7 % ((wareL (c % 494000)).length : Int) := Int.emod_nonneg _ (by omega)
  have h2 : c / 7 % ((wareL (c % 494000)).length : Int) < ((wareL (c % 494000)).length : Int) := Int.emod_lt_of_pos _ (by omega)
  unfold wAt wBase
  omega
theorem wAt_int (c : Int) : ((wAt c : Nat) : Int) = c / 7 % ((wBase c).length : Int) := by
  have := wareL_len1 (c % 494000)
  have h1 : 0 ≤ c / 7 % ((wareL (c % 494000)).length : Int) := Int.emod_nonneg _ (by omega)
  unfold wAt wBase
  omega
def isLet (z : Nat) : Prop := 97 ≤ z ∧ z ≤ 122
theorem wBase_let (c : Int) : ∀ z ∈ wBase c, isLet z := fun _ h => wareL_mem h
theorem wBase_at (c : Int) : (wBase c)[wAt c]? = some ((wBase c).getD (wAt c) 0) := by
  have := wAt_lt c
  simp [this]
theorem wThird0_len (c : Int) : (wThird0 c).length = (wBase c).length := by
  have := wAt_lt c
  unfold wThird0
  simp only [List.length_append, List.length_take, List.length_drop, List.length_cons, List.length_nil]
  omega
theorem wThird_len (c : Int) : (wThird c).length = (wBase c).length := by
  unfold wThird
  split
  · simp
  · exact wThird0_len c
theorem wThird0_at (c : Int) : (wThird0 c)[wAt c]? = some (nextC ((wBase c).getD (wAt c) 0)) := by
  have := wAt_lt c
  unfold wThird0
  have hl : ((wBase c).take (wAt c)).length = wAt c := by rw [List.length_take]; omega
  rw [List.append_assoc, List.getElem?_append_right (by omega), hl]
  simp
theorem wThird0_ne (c : Int) : wThird0 c ≠ wBase c := fun e => by
  have h1 := wThird0_at c
  rw [e, wBase_at] at h1
  have hm := wBase_let c _ (List.mem_of_getElem? (wBase_at c))
  exact (nextC_ok hm.1 hm.2).2.2 (Option.some.inj h1).symm
theorem wThird_ne (c : Int) : wThird c ≠ wBase c := by
  unfold wThird
  split
  · rename_i h
    unfold wTurn at h
    simp at h
    exact h.2
  · exact wThird0_ne c
theorem wThird_let (c : Int) : ∀ z ∈ wThird c, isLet z := fun z h => by
  unfold wThird at h
  split at h
  · exact wBase_let c z (List.mem_reverse.mp h)
  · unfold wThird0 at h
    rcases List.mem_append.mp h with h | h
    · rcases List.mem_append.mp h with h | h
      · exact wBase_let c z (List.mem_of_mem_take h)
      · cases List.mem_singleton.mp h
        have hm := wBase_let c _ (List.mem_of_getElem? (wBase_at c))
        have := nextC_ok hm.1 hm.2
        exact ⟨this.1, this.2.1⟩
    · exact wBase_let c z (List.mem_of_mem_drop h)
/-- a ware: 1 to 20 small letters -/
def WareOk (s : Str) : Prop := 1 ≤ s.length ∧ s.length ≤ 20 ∧ ∀ z ∈ s.cps.toList, isLet z
theorem wr_ok (c : Int) (i : Nat) : WareOk (wr c i) := by
  have hb : 1 ≤ (wBase c).length ∧ (wBase c).length ≤ 19 := wareL_len1 (c % 494000)
  match i with
  | 0 =>
    refine ⟨?_, ?_, ?_⟩
    · show 1 ≤ (tx _).length
      rw [tx_len]; omega
    · show (tx _).length ≤ 20
      rw [tx_len]; omega
    · show ∀ z ∈ (tx _).cps.toList, _
      rw [tx_cps]
      exact wBase_let c
  | 1 =>
    refine ⟨?_, ?_, ?_⟩
    · show 1 ≤ (tx _).length
      rw [tx_len, List.length_append]; omega
    · show (tx _).length ≤ 20
      rw [tx_len, List.length_append, List.length_cons, List.length_nil]; omega
    · show ∀ z ∈ (tx _).cps.toList, _
      rw [tx_cps]
      intro z h
      rcases List.mem_append.mp h with h | h
      · exact wBase_let c z h
      · cases List.mem_singleton.mp h
        exact ⟨by omega, by omega⟩
  | n + 2 =>
    refine ⟨?_, ?_, ?_⟩
    · show 1 ≤ (tx _).length
      rw [tx_len, wThird_len]; omega
    · show (tx _).length ≤ 20
      rw [tx_len, wThird_len]; omega
    · show ∀ z ∈ (tx _).cps.toList, _
      rw [tx_cps]
      exact wThird_let c
theorem wr_inj (c : Int) {i j : Nat} (hi : i < 3) (hj : j < 3) (h : wr c i = wr c j) : i = j := by
  have h01 : wr c 0 ≠ wr c 1 := fun e => by
    have := tx_inj.mp e
    have := congrArg List.length this
    simp at this
  have h02 : wr c 0 ≠ wr c 2 := fun e => wThird_ne c (tx_inj.mp e).symm
  have h12 : wr c 1 ≠ wr c 2 := fun e => by
    have := tx_inj.mp e
    have := congrArg List.length this
    rw [wThird_len, List.length_append] at this
    simp at this
  match i, j, hi, hj with
  | 0, 0, _, _ => rfl
  | 1, 1, _, _ => rfl
  | 2, 2, _, _ => rfl
  | 0, 1, _, _ => exact absurd h h01
  | 1, 0, _, _ => exact absurd h.symm h01
  | 0, 2, _, _ => exact absurd h h02
  | 2, 0, _, _ => exact absurd h.symm h02
  | 1, 2, _, _ => exact absurd h h12
  | 2, 1, _, _ => exact absurd h.symm h12
theorem join_nil_signs : ∀ (l : List Nat), Txt.join (tx []) (l.map fun z => tx [z]) = tx l
  | l => by
    show Txt.join (tx []) _ = _
    rw [show Txt.join (tx []) (l.map fun z => tx [z]) = Str.join (tx []) (l.map fun z => tx [z]) from PySem.StrLaws.glued_eq_join _ _]
    have key : ∀ l : List Nat, Str.join (tx []) (l.map fun z => tx [z]) = tx l := by
      intro l
      induction l with
      | nil => rfl
      | cons a r ih =>
        cases r with
        | nil => rfl
        | cons b r =>
          show Str.join (tx []) (tx [a] :: tx [b] :: r.map fun z => tx [z]) = tx (a :: b :: r)
          have e : Str.join (tx []) (tx [a] :: tx [b] :: r.map fun z => tx [z]) = tx [a] ++ tx [] ++ Str.join (tx []) (tx [b] :: r.map fun z => tx [z]) := rfl
          rw [e]
          have ih' : Str.join (tx []) (tx [b] :: r.map fun z => tx [z]) = tx (b :: r) := ih
          rw [ih', tx_add, tx_add]
          rfl
    exact key l
/-! ### places -/
def steps8 : List Int := [10, 64, 100, 256, 1000, 1024, 4096, 5000]
def pStep (c : Int) : Int := steps8.getD (c / 3 % 8).toNat 0
def pLeast (c : Int) : Int := c / 24 % 4990
def pl (c : Int) : Nat → Int
  | 0 => pLeast c
  | 1 => pLeast c + 1
  | 2 => pLeast c + pStep c
  | _ => 9999
theorem pStep_ok (c : Int) : 10 ≤ pStep c ∧ pStep c ≤ 5000 := by
  have h : ∀ j, j < 8 → 10 ≤ steps8.getD j 0 ∧ steps8.getD j 0 ≤ 5000 := by decide
  exact h _ (by omega)
theorem pLeast_ok (c : Int) : 0 ≤ pLeast c ∧ pLeast c < 4990 := by unfold pLeast; omega
theorem pl_ok (c : Int) (i : Nat) : 0 ≤ pl c i ∧ pl c i ≤ 9999 := by
  have h1 := pStep_ok c
  have h2 := pLeast_ok c
  match i with
  | 0 => exact ⟨h2.1, by show pLeast c ≤ 9999; omega⟩
  | 1 => exact ⟨by show 0 ≤ pLeast c + 1; omega, by show pLeast c + 1 ≤ 9999; omega⟩
  | 2 => exact ⟨by show 0 ≤ pLeast c + pStep c; omega, by show pLeast c + pStep c ≤ 9999; omega⟩
  | n + 3 => exact ⟨by show (0 : Int) ≤ 9999; omega, by show (9999 : Int) ≤ 9999; omega⟩
theorem pl_lt (c : Int) {i j : Nat} (h : i < j) (hj : j < 4) : pl c i < pl c j := by
  have h1 := pStep_ok c
  have h2 := pLeast_ok c
  have hh : (i = 0 ∧ j = 1) ∨ (i = 0 ∧ j = 2) ∨ (i = 0 ∧ j = 3) ∨ (i = 1 ∧ j = 2) ∨ (i = 1 ∧ j = 3) ∨ (i = 2 ∧ j = 3) := by omega
  rcases hh with ⟨rfl, rfl⟩ | ⟨rfl, rfl⟩ | ⟨rfl, rfl⟩ | ⟨rfl, rfl⟩ | ⟨rfl, rfl⟩ | ⟨rfl, rfl⟩
  · show pLeast c < pLeast c + 1; omega
  · show pLeast c < pLeast c + pStep c; omega
  · show pLeast c < 9999; omega
  · show pLeast c + 1 < pLeast c + pStep c; omega
  · show pLeast c + 1 < 9999; omega
  · show pLeast c + pStep c < 9999; omega
theorem pl_inj (c : Int) {i j : Nat} (hi : i < 4) (hj : j < 4) (h : pl c i = pl c j) : i = j := by
  rcases Nat.lt_trichotomy i j with q | q | q
  · have := pl_lt c q hj; omega
  · exact q
  · have := pl_lt c q hi; omega
end Sf
/-! layer rules that were lacking: d.items() over a dict with tuple keys, sorted(d) of any length -/
namespace L2
open PySem PySem.Spec PyProof.Rows
section
variable {X : Cx} {pins : List (Addr × Obj)} {σ : St} {H : Hp} {s : Shared} {d : Addr} {o : Obj}
theorem Inv.frzTV {kvs : List (List Key × V)} (I : Inv X pins σ H s) (h : H d = some (.frz o (.dT kvs))) :
    (d == sysModules) = false ∧ s.heap.get? d = some o ∧ o.ExactDict ∧ ∃ (es : Array DictEntry) (ep : Nat), o.data = .dict es ep ∧ es.size = kvs.length ∧
      ∀ (i : Nat) (k : List Key) (v : V), kvs[i]? = some (k, v) → ∃ (en : DictEntry) (q : Addr), es[i]? = some en ∧ en.key = .ref q ∧ H q = some (.tup (k.map kV)) ∧ RelV v en.val := by
  obtain ⟨hd, z, hs, xs, pr, o', es, ep, ho, hx, hdt, he, _⟩ := I.hok d _ h
  rw [hd] at ho
  cases ho
  refine ⟨hs, hd, hx, es, ep, hdt, ?_, fun i k v e => ?_⟩
  · have l1 : es.size = xs.length := size_of_entries he
    have l2 : kvs.length = xs.length := Paired.length pr
    omega
  · obtain ⟨b, hb, e1, e2, e3⟩ := paired_get pr e
    have q := entry_at he i
    rw [hb] at q
    exact ⟨_, b.2.1, q, rfl, e2, e3⟩
end
/-- the pairs of a locked dict with tuple keys, each a new tuple of the key's own tuple and the value -/
def ItiT (d : Addr) (o : Obj) (kvs : List (List Key × V)) : It :=
  ⟨fun i H => H d = some (.frz o (.dT kvs)) ∧ i < kvs.length, fun i H x H' => ∃ T k v q, kvs[i]? = some (k, v) ∧ x = .ref T ∧ H q = some (.tup (k.map kV)) ∧ H T = none ∧ H' = upd H T (.tup [.ref q, v]), fun i H => H d = some (.frz o (.dT kvs)) ∧ kvs.length ≤ i⟩
section
variable {P : Program} {w : World} {K : PySem.W.Frag} {tg : Expr} {d : Addr} {o : Obj} {es : Array DictEntry} {ep : Nat}
theorem turn_itemsT {kvs : List (List Key × V)} {elts : List Expr} {kk : Nat} {tpos : Pos} (it : Addr) (hod : o.data = .dict es ep) :
    Turn P w K (.Tuple elts kk tpos) (ItiT d o kvs) [it] it (fun i h => ∃ ok ov, IsItemIter h it d i es.size ep ok ov) where
  mem := by simp
  obj := fun i h st b hb => by
    have e : b = it := by simpa using hb
    subst e
    obtain ⟨ok, ov, e⟩ := st
    exact ⟨_, e, fun v z => nomatch z⟩
  keep := fun i h h' st k => let ⟨ok, ov, e⟩ := st; ⟨ok, ov, k it (by simp) _ e⟩
  item := by
    intro X hP hw hK hc i pins s σ H E I hf st hg
    subst hP hw hK
    obtain ⟨hd, hi⟩ := hg
    obtain ⟨hs, hgd, hx, es', ep', hdt, hsz, ent⟩ := I.frzTV hd
    obtain ⟨rfl, rfl⟩ := dict_ep hod hdt
    obtain ⟨⟨k, v⟩, hkv⟩ : ∃ p, kvs[i]? = some p := ⟨kvs[i], List.getElem?_eq_getElem hi⟩
    obtain ⟨en, q, hen, hkey, hq, rv⟩ := ent i k v hkv
    obtain ⟨ok, ov, he⟩ := st
    have hlt : it < s.heap.objs.size := Heap.lt_size he
    have hil : i < es'.size := by omega
    have hen' : es'[i] = en := by
      rw [Array.getElem?_eq_getElem hil] at hen
      exact Option.some.inj hen
    refine PySem.wpAny_pyNext_items_item_raw he ⟨o, hgd, hx, hdt⟩ hil fun h' ho hT hz hk => ?_
    refine ⟨_, rfl, wpAny_letOwnedTupleGo_items (s := { s with heap := h' }) ho fun h'' he' sb => ?_⟩
    have hT2 : h''.get? s.heap.objs.size = some { cls := .type "tuple", data := .seq #[es'[i].key, es'[i].val] } := (sb.2 _ (Nat.ne_of_gt hlt)).trans hT
    have new : ObjOk X.prog X.w (upd H s.heap.objs.size (.tup [.ref q, v])) h'' s.heap.objs.size (.tup [.ref q, v]) :=
      ⟨by show 2 ≤ sizeLine; decide, [es'[i].key, es'[i].val], .cons (by rw [hen', hkey]; exact rfl) (.cons (by rw [hen']; exact rv) .nil), ⟨_, hT2, rfl, _, rfl⟩⟩
    have I1 : Inv X pins σ (upd H s.heap.objs.size (.tup [.ref q, v])) { s with heap := h'' } :=
      I.turnedNew (t' := s.toks) (ch := [it]) (fun b ob hb e => (sb.2 b (by simpa using hb)).trans (hk b ob (by simpa using hb) e)) hf (Nat.le_refl _) new
    refine ⟨.ref s.heap.objs.size, _, I1, rfl, ⟨_, k, v, q, hkv, rfl, hq, I.hok.fresh (Nat.le_refl _), rfl⟩, ⟨_, _, he'⟩, fun b hb => ?_⟩
    have e : b = it := by simpa using hb
    rw [e, upd_ne (Nat.ne_of_lt hlt)]
    exact (hf it (by simp)).1
  done := by
    intro X hP hw hK hc i pins s σ H E I hf st hg
    subst hP hw hK
    obtain ⟨hd, hi⟩ := hg
    obtain ⟨f0, f1, f2, f3, f4, f5⟩ := hf it (by simp)
    obtain ⟨hs, hgd, hx, es', ep', hdt, hsz, ent⟩ := I.frzTV hd
    obtain ⟨rfl, rfl⟩ := dict_ep hod hdt
    obtain ⟨ok, ov, he⟩ := st
    exact PySem.wpAny_pyNext_items_end_raw (I.ok.hd hc) he ⟨o, hgd, hx, hdt⟩ (by omega) fun h' eb => ⟨rfl, I.turned (t' := s.toks) (fun b ob hb e => eb b ob hb e) f0 f1 f3 f4 f5⟩
  self := fun A i s Q E st h => let ⟨_, _, e⟩ := st; PySem.W.kcp_self e h
end
def iItemsT (td : TE) : TI := fun σ H R => td σ H fun x H1 => ∃ d o kvs, x = .ref d ∧ H1 d = some (.frz o (.dT kvs)) ∧ R (ItiT d o kvs) H1
section
variable {X : Cx} {tg e : Expr} {td : TE} {apos cpos : Pos}
theorem pi_itemsT {elts : List Expr} {kk : Nat} {tpos : Pos} (he : PE X e td) (hbase : attributeBase e "items" X.env (eval e X.env) = eval e X.env := by rfl) (hline : (apos.endLine == cpos.line) = true := by rfl) :
    PI X (.Tuple elts kk tpos) (.Call (.Attribute e "items" apos) [] [] cpos) (iItemsT td) := by
  refine ⟨fun pins s σ H R I h => ?_⟩
  refine wpAny_Call_method (T := "dict") (id := "dict.items") hbase rfl hline F.plainAttrs_dict F.slot_dict_items F.type_dict_items (thn (he.run pins s σ H _ I h) fun u s1 ⟨x, H1, I1, rx, d, o, kvs, ex, hd, q⟩ => ?_)
  subst ex
  obtain rfl : u = Value.ref d := rx
  obtain ⟨hs, hgd, hx, es, ep, hdt, hsz, ent⟩ := I1.frzTV hd
  have hraw : DT.Raw s1.heap d es ep := ⟨o, hgd, hx, hdt⟩
  refine ⟨hraw.typeIs, fun b q => ?_, ?_⟩
  · cases q
    exact ⟨o, hgd, hx.2.1⟩
  have I2 : Inv X pins σ H1 { s1 with heap := s1.heap.push { cls := .type "dict_items", data := .fields #[.ref d] } } := I1.kept (t' := s1.toks) fun b ob q => Heap.get?_push_of_some _ q
  have fin : wpAny (model X.prog X.w) X.A (pyIter (.ref s1.heap.objs.size)) (PIE X pins σ (.Tuple elts kk tpos) R) X.xe { s1 with heap := s1.heap.push { cls := .type "dict_items", data := .fields #[.ref d] } } :=
    DT.iterI (d := d) (es := es) (ep := ep) ⟨_, Heap.get?_push_size _ rfl, rfl, rfl⟩ (hraw.push _) (pi_one (tk := s1.toks) I2 _ (turn_itemsT _ hdt) ⟨.none, .none, Heap.get?_push_size _ rfl⟩ q)
  show wpAny _ _ (callWith cpos (.builtin "dict.items") [.ref d] [] []) _ X.xe s1
  exact method_meetsIn F.slot_dict_items F.entry_dict_items rfl (PySem.evalArgs_none ⟨rfl, hraw.typeIs, F.args_dict_items_1 _, _, DT.meetsItems (es := es) (ep := ep) hs, hraw, fin⟩)
def rSortedDI : List V → Hp → VK → Prop := fun xs H Q => ∃ (a : Addr) (kvs : List (Key × V)) (ks : List Int), xs = [.ref a] ∧ Rd H a (.dK kvs) ∧ kvs.map (·.1) = ks.map Sum.inl ∧
    ∀ (ys : List Int) (p : Addr), ys.Perm ks → ys.Pairwise (· ≤ ·) → H p = none → Q (.ref p) (upd H p (.lst (ys.map V.int)))
theorem cr_sortedDI (hcalm : X.calm = true) : CallR X (.builtin "sorted") rSortedDI := by
  intro pins s σ H xs us Q I r q
  obtain ⟨a, kvs, ks, ex, hd, hks, q⟩ := q
  subst ex
  obtain ⟨u, eu, rx⟩ := vals1 r
  subst eu
  cases rx
  obtain ⟨z, lo, vs, rel, dd⟩ := dk_rd I.hok hd
  obtain ⟨ep, hat⟩ := dd.dictAt
  have hkeys : vs.map (·.1) = ks.map Sum.inl := rel.keys.symm.trans hks
  have hl : vs.length = ks.length := by
    have e := congrArg List.length hkeys
    rw [List.length_map, List.length_map] at e
    exact e
  have h16 : vs.length ≤ sizeLine := by rw [← rel.length]; exact z
  refine Calls.call_function_entry PyProof.Rows.kind_sorted PyProof.Rows.plain_sorted PyProof.Rows.entry_sorted (PyProof.Rows.args_sorted1 _) ?_
  unfold Builtin.«sorted»
  refine wpAny_bind (m := checkCount "sorted" 1 1 _) (wpAny_pure ?_)
  refine wpAny_bind (PySem.W.kdu_collect (A := X.A.in1) (PySem.W.kdl_dict (knd := mixKind X.prog X.w) (kvs := vs) (ep := ep) lo) (I.ok.hd hcalm) hat h16 fun h' tk acc hk hacc => ?_)
  have hal : acc.toList.length = ks.length := by rw [Array.length_toList, hacc.1, hl]
  have hS : IntsAre acc.toList ks := ints_each hal fun j v e => by
    obtain ⟨k, x, e1, e2⟩ := hacc.2 j v (by rw [← Array.getElem?_toList]; exact e)
    have e3 : (vs.map (·.1))[j]? = some k := by rw [List.getElem?_map, e1]; rfl
    rw [hkeys, List.getElem?_map] at e3
    cases e4 : ks[j]? with
    | none => rw [e4] at e3; cases e3
    | some y =>
      rw [e4] at e3
      have e5 : Sum.inl y = k := Option.some.inj e3
      subst e5
      rcases keyIs_shape (show keyIs (Sum.inl y) v = true from e2) with ⟨i, t, ek, ev⟩ | ⟨z, t, ek, ev⟩
      · cases ek
        exact ⟨y, t, rfl, ev⟩
      · cases ek
  have I1 : Inv X pins σ H { s with heap := h', toks := tk } := I.kept hk
  have hz2 : acc.toList.length ≤ sizeLine := by rw [hal, ← hl]; exact h16
  refine wpAny_bind (wpAny_newList ?_ hz2)
  have hoL : (h'.push (seqObj "list" acc.toList.toArray 0)).get? h'.objs.size = some (seqObj "list" acc.toList.toArray 0) := Heap.get?_push_size _ rfl
  show wpAny _ _ _ _ _ { s with heap := h'.push (seqObj "list" acc.toList.toArray 0), toks := tk }
  refine wpAny_bind (wpAny_holding (wpAny_call_entry PyProof.Rows.slot_list_sort ⟨_, hoL, rfl⟩ PyProof.Rows.entry_list_sort
    (SrtO.list_sort_ord (s := { s with heap := h'.push (seqObj "list" acc.toList.toArray 0), toks := tk }) SrtO.swo_int hoL hz2 (fun h2 => SrtO.ints_sortable hS h2) fun out g1 g2 => ⟨_, rfl, ?_⟩) (PyProof.Rows.args_list_sort _)))
  obtain ⟨k1, k2, k3⟩ := SrtO.ints_out hS g1 g2
  obtain ⟨e', he'⟩ := PyProof.Rows.sortedHeap_at (vs := acc.toList) (out := out.toArray) hoL
  have hlen : ((out.map SrtO.iv).map V.int).length ≤ sizeLine := by
    rw [List.length_map, k2.length_eq, ← hal]
    exact hz2
  refine wpAny_pure ⟨_, rfl, .ref h'.objs.size, upd H h'.objs.size (.lst ((out.map SrtO.iv).map V.int)), I1.laid (t' := tk) (fun b u e => ?_) (Nat.le_refl _)
    (show ObjOk X.prog X.w _ _ _ (.lst ((out.map SrtO.iv).map V.int)) from ⟨hlen, out, e', vals_of_ints k1, he'⟩), rfl, q _ _ k2 k3 (I1.hok.fresh (Nat.le_refl _))⟩
  have hb : b < h'.objs.size := Heap.lt_size e
  rw [PyProof.Rows.sortedHeap_old (Nat.ne_of_lt hb) (by rw [size_push']; exact Nat.lt_succ_of_lt hb)]
  exact Heap.get?_push_of_some _ e
end
end L2
namespace Sf
open PySem PySem.Spec PyProof.Rows L2
/-! ### dicts of data -/
section
variable {κ : Type} [DecidableEq κ]
def valD (kvs : List (κ × PD)) (k : κ) : Option PD := (kvs.find? fun kv => decide (kv.1 = k)).map (·.2)
def putD (kvs : List (κ × PD)) (k : κ) (v : PD) : List (κ × PD) :=
  if (kvs.any fun kv => decide (kv.1 = k)) = true then kvs.map fun kv => if kv.1 = k then (kv.1, v) else kv else kvs ++ [(k, v)]
def dropD (kvs : List (κ × PD)) (k : κ) : List (κ × PD) := kvs.filter fun kv => decide (kv.1 ≠ k)
theorem Kv.len {K : PySem.W.Frag} {I : Hp} {ws : List (κ × V)} {kvs : List (κ × PD)} (h : Kv K I ws kvs) : ws.length = kvs.length := paired_len h
theorem Kv.val {K : PySem.W.Frag} {I : Hp} (k : κ) : ∀ {ws : List (κ × V)} {kvs : List (κ × PD)}, Kv K I ws kvs → (valV ws k = none ∧ valD kvs k = none) ∨ ∃ v d, valV ws k = some v ∧ valD kvs k = some d ∧ Dp K I v d
  | _, _, .nil => .inl ⟨rfl, rfl⟩
  | _, _, .cons (a := p) (b := q) h t => by
    by_cases e : p.1 = k
    · have e2 : q.1 = k := h.1 ▸ e
      exact .inr ⟨p.2, q.2, by simp [valV, List.find?_cons, e], by simp [valD, List.find?_cons, e2], h.2⟩
    · have e2 : ¬ q.1 = k := fun z => e (h.1.trans z)
      have := Kv.val k t
      simpa [valV, valD, List.find?_cons, e, e2] using this
theorem Kv.any {K : PySem.W.Frag} {I : Hp} (k : κ) : ∀ {ws : List (κ × V)} {kvs : List (κ × PD)}, Kv K I ws kvs → (ws.any fun kv => decide (kv.1 = k)) = kvs.any fun kv => decide (kv.1 = k)
  | _, _, .nil => rfl
  | _, _, .cons h t => by rw [List.any_cons, List.any_cons, Kv.any k t, h.1]
theorem Kv.repl {K : PySem.W.Frag} {I : Hp} (k : κ) {v : V} {d : PD} (hv : Dp K I v d) : ∀ {ws : List (κ × V)} {kvs : List (κ × PD)}, Kv K I ws kvs →
    Kv K I (ws.map fun kv => if kv.1 = k then (kv.1, v) else kv) (kvs.map fun kv => if kv.1 = k then (kv.1, d) else kv)
  | _, _, .nil => .nil
  | _, _, .cons (a := p) (b := q) h t => by
    refine .cons ?_ (Kv.repl k hv t)
    dsimp only
    by_cases e : p.1 = k
    · rw [if_pos e, if_pos (h.1 ▸ e)]
      exact ⟨h.1, hv⟩
    · rw [if_neg e, if_neg (fun z => e (h.1.trans z))]
      exact h
theorem Kv.app {K : PySem.W.Frag} {I : Hp} : ∀ {ws us : List (κ × V)} {kvs es : List (κ × PD)}, Kv K I ws kvs → Kv K I us es → Kv K I (ws ++ us) (kvs ++ es)
  | _, _, _, _, .nil, s => s
  | _, _, _, _, .cons h t, s => .cons h (Kv.app t s)
theorem Kv.put {K : PySem.W.Frag} {I : Hp} (k : κ) {v : V} {d : PD} (hv : Dp K I v d) {ws : List (κ × V)} {kvs : List (κ × PD)} (h : Kv K I ws kvs) : Kv K I (putK ws k v) (putD kvs k d) := by
  unfold putK putD
  rw [h.any k]
  split
  · exact h.repl k hv
  · exact h.app (.cons ⟨rfl, hv⟩ .nil)
theorem Kv.drop {K : PySem.W.Frag} {I : Hp} (k : κ) : ∀ {ws : List (κ × V)} {kvs : List (κ × PD)}, Kv K I ws kvs → Kv K I (dropK ws k) (dropD kvs k)
  | _, _, .nil => .nil
  | _, _, .cons (a := p) (b := q) h t => by
    have ih := Kv.drop k t
    unfold dropK dropD at ih ⊢
    by_cases e : p.1 = k
    · have e2 : q.1 = k := h.1 ▸ e
      rw [List.filter_cons_of_neg (by simp [e]), List.filter_cons_of_neg (by simp [e2])]
      exact ih
    · have e2 : ¬ q.1 = k := fun z => e (h.1.trans z)
      rw [List.filter_cons_of_pos (by simp [e]), List.filter_cons_of_pos (by simp [e2])]
      exact .cons h ih
theorem Kv.get {K : PySem.W.Frag} {I : Hp} {ws : List (κ × V)} {kvs : List (κ × PD)} (h : Kv K I ws kvs) {i : Nat} {k : κ} {v : V} (e : ws[i]? = some (k, v)) : ∃ d, kvs[i]? = some (k, d) ∧ Dp K I v d := by
  induction h generalizing i with
  | nil => simp at e
  | @cons a b l r z t ih =>
    cases i with
    | zero =>
      simp at e
      subst e
      obtain ⟨z1, z2⟩ := z
      refine ⟨b.2, ?_, z2⟩
      simp
      exact Prod.ext z1.symm rfl
    | succ i => exact ih (by simpa using e)
end
/-- a key's datum -/
def kD : Key → PD
  | .inl i => .int i
  | .inr x => .str x
theorem dp_key {K : PySem.W.Frag} {I : Hp} {v : V} {k : Key} (h : Dp K I v (kD k)) : v = kV k := by
  cases k with
  | inl i => exact svI (K := K) (I := I) h
  | inr x => exact svS (K := K) (I := I) h
theorem kD_dp {K : PySem.W.Frag} {I : Hp} (k : Key) : Dp K I (kV k) (kD k) := by
  cases k with
  | inl i => exact .int i
  | inr x => exact .str x
theorem dp_keys {K : PySem.W.Frag} {I : Hp} : ∀ {vs : List V} {ks : List Key}, DpAll K I vs (ks.map kD) → vs = ks.map kV
  | [], [], .nil => rfl
  | _ :: _, k :: r, .cons h t => by rw [dp_key h, dp_keys t]; rfl
section
variable {Γ : Ga} {δ : De} {μ μ1 μ2 : Mu} {td te ty tx ta tb to ti : TE} {t : TS} {tl : TA} {kvs : List (Key × PD)} {kts : List (List Key × PD)} {k : Key} {ks : List Key} {d : PD} {ds : List PD} {D : Ends} {p : Addr} {s : Sv}
theorem Ast.rdK {σ : L2.St} {W : Wd} (A : Ast Γ σ W δ μ) (h : (p, OO.dK kvs) ∈ μ) : ∃ ws, W.h p = some (.dK ws) ∧ Kv Γ.K W.i ws kvs := A.ow.ok _ h
theorem Ast.rdT {σ : L2.St} {W : Wd} (A : Ast Γ σ W δ μ) (h : (p, OO.dT kts) ∈ μ) : ∃ ws, W.h p = some (.dT ws) ∧ Kv Γ.K W.i ws kts := A.ow.ok _ h
theorem Kv.getD {κ : Type} [DecidableEq κ] {K : PySem.W.Frag} {I : Hp} {ws : List (κ × V)} {kvs : List (κ × PD)} (h : Kv K I ws kvs) (k : κ) {v : V} (hv : Dp K I v d) : Dp K I ((valV ws k).getD v) ((valD kvs k).getD d) := by
  rcases h.val k with ⟨e1, e2⟩ | ⟨w, d', e1, e2, h3⟩
  · rw [e1, e2]; exact hv
  · rw [e1, e2]; exact h3
/-- d.get(k), d.get(k, x), d an owned dict -/
theorem e_dgetK1 (h1 : Ev Γ td δ μ (.r (.ref p)) μ) (h2 : Ev Γ ty δ μ (.d (kD k)) μ) (hp : (p, OO.dK kvs) ∈ μ) : Ev Γ (tDGet1 td ty) δ μ (.d ((valD kvs k).getD .none)) μ := fun σ W A Q q =>
  h1 σ W A _ fun v W1 A1 l1 e1 => by
    cases e1
    obtain ⟨ws, g1, _⟩ := A1.rdK hp
    refine ⟨p, rfl, .inl ⟨ws, .inl g1⟩, h2 σ W1 A1 _ fun y W2 A2 l2 e2 => ?_⟩
    cases dp_key e2
    obtain ⟨ws, g1, g2⟩ := A2.rdK hp
    exact ⟨_, DGet.k g1, q _ W2 A2 (l1.trans l2) (g2.getD k .non)⟩
theorem e_dgetK2 (h1 : Ev Γ td δ μ (.r (.ref p)) μ) (h2 : Ev Γ ty δ μ (.d (kD k)) μ) (h3 : Ev Γ tx δ μ (.d d) μ) (hp : (p, OO.dK kvs) ∈ μ) : Ev Γ (tDGet2 td ty tx) δ μ (.d ((valD kvs k).getD d)) μ := fun σ W A Q q =>
  h1 σ W A _ fun v W1 A1 l1 e1 => by
    cases e1
    obtain ⟨ws, g1, _⟩ := A1.rdK hp
    refine ⟨p, rfl, .inl ⟨ws, .inl g1⟩, h2 σ W1 A1 _ fun y W2 A2 l2 e2 => h3 σ W2 A2 _ fun z W3 A3 l3 e3 => ?_⟩
    cases dp_key e2
    obtain ⟨ws, g1, g2⟩ := A3.rdK hp
    exact ⟨_, DGet.k g1, q _ W3 A3 ((l1.trans l2).trans l3) (g2.getD k e3)⟩
theorem e_dsubK (h1 : Ev Γ td δ μ (.r (.ref p)) μ) (h2 : Ev Γ ty δ μ (.d (kD k)) μ) (hp : (p, OO.dK kvs) ∈ μ) (hv : valD kvs k = some d) : Ev Γ (tDGet td ty) δ μ (.d d) μ := fun σ W A Q q =>
  h1 σ W A _ fun v W1 A1 l1 e1 => h2 σ W1 A1 _ fun y W2 A2 l2 e2 => by
    cases e1
    cases dp_key e2
    obtain ⟨ws, g1, g2⟩ := A2.rdK hp
    rcases g2.val k with ⟨_, e⟩ | ⟨w, d', e3, e4, h3⟩
    · rw [hv] at e; cases e
    · rw [hv] at e4
      cases e4
      refine ⟨p, w, rfl, ?_, q _ W2 A2 (l1.trans l2) h3⟩
      rw [← e3]
      exact DGet.k g1
/-- d.get((a, b), x) -/
theorem e_dgetT2 (h1 : Ev Γ td δ μ (.r (.ref p)) μ) (h2 : EvA Γ tl δ μ (datas (ks.map kD)) μ) (h3 : Ev Γ tx δ μ (.d d) μ) (hp : (p, OO.dT kts) ∈ μ) (hl : Nat.ble ks.length 100000 = true := by rfl) : Ev Γ (tDGet2 td (tTup tl) tx) δ μ (.d ((valD kts ks).getD d)) μ := fun σ W A Q q =>
  h1 σ W A _ fun v W1 A1 l1 e1 => by
    cases e1
    obtain ⟨ws, g1, _⟩ := A1.rdT hp
    refine ⟨p, rfl, .inr ⟨ws, .inl g1⟩, h2 σ W1 A1 _ fun vs W2 A2 l2 e2 => ?_⟩
    have e3 := dp_keys (svAll_datas e2)
    subst e3
    refine ⟨by rw [List.length_map]; exact Nat.le_trans (Nat.le_of_ble_eq_true hl) (by decide), fun r hr => ?_⟩
    have l3 := le_put (o := .tup (ks.map kV)) hr
    have A3 := A2.le l3
    refine h3 σ _ A3 _ fun z W4 A4 l4 e4 => ?_
    obtain ⟨ws, g1, g2⟩ := A4.rdT hp
    have hr4 : W4.h r = some (.tup (ks.map kV)) := W4.s _ _ (l4 _ _ upd_same)
    exact ⟨_, DGet.t g1 hr4, q _ W4 A4 ((l1.trans l2).trans (l3.i.trans l4)) (g2.getD ks e4)⟩
/-- d[k] = e -/
theorem x_dputK (j : Nat) (h : Ev Γ te δ μ (.d d) μ1) (h1 : Ev Γ td δ μ1 (.r (.ref p)) μ1) (h2 : Ev Γ ty δ μ1 (.d (kD k)) μ1) (hk : μ1[j]? = some (p, .dK kvs)) (hz : kvs.length < 100000) (may : Γ.may p) (n : Nx Γ D δ (μ1.set j (p, .dK (putD kvs k d)))) :
    Sx Γ (tAsg te (gSub td ty rSetD)) D δ μ := fun σ W A =>
  h σ W A _ fun v W1 A1 l1 e1 => h1 σ W1 A1 _ fun o W2 A2 l2 e2 => h2 σ W2 A2 _ fun y W3 A3 l3 e3 => by
    cases e2
    cases dp_key e3
    obtain ⟨ws, g1, g2⟩ := A3.rdK (List.mem_of_getElem? hk)
    unfold rSetD
    refine ⟨p, _, rfl, DPut.k g1 (by rw [g2.len]; exact Nat.lt_of_lt_of_le hz (by decide)), ?_⟩
    obtain ⟨nn, A4⟩ := Ast.wrAt (o' := .dK (putD kvs k d)) (u := .dK (putK ws k v)) j hk A3 may fun nn => ⟨_, upd_same, g2.put k ((Dp.ex l2 e1).ex l3)⟩
    exact n σ _ A4
/-- d[a, b] = e -/
theorem x_dputT (j : Nat) (h : Ev Γ te δ μ (.d d) μ1) (h1 : Ev Γ td δ μ1 (.r (.ref p)) μ1) (h2 : EvA Γ tl δ μ1 (datas (ks.map kD)) μ1) (hk : μ1[j]? = some (p, .dT kts)) (hz : kts.length < 100000) (may : Γ.may p) (n : Nx Γ D δ (μ1.set j (p, .dT (putD kts ks d)))) (hl : Nat.ble ks.length 100000 = true := by rfl) :
    Sx Γ (tAsg te (gSub td (tTup tl) rSetD)) D δ μ := fun σ W A =>
  h σ W A _ fun v W1 A1 l1 e1 => h1 σ W1 A1 _ fun o W2 A2 l2 e2 => h2 σ W2 A2 _ fun vs W3 A3 l3 e3 => by
    cases e2
    have e4 := dp_keys (svAll_datas e3)
    subst e4
    refine ⟨by rw [List.length_map]; exact Nat.le_trans (Nat.le_of_ble_eq_true hl) (by decide), fun r hr => ?_⟩
    have l4 := le_put (o := .tup (ks.map kV)) hr
    have A4 := A3.le l4
    obtain ⟨ws, g1, g2⟩ := A4.rdT (List.mem_of_getElem? hk)
    unfold rSetD
    refine ⟨p, _, rfl, DPut.t g1 upd_same (by rw [g2.len]; exact Nat.lt_of_lt_of_le hz (by decide)), ?_⟩
    obtain ⟨nn, A5⟩ := Ast.wrAt (o' := .dT (putD kts ks d)) (u := .dT (putK ws ks v)) j hk A4 may fun nn => ⟨_, upd_same, g2.put ks (((Dp.ex l2 e1).ex l3).ex l4.i)⟩
    exact n σ _ A5
/-- d.pop(k) -/
theorem e_dpopK (j : Nat) (h1 : Ev Γ td δ μ (.r (.ref p)) μ) (h2 : Ev Γ ty δ μ (.d (kD k)) μ) (hk : μ[j]? = some (p, .dK kvs)) (hv : valD kvs k = some d) (may : Γ.may p) : Ev Γ (tDPop1 td ty) δ μ (.d d) (μ.set j (p, .dK (dropD kvs k))) := fun σ W A Q q =>
  h1 σ W A _ fun v W1 A1 l1 e1 => by
    cases e1
    obtain ⟨ws, g1, _⟩ := A1.rdK (List.mem_of_getElem? hk)
    refine ⟨p, rfl, .inl ⟨ws, .inl g1⟩, h2 σ W1 A1 _ fun y W2 A2 l2 e2 => ?_⟩
    cases dp_key e2
    obtain ⟨ws, g1, g2⟩ := A2.rdK (List.mem_of_getElem? hk)
    rcases g2.val k with ⟨_, e⟩ | ⟨w, d', e3, e4, h3⟩
    · rw [hv] at e; cases e
    · rw [hv] at e4
      cases e4
      refine ⟨ws, k, w, g1, rfl, e3, ?_⟩
      obtain ⟨nn, A4⟩ := Ast.wrAt (o' := .dK (dropD kvs k)) (u := .dK (dropK ws k)) j hk A2 may fun nn => ⟨_, upd_same, g2.drop k⟩
      exact q _ _ A4 (l1.trans l2) h3
end
/-! ### new owned objects -/
theorem Ast.adds {Γ : Ga} {σ : L2.St} {W : Wd} {δ : De} {μ mn : Mu} (a : Ast Γ σ W δ μ) (o : Owns Γ.K W mn) (hd : ∀ e ∈ mn, e.1 ∉ μ.map (·.1)) (hf : ∀ e ∈ mn, Γ.W0.h e.1 = none) : Ast Γ σ W δ (mn ++ μ) :=
  ⟨a.bs, a.len, a.sl, ⟨fun e he => (List.mem_append.mp he).elim (o.ok e) (a.ow.ok e), fun e he => (List.mem_append.mp he).elim (o.fr e) (a.ow.fr e), by
    rw [List.map_append]
    refine List.nodup_append.mpr ⟨o.nd, a.ow.nd, ?_⟩
    intro x hx y hy e
    obtain ⟨e1, he1, q⟩ := List.mem_map.mp hx
    subst e
    exact hd e1 he1 (q ▸ hy)⟩, fun e he => (List.mem_append.mp he).elim (fun h => .inr (hf e h)) (a.fo e), a.gh, a.fF⟩
/-- an expression that makes new objects -/
def EvN (Γ : Ga) (te : TE) (δ : De) (μ : Mu) (k : Nat) (s : List Addr → Sv) (mn : List Addr → Mu) (μ1 : Mu) : Prop := ∀ σ W, Ast Γ σ W δ μ → ∀ Q : VK,
  (∀ ps v W', ps.length = k → (∀ p ∈ ps, p ∉ Γ.O ∧ p ∉ μ1.map (·.1)) → Ast Γ σ W' δ (mn ps ++ μ1) → Same W.i W'.i → SvOk Γ.K W'.i v (s ps) → Q v W'.h) → te σ W.h Q
abbrev s1 (ps : List Addr) : Sv := .r (.ref (ps.headD 0))
abbrev m1 (o : OO) (ps : List Addr) : Mu := [(ps.headD 0, o)]
abbrev EvN1 (Γ : Ga) (te : TE) (δ : De) (μ : Mu) (o : OO) (μ1 : Mu) : Prop := EvN Γ te δ μ 1 s1 (m1 o) μ1
section
variable {Γ : Ga} {δ : De} {μ μ1 μ2 : Mu} {td te ty tx ta tb to ti : TE} {t u : TS} {tl : TA} {d : PD} {ds : List PD} {D : Ends} {p : Addr} {s : Sv} {o : OO} {k : Nat} {sn : List Addr → Sv} {mn : List Addr → Mu} {K : PySem.W.Frag}
theorem new1 (o : OO) {σ : L2.St} {W W1 : Wd} {p : Addr} {v : HO} {Q : VK} (A1 : Ast Γ σ W1 δ μ1) (l : Same W.i W1.i) (hp : W1.h p = none) (ok : OOk Γ.K (W1.wr p v (Wd.none_of hp)) p o)
    (q : ∀ ps v W', ps.length = 1 → (∀ p ∈ ps, p ∉ Γ.O ∧ p ∉ μ1.map (·.1)) → Ast Γ σ W' δ (m1 o ps ++ μ1) → Same W.i W'.i → SvOk Γ.K W'.i v (s1 ps) → Q v W'.h) : Q (.ref p) (upd W1.h p v) :=
  q [p] _ (W1.wr p v (Wd.none_of hp)) rfl (fun b hb => by
    cases List.mem_singleton.mp hb
    exact (A1.fresh hp).2) (A1.new hp ok) l rfl
theorem EvN.to1 {o' : OO} (h : EvN1 Γ te δ μ o μ1) (e : o = o') : EvN1 Γ te δ μ o' μ1 := e ▸ h
theorem n_lst (h : EvA Γ tl δ μ (datas ds) μ1) (hl : Nat.ble ds.length 100000 = true := by rfl) : EvN1 Γ (tLst tl) δ μ (.lst ds) μ1 := fun σ W A Q q =>
  h σ W A _ fun vs W1 A1 l1 h1 => by
    have h2 := svAll_datas h1
    exact ⟨by rw [h2.length]; exact Nat.le_trans (Nat.le_of_ble_eq_true hl) (by decide), fun p hp => new1 (.lst ds) A1 l1 hp ⟨vs, upd_same, h2⟩ q⟩
theorem n_dK : EvN1 Γ tDNewK δ μ (.dK []) μ := fun σ W A Q q p hp => new1 (.dK []) A (Same.rfl' : Same W.i W.i) hp ⟨[], upd_same, .nil⟩ q
theorem n_dT : EvN1 Γ tDNewT δ μ (.dT []) μ := fun σ W A Q q p hp => new1 (.dT []) A (Same.rfl' : Same W.i W.i) hp ⟨[], upd_same, .nil⟩ q
/-- list(x) -/
theorem n_listL (hK : Γ.K = K) (h : Ev Γ te δ μ (dL ds) μ1) : EvN1 Γ (tCB (fun xs H Q => ∃ p ys, xs = [.ref p] ∧ (SqL K H p ys ∨ SqT K H p ys) ∧ ∀ l, H l = none → Q (.ref l) (upd H l (.lst ys))) (tCons te tNil)) δ μ (.lst ds) μ1 := fun σ W A Q q =>
  a_cons h a_nil σ W A _ fun vs W1 A1 l1 hs => by
    subst hK
    obtain ⟨v, rfl, h1⟩ := sv1 hs
    obtain ⟨p, ws, rfl, h3, h4⟩ := svL h1
    exact ⟨p, ws, rfl, .inl (sf_sqL W1.s h3), fun l hl => new1 (.lst ds) A1 l1 hl ⟨ws, upd_same, h4⟩ q⟩
theorem n_listU (hK : Γ.K = K) (h : Ev Γ te δ μ (dU ds) μ1) : EvN1 Γ (tCB (fun xs H Q => ∃ p ys, xs = [.ref p] ∧ (SqL K H p ys ∨ SqT K H p ys) ∧ ∀ l, H l = none → Q (.ref l) (upd H l (.lst ys))) (tCons te tNil)) δ μ (.lst ds) μ1 := fun σ W A Q q =>
  a_cons h a_nil σ W A _ fun vs W1 A1 l1 hs => by
    subst hK
    obtain ⟨v, rfl, h1⟩ := sv1 hs
    obtain ⟨p, ws, rfl, h3, h4⟩ := svU h1
    exact ⟨p, ws, rfl, .inr (sf_sqT W1.s h3), fun l hl => new1 (.lst ds) A1 l1 hl ⟨ws, upd_same, h4⟩ q⟩
theorem n_listO (hK : Γ.K = K) (h : Ev Γ te δ μ (.r (.ref p)) μ1) (hp : (p, OO.lst ds) ∈ μ1) : EvN1 Γ (tCB (fun xs H Q => ∃ p ys, xs = [.ref p] ∧ (SqL K H p ys ∨ SqT K H p ys) ∧ ∀ l, H l = none → Q (.ref l) (upd H l (.lst ys))) (tCons te tNil)) δ μ (.lst ds) μ1 := fun σ W A Q q =>
  a_cons h a_nil σ W A _ fun vs W1 A1 l1 hs => by
    subst hK
    obtain ⟨v, rfl, h1⟩ := sv1 hs
    cases h1
    obtain ⟨ws, h3, h4⟩ := A1.ow.ok _ hp
    exact ⟨p, ws, rfl, .inl (SqL.of h3), fun l hl => new1 (.lst ds) A1 l1 hl ⟨ws, upd_same, h4⟩ q⟩
/-- sorted of ints -/
def srt (ns : List Int) : List Int := ns.mergeSort (· ≤ ·)
theorem srt_eq {ns ms : List Int} (h1 : ms.Perm ns) (h2 : ms.Pairwise (· ≤ ·)) : ms = srt ns := by
  refine List.Perm.eq_of_pairwise (le := fun a b : Int => a ≤ b) (fun a b _ _ h1 h2 => Int.le_antisymm h1 h2) h2 ?_ (h1.trans (List.mergeSort_perm ns _).symm)
  have := List.pairwise_mergeSort (le := fun a b : Int => decide (a ≤ b)) (fun a b c h1 h2 => by simp at *; omega) (fun a b => by simp; omega) ns
  exact this.imp fun h => of_decide_eq_true h
theorem n_sortL {ns : List Int} (hK : Γ.K = K) (h : Ev Γ te δ μ (dL (ns.map .int)) μ1) : EvN1 Γ (tCB (rSortedI K) (tCons te tNil)) δ μ (.lst ((srt ns).map .int)) μ1 := fun σ W A Q q =>
  a_cons h a_nil σ W A _ fun vs W1 A1 l1 hs => by
    subst hK
    obtain ⟨v, rfl, h1⟩ := sv1 hs
    obtain ⟨p, ws, rfl, h3, h4⟩ := svL h1
    cases h4.ints_inv
    refine ⟨p, ns, rfl, sf_sqL W1.s h3, fun ms l k1 k2 hl => ?_⟩
    cases srt_eq k1 k2
    exact new1 (.lst ((srt ns).map .int)) A1 l1 hl ⟨_, upd_same, DpAll.ints⟩ q
theorem Kv.ks {K : PySem.W.Frag} {I : Hp} {κ : Type} : ∀ {ws : List (κ × V)} {kvs : List (κ × PD)}, Kv K I ws kvs → ws.map (·.1) = kvs.map (·.1)
  | _, _, .nil => rfl
  | _, _, .cons h t => by rw [List.map_cons, List.map_cons, Kv.ks t, h.1]
/-- sorted(d), the keys ints -/
theorem n_sortDI {ns : List Int} {kvs : List (Key × PD)} (h : Ev Γ te δ μ (.r (.ref p)) μ1) (hp : (p, OO.dK kvs) ∈ μ1) (hk : kvs.map (·.1) = ns.map Sum.inl) : EvN1 Γ (tCB rSortedDI (tCons te tNil)) δ μ (.lst ((srt ns).map .int)) μ1 := fun σ W A Q q =>
  a_cons h a_nil σ W A _ fun vs W1 A1 l1 hs => by
    obtain ⟨v, rfl, h1⟩ := sv1 hs
    cases h1
    obtain ⟨ws, g1, g2⟩ := A1.rdK hp
    refine ⟨p, ws, ns, rfl, .inl g1, g2.ks.trans hk, fun ms l k1 k2 hl => ?_⟩
    cases srt_eq k1 k2
    exact new1 (.lst ((srt ns).map .int)) A1 l1 hl ⟨_, upd_same, DpAll.ints⟩ q
/-- [..] * n -/
theorem n_rep {i : Int} (h : EvA Γ tl δ μ (datas ds) μ1) (hi : Ev Γ ti δ μ1 (dI i) μ2) (h0 : 0 ≤ i) (h1 : ds.length * i.toNat ≤ 100000) (h3 : i < 2 ^ 63 := by decide) (hl : Nat.ble ds.length 100000 = true := by rfl) : EvN1 Γ (tOp rRep (tLst tl) ti) δ μ (.lst (List.replicate i.toNat ds).flatten) μ2 := fun σ W A Q q =>
  h σ W A _ fun vs W1 A1 l1 e1 => by
    have e2 := svAll_datas e1
    refine ⟨by rw [e2.length]; exact Nat.le_trans (Nat.le_of_ble_eq_true hl) (by decide), fun p hp => ?_⟩
    have l2 := le_put (o := .lst vs) hp
    refine hi σ _ (A1.le l2) _ fun w W3 A3 l3 e3 => ?_
    cases svI e3
    have g : W3.h p = some (.lst vs) := W3.s _ _ (l3 _ _ upd_same)
    refine ⟨p, i, vs, rfl, rfl, g, by omega, h3, by rw [e2.length]; exact Nat.le_trans h1 (by decide), fun r hr => new1 (.lst (List.replicate i.toNat ds).flatten) A3 ((l1.trans l2.i).trans l3) hr ⟨_, upd_same, ?_⟩ q⟩
    have e4 := (e2.ex l2.i).ex l3
    generalize i.toNat = m
    clear q g h0 h1 h3
    induction m with
    | zero => exact .nil
    | succ m ih =>
      rw [List.replicate_succ, List.replicate_succ, List.flatten_cons, List.flatten_cons]
      exact e4.app ih
/-- the new list, handed on as data -/
theorem EvN.fz (h : EvN1 Γ te δ μ (.lst ds) μ1) : Ev Γ te δ μ (dL ds) μ1 := fun σ W A Q q =>
  h σ W A _ fun ps v W1 h1 h2 A1 l1 e1 => by
    obtain ⟨p, rfl⟩ : ∃ p, ps = [p] := List.length_eq_one_iff.mp h1
    obtain ⟨W2, e, l2, A2, e2⟩ := A1.fz (h2 p List.mem_cons_self).1
    cases e1
    rw [← e]
    exact q _ W2 A2 (l1.trans l2) e2
theorem x_letN (j : Nat) (h : EvN Γ te δ μ k sn mn μ1) (n : ∀ ps, ps.length = k → (∀ p ∈ ps, p ∉ Γ.O ∧ p ∉ μ1.map (·.1)) → Sx Γ u D (δ.set j (some (sn ps))) (mn ps ++ μ1)) : Sx Γ (tSeq (tAsg te (gName j)) u) D δ μ := fun σ W A =>
  h σ W A _ fun ps v W1 h1 h2 A1 l1 e1 => n ps h1 h2 _ W1 (A1.set j e1)
theorem x_letN1 {j : Nat} (h : EvN1 Γ te δ μ o μ1) (n : ∀ p, p ∉ Γ.O → p ∉ μ1.map (·.1) → Sx Γ u D (δ.set j (some (.r (.ref p)))) ((p, o) :: μ1)) : Sx Γ (tSeq (tAsg te (gName j)) u) D δ μ :=
  x_letN j h fun ps h1 h2 => by
    obtain ⟨p, rfl⟩ : ∃ p, ps = [p] := List.length_eq_one_iff.mp h1
    exact n p (h2 p List.mem_cons_self).1 (h2 p List.mem_cons_self).2
/-- the outcome: a new object -/
def nw (o : OO) (m' : Mu) : Oc := .new 1 s1 (fun ps => (ps.headD 0, o) :: m')
theorem fresh_of {W W' : Wd} {σ : L2.St} (A : Ast Γ σ W δ μ) {p : Addr} (h : p ∈ μ.map (·.1)) (hp : p ∉ Γ.O) : Γ.W0.h p = none := by
  obtain ⟨e, he, q⟩ := List.mem_map.mp h
  have := A.fo e he
  rw [q] at this
  exact this.resolve_left hp
theorem x_retNew {E : XK} {m' : Mu} (h : EvN1 Γ te δ μ o μ1) (hD : OcOk Γ.K Γ.W0 Γ.F D.rt E (nw o m')) (hm : m'.Sublist μ1) : Sx Γ (tRet te) D δ μ := fun σ W A =>
  h σ W A _ fun ps v W1 h1 h2 A1 l1 e1 => by
    obtain ⟨p, rfl⟩ : ∃ p, ps = [p] := List.length_eq_one_iff.mp h1
    have sub : ((p, o) :: m').Sublist ((p, o) :: μ1) := hm.cons_cons _
    refine hD [p] v W1 rfl (fun b hb => ?_) A1.bs e1 ⟨fun e he => A1.ow.ok e (sub.subset he), fun e he => A1.ow.fr e (sub.subset he), A1.ow.nd.sublist (sub.map _)⟩
    cases List.mem_singleton.mp hb
    exact fresh_of (W' := W1) A1 (by simp [m1]) (h2 p List.mem_cons_self).1
/-- a local owned object is handed back -/
theorem x_retOwn {E : XK} {m' : Mu} (h : Ev Γ te δ μ (.r (.ref p)) μ1) (hp : p ∉ Γ.O) (hD : OcOk Γ.K Γ.W0 Γ.F D.rt E (nw o m')) (hm : ((p, o) :: m').Sublist μ1) : Sx Γ (tRet te) D δ μ := fun σ W A =>
  h σ W A _ fun v W1 A1 l1 e1 => by
    refine hD [p] v W1 rfl (fun b hb => ?_) A1.bs e1 ⟨fun e he => A1.ow.ok e (hm.subset he), fun e he => A1.ow.fr e (hm.subset he), A1.ow.nd.sublist (hm.map _)⟩
    cases List.mem_singleton.mp hb
    exact fresh_of (W' := W1) A1 (List.mem_map.mpr ⟨_, hm.subset List.mem_cons_self, rfl⟩) hp
/-- o.f = a new object -/
theorem x_fldN {C : Addr} {fs : List (Str × V)} {f : Str} (j : Nat) (h : EvN1 Γ te δ μ o μ1) (ho : ∀ q, Ev Γ to δ ((q, o) :: μ1) (.r (.ref p)) ((q, o) :: μ1)) (hk : μ1[j]? = some (p, .ins C fs)) (c : Cls K C) (n : NoAttr K C f) (hl : fs.length < 1000) (may : Γ.may p)
    (nx : ∀ q, q ∉ Γ.O → q ∉ μ1.map (·.1) → Nx Γ D δ ((q, o) :: μ1.set j (p, .ins C (putF f (.ref q) fs)))) : Sx Γ (sFld K to te f) D δ μ := fun σ W A =>
  h σ W A _ fun ps v W1 h1 h2 A1 l1 e1 => by
    obtain ⟨q, rfl⟩ : ∃ p, ps = [p] := List.length_eq_one_iff.mp h1
    cases e1
    refine ho q σ W1 A1 _ fun x W2 A2 l2 e2 => ?_
    cases e2
    obtain ⟨dx, e⟩ := A2.ow.ok (p, .ins C fs) (List.mem_cons_of_mem _ (List.mem_of_getElem? hk))
    refine ⟨p, C, dx, fs, rfl, e, c, n, hl, ?_⟩
    obtain ⟨nn, A3⟩ := Ast.wrAt (o' := .ins C (putF f (.ref q) fs)) (u := .ins C dx (putF f (.ref q) fs)) (j + 1) (by simpa using hk) A2 may fun nn => ⟨dx, upd_same⟩
    exact nx q (h2 q List.mem_cons_self).1 (h2 q List.mem_cons_self).2 σ _ A3
theorem x_fldI {C : Addr} {fs : List (Str × V)} {f : Str} {i : Int} (j : Nat) (h : Ev Γ te δ μ (dI i) μ1) (ho : Ev Γ to δ μ1 (.r (.ref p)) μ2) (hk : μ2[j]? = some (p, .ins C fs)) (c : Cls K C) (n : NoAttr K C f) (hl : fs.length < 1000) (may : Γ.may p) (nx : Nx Γ D δ (μ2.set j (p, .ins C (putF f (.int i) fs)))) :
    Sx Γ (sFld K to te f) D δ μ := fun σ W A =>
  h σ W A _ fun y W1 A1 l1 h1 => ho σ W1 A1 _ fun x W2 A2 l2 h2 => by
    cases svI h1
    cases h2
    obtain ⟨dx, e⟩ := A2.ow.ok _ (List.mem_of_getElem? hk)
    refine ⟨p, C, dx, fs, rfl, e, c, n, hl, ?_⟩
    obtain ⟨nn, A3⟩ := Ast.wrAt (o' := .ins C (putF f (.int i) fs)) (u := .ins C dx (putF f (.int i) fs)) j hk A2 may fun nn => ⟨dx, upd_same⟩
    exact nx σ _ A3
/-! ### calls that make new objects, or raise -/
theorem sp_roN {σ : L2.St} {W : Wd} {vs : List V} {Q : VK} {E : XK} {as : List Sv} {m : Mu} {n : Nat} {G : List Sv → Mu → Oc → Prop} (hK : Γ.K = K) (A : Ast Γ σ W δ μ) (hm : m.Sublist μ) (hn : as.length = n) (hs : SvAll Γ.K W.i vs as) (hG : G as m (.new k sn mn)) (ha : ∀ ps, ps.length = k → ∀ e ∈ mn ps, e.1 ∈ ps)
    (q : ∀ ps v W', ps.length = k → (∀ p ∈ ps, p ∉ Γ.O ∧ p ∉ μ.map (·.1)) → Ast Γ σ W' δ (mn ps ++ μ) → Same W.i W'.i → SvOk Γ.K W'.i v (sn ps) → Q v W'.h) : spG K n true G vs W.h Q E := by
  subst hK
  refine ⟨W, as, m, _, rfl, hs, A.ow.sub hm, hn, hG, fun ps v W' h1 h2 l h o => ?_⟩
  have fr : ∀ p ∈ ps, Γ.W0.h p = none ∧ p ∉ Γ.O ∧ p ∉ μ.map (·.1) := fun p hp => A.fresh (h2 p hp)
  exact q ps v W' h1 (fun p hp => (fr p hp).2) ((A.le l).adds o (fun e he => (fr _ (ha ps h1 e he)).2.2) fun e he => (fr _ (ha ps h1 e he)).1) l.i h
theorem sp_rwN {σ : L2.St} {W : Wd} {vs : List V} {Q : VK} {E : XK} {as : List Sv} {m m' rest : Mu} {n : Nat} {G : List Sv → Mu → Oc → Prop} (hK : Γ.K = K) (A : Ast Γ σ W δ (m ++ rest)) (hn : as.length = n) (hs : SvAll Γ.K W.i vs as) (hG : G as m (.new k sn fun ps => mn ps ++ m')) (ha : ∀ ps, ps.length = k → ∀ e ∈ mn ps, e.1 ∈ ps) (e : m'.map (·.1) = m.map (·.1)) (may : ∀ b ∈ m.map (·.1), Γ.may b)
    (q : ∀ ps v W', ps.length = k → (∀ p ∈ ps, p ∉ Γ.O ∧ p ∉ (m' ++ rest).map (·.1)) → Ast Γ σ W' δ (mn ps ++ (m' ++ rest)) → Same W.i W'.i → SvOk Γ.K W'.i v (sn ps) → Q v W'.h) : spG K n false G vs W.h Q E := by
  subst hK
  refine ⟨W, as, m, _, rfl, hs, A.ow.sub (List.sublist_append_left _ _), hn, hG, fun ps v W' h1 h2 l h o => ?_⟩
  have fr : ∀ p ∈ ps, Γ.W0.h p = none ∧ p ∉ Γ.O ∧ p ∉ (m ++ rest).map (·.1) := fun p hp => A.fresh (h2 p hp)
  have em : (m' ++ rest).map (·.1) = (m ++ rest).map (·.1) := by rw [List.map_append, List.map_append, e]
  have A1 := A.behind l (fun _ hb => hb) may (o.sub (List.sublist_append_right _ _)) e
  refine q ps v W' h1 (fun p hp => em ▸ (fr p hp).2) (A1.adds (o.sub (List.sublist_append_left _ _)) (fun e he => ?_) fun e he => (fr _ (ha ps h1 e he)).1) l.i h
  rw [em]
  exact (fr _ (ha ps h1 e he)).2.2
section
variable {as : List Sv} {m m' rest : Mu} {n : Nat} {G : List Sv → Mu → Oc → Prop} {E : XK}
theorem n_call (hK : Γ.K = K) (h : EvA Γ tl δ μ as μ1) (hG : G as m (.new k sn mn)) (hm : m.Sublist μ1) (ha : ∀ ps, ps.length = k → ∀ e ∈ mn ps, e.1 ∈ ps) (hn : as.length = n := by rfl) : EvN Γ (tCall (spG K n true G) [] E tl) δ μ k sn mn μ1 := fun σ W A Q q =>
  h σ W A _ fun vs W1 A1 l1 h1 => app_nil_sv (sp_roN hK A1 hm hn h1 hG ha fun ps v W' k1 k2 A' l' h' => q ps v W' k1 k2 A' (l1.trans l') h')
theorem ha1 {o : OO} : ∀ ps, ps.length = 1 → ∀ e ∈ m1 o ps, e.1 ∈ ps := fun ps h e he => by
  obtain ⟨p, rfl⟩ : ∃ p, ps = [p] := List.length_eq_one_iff.mp h
  cases List.mem_singleton.mp he
  exact List.mem_cons_self
end
end
end Sf
namespace L2
open PySem
/-! a heap without the locked dict at p says the same of data -/
structure Strip (p : Addr) (H H' : Hp) : Prop where
  s : ∀ a u, a ≠ p → H a = some u → H' a = some u
  p : ∀ u, H p = some u → (∃ o ws, u = .frz o (.dK ws)) ∨ ∃ o ws, u = .frz o (.dT ws)
theorem Strip.rdL {p a : Addr} {H H' : Hp} {xs : List V} (z : Strip p H H') (h : Rd H a (.lst xs)) : Rd H' a (.lst xs) := by
  have ne : a ≠ p := by
    rintro rfl
    rcases h with h | ⟨o, h⟩
    · rcases z.p _ h with ⟨o, ws, e⟩ | ⟨o, ws, e⟩ <;> cases e
    · rcases z.p _ h with ⟨o, ws, e⟩ | ⟨o, ws, e⟩ <;> cases e
  rcases h with h | ⟨o, h⟩
  · exact .inl (z.s _ _ ne h)
  · exact .inr ⟨o, z.s _ _ ne h⟩
theorem Strip.rdT {p a : Addr} {H H' : Hp} {xs : List V} (z : Strip p H H') (h : Rd H a (.tup xs)) : Rd H' a (.tup xs) := by
  have ne : a ≠ p := by
    rintro rfl
    rcases h with h | ⟨o, h⟩
    · rcases z.p _ h with ⟨o, ws, e⟩ | ⟨o, ws, e⟩ <;> cases e
    · rcases z.p _ h with ⟨o, ws, e⟩ | ⟨o, ws, e⟩ <;> cases e
  rcases h with h | ⟨o, h⟩
  · exact .inl (z.s _ _ ne h)
  · exact .inr ⟨o, z.s _ _ ne h⟩
mutual
theorem Dp.strip {K : PySem.W.Frag} {p : Addr} {H H' : Hp} (z : Strip p H H') : ∀ {v : V} {d : PD}, Dp K H v d → Dp K H' v d
  | _, _, .non => .non
  | _, _, .bl b => .bl b
  | _, _, .int i => .int i
  | _, _, .str x => .str x
  | _, _, .lst h r => .lst (h.elim (fun h => .inl (z.rdL h)) .inr) (DpAll.strip z r)
  | _, _, .tup h r => .tup (h.elim (fun h => .inl (z.rdT h)) .inr) (DpAll.strip z r)
theorem DpAll.strip {K : PySem.W.Frag} {p : Addr} {H H' : Hp} (z : Strip p H H') : ∀ {vs : List V} {ds : List PD}, DpAll K H vs ds → DpAll K H' vs ds
  | _, _, .nil => .nil
  | _, _, .cons h r => .cons (Dp.strip z h) (DpAll.strip z r)
end
end L2
namespace Sf
open PySem PySem.Spec PyProof.Rows L2
/-! ### a locked dict -/
def Wd.lock (W : Wd) (p : Addr) (o : HO) : Wd := ⟨upd W.i p o, upd W.h p o, fun a u h => by
  by_cases e : a = p
  · subst e
    rw [upd_same] at h ⊢
    exact h
  · rw [upd_ne e] at h ⊢
    exact W.s a u h⟩
def Wd.unlock (W : Wd) (p : Addr) (o : HO) : Wd := ⟨fun a => if a = p then none else W.i a, upd W.h p o, fun a u h => by
  by_cases e : a = p
  · subst e
    simp at h
  · rw [upd_ne e]
    dsimp only at h
    rw [if_neg e] at h
    exact W.s a u h⟩
section
variable {Γ : Ga} {δ : De} {μ μ1 μ2 : Mu} {td te ty tx ta tb to ti : TE} {t u : TS} {tl : TA} {d : PD} {ds : List PD} {D : Ends} {p : Addr} {s : Sv} {o : OO} {k : Nat} {K : PySem.W.Frag}
/-- inside: the world W with the dict locked -/
def Ga.lk (Γ : Ga) (W : Wd) (μ : Mu) (g : V × Sv) : Ga := ⟨Γ.K, W, [], μ.map (·.1), g :: Γ.gh⟩
theorem lock_gen {σ : L2.St} {W : Wd} {w : HO} {g : Sv} (j : Nat) (A : Ast Γ σ W δ μ) (hp : μ[j]? = some (p, o)) (hw : W.h p = some w) (hs : ∀ od, ∃ g, SvOk Γ.K (W.lock p (.frz od w)).i (.ref p) g ∧ Ev (Γ.lk (W.lock p (.frz od w)) (μ.eraseIdx j) (.ref p, g)) te δ (μ.eraseIdx j) (.d d) (μ.eraseIdx j))
    (hd : ∀ od, (∃ o' ws, HO.frz od w = .frz o' (.dK ws)) ∨ ∃ o' ws, HO.frz od w = .frz o' (.dT ws)) (mu : Mut (some w)) {Q : VK} (q : ∀ v W', Ast Γ σ W' δ μ → Same W.i W'.i → SvOk Γ.K W'.i v (.d d) → Q v W'.h) : tLockE te σ W.h Q := by
  refine ⟨p, w, hw, mu, fun od => ?_⟩
  obtain ⟨g, hg, hE⟩ := hs od
  have hm : (p, o) ∈ μ := List.mem_of_getElem? hp
  have hi : W.i p = none := (A.ow.fr _ hm).1
  have perm := perm_erase hp
  have nd : (p :: (μ.eraseIdx j).map (·.1)).Nodup := by simpa using ((perm.map (fun e : Addr × OO => e.1)).nodup_iff).mpr A.ow.nd
  have nd1 := List.nodup_cons.mp nd
  have sub : ∀ e ∈ μ.eraseIdx j, e ∈ μ := fun e he => perm.mem_iff.mp (List.mem_cons_of_mem _ he)
  have ne : ∀ e ∈ μ.eraseIdx j, e.1 ≠ p := fun e he z => nd1.1 (z ▸ List.mem_map_of_mem he)
  have i1 : Same W.i (W.lock p (.frz od w)).i := fun a u e => by
    show upd W.i p _ a = some u
    rw [upd_ne]
    · exact e
    · intro z; subst z; rw [hi] at e; cases e
  have A1 : Ast (Γ.lk (W.lock p (.frz od w)) (μ.eraseIdx j) (.ref p, g)) σ (W.lock p (.frz od w)) δ (μ.eraseIdx j) := by
    refine ⟨LeX.refl _ _, A.len, fun j s e => let ⟨v, h1, h2⟩ := A.sl j s e; ⟨v, h1, h2.ex i1⟩, ⟨fun e he => (A.ow.ok e (sub e he)).le i1 fun u h => ?_, fun e he => ⟨?_, ?_⟩, nd1.2⟩, fun e he => .inl (List.mem_map_of_mem he), fun g' hg' => ?_, fun b hb => ?_⟩
    · show upd W.h p _ e.1 = some u
      rw [upd_ne (ne e he)]; exact h
    · show upd W.i p _ e.1 = none
      rw [upd_ne (ne e he)]; exact (A.ow.fr e (sub e he)).1
    · show upd W.h p _ e.1 ≠ none
      rw [upd_ne (ne e he)]; exact (A.ow.fr e (sub e he)).2
    · rcases List.mem_cons.mp hg' with rfl | hg'
      · exact hg
      · exact (A.gh g' hg').ex i1
    · obtain ⟨e, he, q⟩ := List.mem_map.mp hb
      subst q
      show upd W.h p _ e.1 ≠ none
      rw [upd_ne (ne e he)]; exact (A.ow.fr e (sub e he)).2
  refine hE σ _ A1 _ fun v W2 A2 l2 h2 => ?_
  have hip : (W.lock p (.frz od w)).i p = some (.frz od w) := upd_same
  have h2p : W2.i p = some (.frz od w) := l2 _ _ hip
  refine ⟨W2.s _ _ h2p, ?_⟩
  have bs := A2.bs
  have i3 : Same W.i (W2.unlock p w).i := fun a u e => by
    have na : a ≠ p := by intro z; subst z; rw [hi] at e; cases e
    show (if a = p then none else W2.i a) = some u
    rw [if_neg na]
    exact l2 a u (i1 a u e)
  have keep : ∀ a u, a ≠ p → W.h a = some u → W2.h a = some u := fun a u na e => bs.h a u (by
    show upd W.h p _ a = some u
    rw [upd_ne na]; exact e) (fun z => nomatch z)
  have h3 : ∀ a u, W.h a = some u → (W2.unlock p w).h a = some u := fun a u e => by
    show upd W2.h p w a = some u
    by_cases na : a = p
    · subst na
      rw [upd_same, ← hw, e]
    · rw [upd_ne na]; exact keep a u na e
  have n3 : ∀ a, W.i a = none → Mx (W.h a) → (W2.unlock p w).i a = none := fun a e1 e2 => by
    show (if a = p then none else W2.i a) = none
    by_cases na : a = p
    · rw [if_pos na]
    · rw [if_neg na]
      refine bs.n a ?_ ?_
      · show upd W.i p _ a = none
        rw [upd_ne na]; exact e1
      · show Mx (upd W.h p _ a)
        rw [upd_ne na]; exact e2
  have hx : Mx (some w) := by
    have := (A.ow.ok _ hm).mx
    rwa [hw] at this
  have m3 : ∀ a, Mx (W.h a) → Mx ((W2.unlock p w).h a) := fun a e => by
    obtain ⟨u, e1, e2⟩ := e
    exact ⟨u, h3 a u e1, e2⟩
  have d3 : ∀ a, W.h a ≠ none → (W2.unlock p w).h a ≠ none := fun a e => by
    cases q : W.h a with
    | none => exact absurd q e
    | some u => rw [h3 a u q]; simp
  refine q v (W2.unlock p w) ⟨⟨fun a u e => i3 a u (A.bs.i a u e), fun a u e m => h3 a u (A.bs.h a u e m), fun a e1 e2 => n3 a (A.bs.n a e1 e2) (A.bs.m a e2), fun a e => d3 a (A.bs.d a e), fun a e => m3 a (A.bs.m a e)⟩, A.len, fun j s e => let ⟨v, h1, h2⟩ := A.sl j s e; ⟨v, h1, h2.ex i3⟩,
    ⟨fun e he => (A.ow.ok e he).le i3 fun u h => h3 _ u h, fun e he => ⟨n3 _ (A.ow.fr e he).1 (A.ow.ok e he).mx, d3 _ (A.ow.fr e he).2⟩, A.ow.nd⟩, A.fo, fun g' hg' => (A.gh g' hg').ex i3, A.fF⟩ i3 ?_
  refine Dp.strip (p := p) ⟨fun a u na e => ?_, fun u e => ?_⟩ h2
  · show (if a = p then none else W2.i a) = some u
    rw [if_neg na]; exact e
  · rw [h2p] at e
    cases e
    exact hd od
theorem e_lockK {kvs : List (Key × PD)} (j : Nat) (hp : μ[j]? = some (p, .dK kvs)) (h : ∀ W od ws, Kv Γ.K W.i ws kvs → Ev (Γ.lk W (μ.eraseIdx j) (.ref p, .fk od ws)) te δ (μ.eraseIdx j) (.d d) (μ.eraseIdx j)) : Ev Γ (tLockE te) δ μ (.d d) μ := fun σ W A Q q => by
  obtain ⟨ws, g1, g2⟩ := A.rdK (List.mem_of_getElem? hp)
  have hi : W.i p = none := (A.ow.fr _ (List.mem_of_getElem? hp)).1
  refine lock_gen (g := dN) j A hp g1 (fun od => ⟨.fk od ws, ⟨p, rfl, upd_same⟩, h _ od ws (g2.ex fun a u e => ?_)⟩) (fun od => .inl ⟨od, ws, rfl⟩) True.intro q
  show upd W.i p _ a = some u
  rw [upd_ne]
  · exact e
  · intro z; subst z; rw [hi] at e; cases e
theorem e_lockT {kvs : List (List Key × PD)} (j : Nat) (hp : μ[j]? = some (p, .dT kvs)) (h : ∀ W od ws, Kv Γ.K W.i ws kvs → Ev (Γ.lk W (μ.eraseIdx j) (.ref p, .ft od ws)) te δ (μ.eraseIdx j) (.d d) (μ.eraseIdx j)) : Ev Γ (tLockE te) δ μ (.d d) μ := fun σ W A Q q => by
  obtain ⟨ws, g1, g2⟩ := A.rdT (List.mem_of_getElem? hp)
  have hi : W.i p = none := (A.ow.fr _ (List.mem_of_getElem? hp)).1
  refine lock_gen (g := dN) j A hp g1 (fun od => ⟨.ft od ws, ⟨p, rfl, upd_same⟩, h _ od ws (g2.ex fun a u e => ?_)⟩) (fun od => .inr ⟨od, ws, rfl⟩) True.intro q
  show upd W.i p _ a = some u
  rw [upd_ne]
  · exact e
  · intro z; subst z; rw [hi] at e; cases e
/-! ### walks of locked dicts -/
theorem dpA_keys {I : Hp} : ∀ {k : List Key}, DpAll K I (k.map kV) (k.map kD)
  | [] => .nil
  | a :: r => .cons (kD_dp a) dpA_keys
theorem w_vals {od : Obj} {ws : List (Key × V)} {kvs : List (Key × PD)} (h : Ev Γ te δ μ (.r (.ref p)) μ1) (hg : (.ref p, Sv.fk od ws) ∈ Γ.gh) (hv : Kv Γ.K Γ.W0.i ws kvs) : EvW Γ (iVals te) δ μ (kvs.map fun e => .d e.2) μ1 := fun σ W A R r =>
  h σ W A _ fun v W1 A1 l1 h1 => by
    cases h1
    obtain ⟨p', e, g1⟩ := A1.gh _ hg
    cases e
    have kv1 : Kv Γ.K W1.i ws kvs := hv.ex A1.bs.i
    have hl := hv.len
    -- the values, as ghosts
    refine ⟨p, od, ws, rfl, W1.s _ _ g1, r _ ((.ref p, Sv.fk od ws) :: (ws.zip kvs).map fun e => (e.1.2, Sv.d e.2.2)) W1 A1 l1 (fun g hg => ?_) ⟨fun i W hi hg => ?_, fun W hg => ?_, fun i W x H' hi hg y => ?_⟩⟩
    · rcases List.mem_cons.mp hg with rfl | hg
      · exact ⟨p, rfl, g1⟩
      · obtain ⟨e, he, rfl⟩ := List.mem_map.mp hg
        obtain ⟨i, hi, q⟩ := List.mem_iff_getElem.mp he
        rw [List.getElem_zip] at q
        subst q
        have hi1 : i < ws.length := by
          have := hi
          simp at this
          omega
        obtain ⟨d, e1, e2⟩ := kv1.get (i := i) (k := ws[i].1) (v := ws[i].2) (by rw [List.getElem?_eq_getElem hi1])
        have hi2 : i < kvs.length := by omega
        rw [List.getElem?_eq_getElem hi2] at e1
        have e1 := Option.some.inj e1
        show Dp _ _ ws[i].2 (kvs[i].2)
        rw [e1]
        exact e2
    · obtain ⟨p', e, g2⟩ := hg _ List.mem_cons_self
      cases e
      exact ⟨W.s _ _ g2, by rw [hl]; simpa using hi⟩
    · obtain ⟨p', e, g2⟩ := hg _ List.mem_cons_self
      cases e
      exact ⟨W.s _ _ g2, by rw [hl]; simp⟩
    · obtain ⟨rfl, k, e⟩ := y
      have hi2 : i < kvs.length := by simpa using hi
      have hi1 : i < ws.length := by omega
      rw [List.getElem?_eq_getElem hi1] at e
      have e := Option.some.inj e
      refine ⟨W, .d kvs[i].2, rfl, LeX.refl _ W, by simp [hi2], ?_⟩
      have := hg (ws[i].2, .d kvs[i].2) (List.mem_cons_of_mem _ (List.mem_map.mpr ⟨(ws[i], kvs[i]), List.mem_iff_getElem.mpr ⟨i, by simp; omega, by rw [List.getElem_zip]⟩, rfl⟩))
      rw [e] at this
      exact this
theorem w_itemsT {od : Obj} {ws : List (List Key × V)} {kvs : List (List Key × PD)} (h : Ev Γ te δ μ (.r (.ref p)) μ1) (hg : (.ref p, Sv.ft od ws) ∈ Γ.gh) (hv : Kv Γ.K Γ.W0.i ws kvs) : EvW Γ (iItemsT te) δ μ (kvs.map fun e => dU [.tuple (e.1.map kD), e.2]) μ1 := fun σ W A R r =>
  h σ W A _ fun v W1 A1 l1 h1 => by
    cases h1
    obtain ⟨p', e, g1⟩ := A1.gh _ hg
    cases e
    have kv1 : Kv Γ.K W1.i ws kvs := hv.ex A1.bs.i
    have hl := hv.len
    refine ⟨p, od, ws, rfl, W1.s _ _ g1, r _ ((.ref p, Sv.ft od ws) :: (ws.zip kvs).map fun e => (e.1.2, Sv.d e.2.2)) W1 A1 l1 (fun g hg => ?_) ⟨fun i W hi hg => ?_, fun W hg => ?_, fun i W x H' hi hg y => ?_⟩⟩
    · rcases List.mem_cons.mp hg with rfl | hg
      · exact ⟨p, rfl, g1⟩
      · obtain ⟨e, he, rfl⟩ := List.mem_map.mp hg
        obtain ⟨i, hi, q⟩ := List.mem_iff_getElem.mp he
        rw [List.getElem_zip] at q
        subst q
        have hi1 : i < ws.length := by
          have := hi
          simp at this
          omega
        obtain ⟨d, e1, e2⟩ := kv1.get (i := i) (k := ws[i].1) (v := ws[i].2) (by rw [List.getElem?_eq_getElem hi1])
        have hi2 : i < kvs.length := by omega
        rw [List.getElem?_eq_getElem hi2] at e1
        have e1 := Option.some.inj e1
        show Dp _ _ ws[i].2 (kvs[i].2)
        rw [e1]
        exact e2
    · obtain ⟨p', e, g2⟩ := hg _ List.mem_cons_self
      cases e
      exact ⟨W.s _ _ g2, by rw [hl]; simpa using hi⟩
    · obtain ⟨p', e, g2⟩ := hg _ List.mem_cons_self
      cases e
      exact ⟨W.s _ _ g2, by rw [hl]; simp⟩
    · obtain ⟨T, k, v, q, e, rfl, hq, hT, rfl⟩ := y
      have hi2 : i < kvs.length := by simpa using hi
      have hi1 : i < ws.length := by omega
      rw [List.getElem?_eq_getElem hi1] at e
      have e := Option.some.inj e
      have ek : kvs[i].1 = k := by
        obtain ⟨d, e1, _⟩ := kv1.get (i := i) (k := ws[i].1) (v := ws[i].2) (by rw [List.getElem?_eq_getElem hi1])
        rw [List.getElem?_eq_getElem hi2] at e1
        have e1 := Option.some.inj e1
        rw [e1, e]
      have hv2 : SvOk Γ.K W.i v (.d kvs[i].2) := by
        have := hg (ws[i].2, .d kvs[i].2) (List.mem_cons_of_mem _ (List.mem_map.mpr ⟨(ws[i], kvs[i]), List.mem_iff_getElem.mpr ⟨i, by simp; omega, by rw [List.getElem_zip]⟩, rfl⟩))
        rw [e] at this
        exact this
      have hTi : W.i T = none := Wd.none_of hT
      have hqT : q ≠ T := by intro z; subst z; rw [hT] at hq; cases hq
      let W' : Wd := ⟨upd (upd W.i q (.tup (k.map kV))) T (.tup [.ref q, v]), upd W.h T (.tup [.ref q, v]), fun a u h => by
        by_cases e : a = T
        · subst e
          rw [upd_same] at h ⊢
          exact h
        · rw [upd_ne e] at h ⊢
          by_cases e2 : a = q
          · subst e2
            rw [upd_same] at h
            rw [← h]
            exact hq
          · rw [upd_ne e2] at h
            exact W.s a u h⟩
      have i1 : Same W.i W'.i := fun a u h => by
        show upd (upd W.i q (.tup (k.map kV))) T (.tup [.ref q, v]) a = some u
        rw [upd_ne (by intro z; subst z; rw [hTi] at h; cases h)]
        by_cases e2 : a = q
        · subst e2
          rw [upd_same, ← hq, W.s _ _ h]
        · rw [upd_ne e2]; exact h
      refine ⟨W', dU [.tuple (kvs[i].1.map kD), kvs[i].2], rfl, ⟨i1, fun a u h _ => ?_, fun a h1 h2 => ?_, fun a h => ?_, fun a h => mx_ne hT h⟩, by simp [hi2], ?_⟩
      · show upd W.h T _ a = some u
        rw [upd_ne (by intro z; subst z; rw [hT] at h; cases h)]; exact h
      · show upd (upd W.i q (.tup (k.map kV))) T (.tup [.ref q, v]) a = none
        rw [upd_ne (by intro z; subst z; exact h2.ne hT)]
        rw [upd_ne]
        · exact h1
        · intro z
          subst z
          obtain ⟨o, e1, e2⟩ := h2
          rw [hq] at e1
          cases e1
          exact e2 _ rfl
      · show upd W.h T _ a ≠ none
        by_cases e : a = T
        · subst e; rw [upd_same]; simp
        · rw [upd_ne e]; exact h
      · have hq' : W'.i q = some (.tup (k.map kV)) := by
          show upd (upd W.i q (.tup (k.map kV))) T (.tup [.ref q, v]) q = _
          rw [upd_ne hqT, upd_same]
        have hT' : W'.i T = some (.tup [.ref q, v]) := upd_same
        rw [ek]
        exact Dp.tup (SqT.of hT') (.cons (Dp.tup (SqT.of hq') dpA_keys) (.cons (hv2.ex i1) .nil))
/-! ### an exception -/
/-- an expression that does not come back -/
def EvX (Γ : Ga) (te : TE) (δ : De) (μ : Mu) : Prop := ∀ σ W, Ast Γ σ W δ μ → ∀ Q : VK, te σ W.h Q
theorem x_raise {E : XK} {C : Addr} {m' : Mu} (hD : OcOk Γ.K Γ.W0 Γ.F D.rt E (.exc C m')) (hm : m'.Sublist μ) : Sx Γ (fun _ _ H => E (.ref C) none H) D δ μ := fun σ W A =>
  hD W A.bs ⟨fun e he => A.ow.ok e (hm.subset he), fun e he => A.ow.fr e (hm.subset he), A.ow.nd.sublist (hm.map _)⟩
theorem x_dropX (h : EvX Γ te δ μ) : Sx Γ (tDrop te) D δ μ := fun σ W A => h σ W A _
theorem x_asgX {g : TG} (h : EvX Γ te δ μ) : Sx Γ (tAsg te g) D δ μ := fun σ W A => h σ W A _
theorem x_retX (h : EvX Γ te δ μ) : Sx Γ (tRet te) D δ μ := fun σ W A => h σ W A _
section
variable {as : List Sv} {m m' m2 rest : Mu} {n : Nat} {G : List Sv → Mu → Oc → Prop} {E : XK} {C : Addr} {ro : Bool} {R : VK}
theorem ex_call (hK : Γ.K = K) (h : EvA Γ tl δ μ as (m ++ rest)) (hG : G as m (.exc C m')) (e : m'.map (·.1) = m.map (·.1)) (may : ∀ b ∈ foot ro m, Γ.may b) (hD : OcOk Γ.K Γ.W0 Γ.F R E (.exc C m2)) (hm : m2.Sublist (m' ++ rest)) (hn : as.length = n := by rfl) : EvX Γ (tCall (spG K n ro G) [] E tl) δ μ := fun σ W A Q =>
  h σ W A _ fun vs W1 A1 l1 h1 => app_nil_sv (sp_ex hK A1 hn h1 hG e may fun W' A' => hD W' A'.bs ⟨fun e he => A'.ow.ok e (hm.subset he), fun e he => A'.ow.fr e (hm.subset he), A'.ow.nd.sublist (hm.map _)⟩)
theorem ex_meth {fs : List (Str × V)} {mn : Str} {p C0 : Addr} (hK : Γ.K = K) (ho : Ev Γ to δ μ (.r (.ref p)) μ1) (hp : (p, OO.ins C0 fs) ∈ μ1) (hl : fs.lookup mn = none) (h : EvA Γ tl δ μ1 as (m ++ rest)) (hG : G (.r (.ref p) :: as) m (.exc C m')) (e : m'.map (·.1) = m.map (·.1)) (may : ∀ b ∈ foot ro m, Γ.may b) (hD : OcOk Γ.K Γ.W0 Γ.F R E (.exc C m2)) (hm : m2.Sublist (m' ++ rest)) (hn : as.length + 1 = n := by rfl) :
    EvX Γ (tMeth C0 mn (spG K n ro G) [] E to tl) δ μ := fun σ W A Q =>
  ho σ W A _ fun x W1 A1 l1 h1 => by
    cases h1
    obtain ⟨dx, e1⟩ := A1.ow.ok _ hp
    refine ⟨p, dx, fs, rfl, e1, hl, h σ W1 A1 _ fun vs W2 A2 l2 h2 => ?_⟩
    rw [List.append_nil]
    exact sp_ex (as := .r (.ref p) :: as) hK A2 hn (.cons rfl h2) hG e may fun W' A' => hD W' A'.bs ⟨fun e he => A'.ow.ok e (hm.subset he), fun e he => A'.ow.fr e (hm.subset he), A'.ow.nd.sublist (hm.map _)⟩
theorem n_meth {fs : List (Str × V)} {mn : Str} {p C0 : Addr} {k : Nat} {sn : List Addr → Sv} {mw : List Addr → Mu} (hK : Γ.K = K) (ho : Ev Γ to δ μ (.r (.ref p)) μ1) (hp : (p, OO.ins C0 fs) ∈ μ1) (hl : fs.lookup mn = none) (h : EvA Γ tl δ μ1 as μ2) (hG : G (.r (.ref p) :: as) m (.new k sn mw)) (hm : m.Sublist μ2) (ha : ∀ ps, ps.length = k → ∀ e ∈ mw ps, e.1 ∈ ps) (hn : as.length + 1 = n := by rfl) :
    EvN Γ (tMeth C0 mn (spG K n true G) [] E to tl) δ μ k sn mw μ2 := fun σ W A Q q =>
  ho σ W A _ fun x W1 A1 l1 h1 => by
    cases h1
    obtain ⟨dx, e1⟩ := A1.ow.ok _ hp
    refine ⟨p, dx, fs, rfl, e1, hl, h σ W1 A1 _ fun vs W2 A2 l2 h2 => ?_⟩
    rw [List.append_nil]
    exact sp_roN (as := .r (.ref p) :: as) hK A2 hm hn (.cons rfl h2) hG ha fun ps v W' k1 k2 A' l' h' => q ps v W' k1 k2 A' ((l1.trans l2).trans l') h'
theorem n_methM {fs : List (Str × V)} {mn : Str} {p C0 : Addr} {k : Nat} {sn : List Addr → Sv} {mw : List Addr → Mu} (hK : Γ.K = K) (ho : Ev Γ to δ μ (.r (.ref p)) μ1) (hp : (p, OO.ins C0 fs) ∈ μ1) (hl : fs.lookup mn = none) (h : EvA Γ tl δ μ1 as (m ++ rest)) (hG : G (.r (.ref p) :: as) m (.new k sn fun ps => mw ps ++ m')) (e : m'.map (·.1) = m.map (·.1)) (may : ∀ b ∈ m.map (·.1), Γ.may b) (ha : ∀ ps, ps.length = k → ∀ e ∈ mw ps, e.1 ∈ ps) (hn : as.length + 1 = n := by rfl) :
    EvN Γ (tMeth C0 mn (spG K n false G) [] E to tl) δ μ k sn mw (m' ++ rest) := fun σ W A Q q =>
  ho σ W A _ fun x W1 A1 l1 h1 => by
    cases h1
    obtain ⟨dx, e1⟩ := A1.ow.ok _ hp
    refine ⟨p, dx, fs, rfl, e1, hl, h σ W1 A1 _ fun vs W2 A2 l2 h2 => ?_⟩
    rw [List.append_nil]
    exact sp_rwN (as := .r (.ref p) :: as) hK A2 hn (.cons rfl h2) hG ha e may fun ps v W' k1 k2 A' l' h' => q ps v W' k1 k2 A' ((l1.trans l2).trans l') h'
/-- C(), C an own class whose __init__ fills the new instance -/
theorem n_make {C0 : Addr} {k : Nat} {fs : List Addr → Mu} (hK : Γ.K = K) (hG : ∀ a, G [.r (.ref a)] [(a, .ins C0 [])] (.new k (fun _ => dN) fun ps => fs (a :: ps))) (ha : ∀ ps, ps.length = k + 1 → ∀ e ∈ fs ps, e.1 ∈ ps) :
    EvN Γ (tMake C0 (spG K 1 false G) [] E tNil) δ μ (k + 1) s1 fs μ := fun σ W A Q q x dx hx hdx hne => by
  subst hK
  have n1 : (W.wr dx (.own x) (Wd.none_of hdx)).h x = none := by
    show upd W.h dx (.own x) x = none
    rw [upd_ne (fun z => hne z.symm)]; exact hx
  let W1 := (W.wr dx (.own x) (Wd.none_of hdx)).wr x (.ins C0 dx []) (Wd.none_of n1)
  have l1 : Le W W1 := (le_new hdx).trans (le_new n1)
  have hW1x : W1.h x = some (.ins C0 dx []) := upd_same
  have o1 : Owns Γ.K W1 [(x, .ins C0 [])] := ⟨fun e he => by
    cases List.mem_singleton.mp he
    exact ⟨dx, hW1x⟩, fun e he => by
    cases List.mem_singleton.mp he
    exact ⟨(show W.i x = none from Wd.none_of hx), by rw [hW1x]; simp⟩, by simp⟩
  refine ⟨W1, [.r (.ref x)], [(x, .ins C0 [])], _, rfl, .cons rfl .nil, o1, rfl, hG x, fun ps v W' h1 h2 l h o => ?_⟩
  refine ⟨svN h, ?_⟩
  have l2 : Le W W' := by
    refine ⟨fun a u e => l.i a u (l1.i a u e), fun a u e _ => l.h a u (l1.h a u e fun z => nomatch z) fun z => ?_, fun a e1 e2 => l.n a (l1.n a e1 e2) (l1.m a e2), fun a e => l.d a (l1.d a e), fun a e => l.m a (l1.m a e)⟩
    have z : a = x := by simpa [foot] using z
    subst z
    rw [hx] at e; cases e
  have fr1 : ∀ p ∈ x :: ps, W.h p = none := fun p hp => by
    rcases List.mem_cons.mp hp with rfl | hp
    · exact hx
    · have := h2 p hp
      cases z : W.h p with
      | none => rfl
      | some u => rw [l1.h p u z (fun z => nomatch z)] at this; cases this
  have fr : ∀ p ∈ x :: ps, Γ.W0.h p = none ∧ p ∉ Γ.O ∧ p ∉ μ.map (·.1) := fun p hp => A.fresh (fr1 p hp)
  have hl : (x :: ps).length = k + 1 := by simp [h1]
  exact q (x :: ps) _ W' hl (fun p hp => (fr p hp).2) ((A.le l2).adds o (fun e he => (fr _ (ha _ hl e he)).2.2) fun e he => (fr _ (ha _ hl e he)).1) l2.i rfl
end
end
end Sf
namespace Sf
open PySem L2
/-! ### lists of pairs -/
section
variable {κ α : Type} [DecidableEq κ]
def aget (l : List (κ × α)) (k : κ) : Option α := (l.find? fun e => decide (e.1 = k)).map (·.2)
def aput (l : List (κ × α)) (k : κ) (v : α) : List (κ × α) :=
  if (l.any fun e => decide (e.1 = k)) = true then l.map fun e => if e.1 = k then (e.1, v) else e else l ++ [(k, v)]
def adrop (l : List (κ × α)) (k : κ) : List (κ × α) := l.filter fun e => decide (e.1 ≠ k)
theorem aget_nil {k : κ} : aget ([] : List (κ × α)) k = none := rfl
theorem aget_cons {e : κ × α} {l : List (κ × α)} {k : κ} : aget (e :: l) k = if e.1 = k then some e.2 else aget l k := by
  unfold aget
  rw [List.find?_cons]
  by_cases h : e.1 = k <;> simp [h]
theorem aput_nil {k : κ} {v : α} : aput [] k v = [(k, v)] := rfl
theorem aput_cons {e : κ × α} {l : List (κ × α)} {k : κ} {v : α} (nd : ((e :: l).map (·.1)).Nodup) : aput (e :: l) k v = if e.1 = k then (k, v) :: l else e :: aput l k v := by
  unfold aput
  rw [List.any_cons]
  by_cases h : e.1 = k
  · have hn := (List.nodup_cons.mp nd).1
    simp only [h, decide_true, Bool.true_or, if_true, List.map_cons]
    congr 1
    refine List.map_congr_left (fun x hx => ?_) |>.trans (List.map_id l)
    rw [if_neg (fun z => hn (by show e.1 ∈ _; rw [h, ← z]; exact List.mem_map_of_mem hx))]
    rfl
  · simp only [h, decide_false, Bool.false_or, if_false, List.map_cons, if_neg h]
    split <;> simp
theorem aput_keys {l : List (κ × α)} {k : κ} {v : α} : (aput l k v).map (·.1) = if k ∈ l.map (·.1) then l.map (·.1) else l.map (·.1) ++ [k] := by
  unfold aput
  have e : (l.any fun e => decide (e.1 = k)) = decide (k ∈ l.map (·.1)) := by
    rw [Bool.eq_iff_iff]
    simp
  rw [e]
  by_cases h : k ∈ l.map (·.1)
  · rw [if_pos h, if_pos (by simpa using h), List.map_map]
    refine List.map_congr_left fun x _ => ?_
    simp only [Function.comp]
    split <;> rfl
  · rw [if_neg h, if_neg (by simpa using h), List.map_append]
    rfl
theorem aput_nd {l : List (κ × α)} {k : κ} {v : α} (nd : (l.map (·.1)).Nodup) : ((aput l k v).map (·.1)).Nodup := by
  rw [aput_keys]
  split
  · exact nd
  · rename_i h
    rw [List.nodup_append]
    exact ⟨nd, by simp, fun x hx y hy e => h (by simp at hy; subst hy; exact e ▸ hx)⟩
theorem aput_len {l : List (κ × α)} {k : κ} {v : α} : (aput l k v).length ≤ l.length + 1 := by
  unfold aput
  split
  · simp
  · simp
theorem adrop_nd {l : List (κ × α)} {k : κ} (nd : (l.map (·.1)).Nodup) : ((adrop l k).map (·.1)).Nodup := nd.sublist ((List.filter_sublist).map _)
theorem adrop_len {l : List (κ × α)} {k : κ} : (adrop l k).length ≤ l.length := List.length_filter_le _ _
theorem aget_put {l : List (κ × α)} {k j : κ} {v : α} : aget (aput l k v) j = if j = k then some v else aget l j := by
  unfold aput
  by_cases h : (l.any fun e => decide (e.1 = k)) = true
  · rw [if_pos h]
    induction l with
    | nil => simp at h
    | cons e l ih =>
      rw [List.map_cons, aget_cons, aget_cons]
      by_cases h1 : e.1 = k
      · rw [if_pos h1]
        by_cases h2 : j = k
        · simp [h1, h2]
        · have h3 : ¬ e.1 = j := fun z => h2 (z.symm.trans h1)
          have h4 : ¬ k = j := fun z => h2 z.symm
          rw [if_neg h3, if_neg h2, if_neg h3]
          by_cases hr : (l.any fun e => decide (e.1 = k)) = true
          · rw [ih hr, if_neg h2]
          · congr 1
            refine (List.map_congr_left fun x hx => ?_).trans (List.map_id l)
            rw [if_neg]
            · rfl
            · intro z
              exact hr (List.any_eq_true.mpr ⟨x, hx, by simpa using z⟩)
      · rw [if_neg h1]
        have hr : (l.any fun e => decide (e.1 = k)) = true := by simpa [h1] using h
        rw [ih hr]
        by_cases h2 : e.1 = j
        · have h3 : ¬ j = k := fun z => h1 (h2.trans z)
          rw [if_pos h2, if_neg h3, if_pos h2]
        · rw [if_neg h2, if_neg h2]
  · rw [if_neg h]
    induction l with
    | nil =>
      rw [List.nil_append, aget_cons, aget_nil]
      by_cases h2 : j = k
      · simp [h2]
      · rw [if_neg h2, if_neg (fun z => h2 z.symm)]
    | cons e l ih =>
      have h0 : ¬ e.1 = k ∧ ¬ (l.any fun e => decide (e.1 = k)) = true := by simpa using h
      rw [List.cons_append, aget_cons, aget_cons, ih h0.2]
      by_cases h2 : e.1 = j
      · have h3 : ¬ j = k := fun z => h0.1 (h2.trans z)
        rw [if_pos h2, if_neg h3, if_pos h2]
      · rw [if_neg h2, if_neg h2]
theorem aget_drop {l : List (κ × α)} {k j : κ} : aget (adrop l k) j = if j = k then none else aget l j := by
  unfold adrop
  induction l with
  | nil => rw [List.filter_nil, aget_nil]; simp
  | cons e l ih =>
    by_cases h1 : e.1 = k
    · rw [List.filter_cons_of_neg (by simp [h1]), ih, aget_cons]
      by_cases h2 : j = k
      · rw [if_pos h2, if_pos h2]
      · rw [if_neg h2, if_neg h2, if_neg (fun z => h2 (z.symm.trans h1))]
    · rw [List.filter_cons_of_pos (by simp [h1]), aget_cons, aget_cons, ih]
      by_cases h2 : j = k
      · rw [if_pos h2, if_neg (fun z => h1 (z.trans h2)), if_pos h2]
      · by_cases h3 : e.1 = j <;> simp [h2, h3]
theorem aget_mem {l : List (κ × α)} {k : κ} {v : α} (h : aget l k = some v) : (k, v) ∈ l := by
  induction l with
  | nil => cases h
  | cons e l ih =>
    rw [aget_cons] at h
    by_cases h1 : e.1 = k
    · rw [if_pos h1] at h
      cases h
      rw [← h1]
      exact List.mem_cons_self
    · rw [if_neg h1] at h
      exact List.mem_cons_of_mem _ (ih h)
theorem aget_of_mem {l : List (κ × α)} {k : κ} {v : α} (nd : (l.map (·.1)).Nodup) (h : (k, v) ∈ l) : aget l k = some v := by
  induction l with
  | nil => cases h
  | cons e l ih =>
    rw [aget_cons]
    rcases List.mem_cons.mp h with rfl | h
    · rw [if_pos rfl]
    · have n := List.nodup_cons.mp nd
      have hk : k ∈ l.map (·.1) := List.mem_map_of_mem h
      rw [if_neg (fun z => n.1 (by show e.1 ∈ _; rw [z]; exact hk)), ih n.2 h]
theorem aget_none {l : List (κ × α)} {k : κ} : aget l k = none ↔ k ∉ l.map (·.1) := by
  induction l with
  | nil => simp [aget_nil]
  | cons e l ih =>
    rw [aget_cons]
    by_cases h : e.1 = k
    · simp [h]
    · rw [if_neg h, ih]
      simp [h, Ne.symm h]
end
/-! ### as dicts -/
section
variable {κ κ' α : Type} [DecidableEq κ] [DecidableEq κ'] {enc : κ → κ'} {val : α → PD}
theorem valD_enc (inj : ∀ a b, enc a = enc b → a = b) (k : κ) : ∀ l : List (κ × α), valD (l.map fun e => (enc e.1, val e.2)) (enc k) = (aget l k).map val
  | [] => rfl
  | e :: l => by
    rw [aget_cons]
    by_cases h : e.1 = k
    · simp [valD, h]
    · have h2 : ¬ enc e.1 = enc k := fun z => h (inj _ _ z)
      have := valD_enc inj k l
      simp [valD, h, h2] at this ⊢
      exact this
theorem putD_enc (inj : ∀ a b, enc a = enc b → a = b) (k : κ) (v : α) (l : List (κ × α)) : putD (l.map fun e => (enc e.1, val e.2)) (enc k) (val v) = (aput l k v).map fun e => (enc e.1, val e.2) := by
  unfold putD aput
  have e : (l.map fun e => (enc e.1, val e.2)).any (fun kv => decide (kv.1 = enc k)) = l.any fun e => decide (e.1 = k) := by
    rw [List.any_map]
    congr 1
    funext x
    simp only [Function.comp]
    by_cases h : x.1 = k
    · simp [h]
    · have h2 : ¬ enc x.1 = enc k := fun z => h (inj _ _ z)
      simp [h, h2]
  rw [e]
  split
  · rw [List.map_map, List.map_map]
    refine List.map_congr_left fun x _ => ?_
    simp only [Function.comp]
    by_cases h : x.1 = k
    · simp [h]
    · rw [if_neg h, if_neg (fun z => h (inj _ _ z))]
  · rw [List.map_append]
    rfl
theorem dropD_enc (inj : ∀ a b, enc a = enc b → a = b) (k : κ) (l : List (κ × α)) : dropD (l.map fun e => (enc e.1, val e.2)) (enc k) = (adrop l k).map fun e => (enc e.1, val e.2) := by
  unfold dropD adrop
  rw [List.filter_map]
  congr 1
  refine List.filter_congr fun x _ => ?_
  simp only [Function.comp]
  by_cases h : x.1 = k
  · simp [h]
  · have h2 : ¬ enc x.1 = enc k := fun z => h (inj _ _ z)
    simp [h, h2]
end
/-! ### a floor -/
structure FM where
  am : List ((Int × Str) × Int)
  st : List (Int × (Int × Str × Int))
  last : Int
  to : List (Str × (Int × Int × Int))
  de : List PD
namespace FM
def new : FM := ⟨[], [], 0, [], []⟩
def there (M : FM) (p : Int) (w : Str) : Int := (aget M.am (p, w)).getD 0
def held (M : FM) (p : Int) (w : Str) : Int := ((M.st.filter fun e => decide (e.2.1 = p) && decide (e.2.2.1 = w)).map fun e => e.2.2.2).sum
def free (M : FM) (p : Int) (w : Str) : Int := M.there p w - M.held p w
def whole (M : FM) (w : Str) : Int := ((M.am.filter fun e => decide (e.1.2 = w)).map (·.2)).sum
def total (M : FM) (w : Str) : Int × Int × Int := (aget M.to w).getD (0, 0, 0)
def places (M : FM) (w : Str) : List Int := srt ((M.am.filter fun e => decide (e.1.2 = w) && decide (e.2 > 0)).map (·.1.1))
def numbers (M : FM) : List Int := srt (M.st.map (·.1))
def change (M : FM) (p : Int) (w : Str) (n : Int) : FM := { M with am := aput M.am (p, w) (M.there p w + n) }
def put (M : FM) (p : Int) (w : Str) (n : Int) : FM := { M with am := aput M.am (p, w) n }
def tell (M : FM) (w : Str) (a b c : Int) : FM := { M with to := aput M.to w ((M.total w).1 + a, (M.total w).2.1 + b, (M.total w).2.2 + c) }
def note (M : FM) (d : PD) : FM := { M with de := M.de ++ [d] }
def begun (M : FM) (p : Int) (w : Str) (n : Int) : FM := { M with last := M.last + 1, st := aput M.st (M.last + 1) (p, w, n) }
def rehold (M : FM) (k p : Int) (w : Str) (n : Int) : FM := { M with st := aput M.st k (p, w, n) }
def ended (M : FM) (k : Int) : FM := { M with st := adrop M.st k }
/-- no dict, no list of it is long -/
def sz (M : FM) (n : Nat) : Prop := M.am.length ≤ n ∧ M.st.length ≤ n ∧ M.to.length ≤ n ∧ M.de.length ≤ n
theorem sz.mono {M : FM} {n k : Nat} (h : M.sz n) (hk : n ≤ k) : M.sz k := ⟨Nat.le_trans h.1 hk, Nat.le_trans h.2.1 hk, Nat.le_trans h.2.2.1 hk, Nat.le_trans h.2.2.2 hk⟩
theorem sz_new {n : Nat} : new.sz n := ⟨Nat.zero_le _, Nat.zero_le _, Nat.zero_le _, Nat.zero_le _⟩
theorem sz.change {M : FM} {n : Nat} {p m : Int} {w : Str} (h : M.sz n) : (M.change p w m).sz (n + 1) :=
  ⟨Nat.le_trans aput_len (Nat.succ_le_succ h.1), Nat.le_succ_of_le h.2.1, Nat.le_succ_of_le h.2.2.1, Nat.le_succ_of_le h.2.2.2⟩
theorem sz.put {M : FM} {n : Nat} {p m : Int} {w : Str} (h : M.sz n) : (M.put p w m).sz (n + 1) :=
  ⟨Nat.le_trans aput_len (Nat.succ_le_succ h.1), Nat.le_succ_of_le h.2.1, Nat.le_succ_of_le h.2.2.1, Nat.le_succ_of_le h.2.2.2⟩
theorem sz.tell {M : FM} {n : Nat} {a b c : Int} {w : Str} (h : M.sz n) : (M.tell w a b c).sz (n + 1) :=
  ⟨Nat.le_succ_of_le h.1, Nat.le_succ_of_le h.2.1, Nat.le_trans aput_len (Nat.succ_le_succ h.2.2.1), Nat.le_succ_of_le h.2.2.2⟩
theorem sz.note {M : FM} {n : Nat} {d : PD} (h : M.sz n) : (M.note d).sz (n + 1) :=
  ⟨Nat.le_succ_of_le h.1, Nat.le_succ_of_le h.2.1, Nat.le_succ_of_le h.2.2.1, by
    show (M.de ++ [d]).length ≤ n + 1
    rw [List.length_append]
    exact Nat.succ_le_succ h.2.2.2⟩
theorem sz.begun {M : FM} {n : Nat} {p m : Int} {w : Str} (h : M.sz n) : (M.begun p w m).sz (n + 1) :=
  ⟨Nat.le_succ_of_le h.1, Nat.le_trans aput_len (Nat.succ_le_succ h.2.1), Nat.le_succ_of_le h.2.2.1, Nat.le_succ_of_le h.2.2.2⟩
theorem sz.rehold {M : FM} {n : Nat} {k p m : Int} {w : Str} (h : M.sz n) : (M.rehold k p w m).sz (n + 1) :=
  ⟨Nat.le_succ_of_le h.1, Nat.le_trans aput_len (Nat.succ_le_succ h.2.1), Nat.le_succ_of_le h.2.2.1, Nat.le_succ_of_le h.2.2.2⟩
theorem sz.ended {M : FM} {n : Nat} {k : Int} (h : M.sz n) : (M.ended k).sz n := ⟨h.1, Nat.le_trans adrop_len h.2.1, h.2.2.1, h.2.2.2⟩
/-! the deeds -/
def dU2 (w : Str) (ds : List PD) : PD := .tuple (.str w :: ds)
def come (M : FM) (p : Int) (w : Str) (n : Int) : FM := ((M.change p w n).tell w n 0 0).note (.tuple [.str "come", .int p, .str w, .int n])
def go (M : FM) (p : Int) (w : Str) (n : Int) : FM := ((M.change p w (-n)).tell w 0 n 0).note (.tuple [.str "go", .int p, .str w, .int n])
def move (M : FM) (p q : Int) (w : Str) (n : Int) : FM := ((M.change p w (-n)).change q w n).note (.tuple [.str "move", .int p, .int q, .str w, .int n])
def hold (M : FM) (p : Int) (w : Str) (n : Int) : FM := (M.note (.tuple [.str "hold", .int p, .str w, .int n])).begun p w n
def let' (M : FM) (k : Int) : FM := (M.ended k).note (.tuple [.str "let", .int k])
def take (M : FM) (k : Int) (h : Int × Str × Int) : FM := (((M.ended k).change h.1 h.2.1 (-h.2.2)).tell h.2.1 0 h.2.2 0).note (.tuple [.str "take", .int k])
def shift (M : FM) (k : Int) (h : Int × Str × Int) (g : Int) : FM := (((M.change h.1 h.2.1 (-h.2.2)).change g h.2.1 h.2.2).rehold k g h.2.1 h.2.2).note (.tuple [.str "shift", .int k, .int g])
end FM
def encA (k : Int × Str) : List Key := [.inl k.1, .inr k.2]
def encS (k : Int) : Key := .inl k
def encT (k : Str) : Key := .inr k
def hV (h : Int × Str × Int) : PD := .tuple [.int h.1, .str h.2.1, .int h.2.2]
def tV (t : Int × Int × Int) : PD := .tuple [.int t.1, .int t.2.1, .int t.2.2]
theorem encA_inj : ∀ a b, encA a = encA b → a = b := fun a b h => by
  cases a; cases b
  simp [encA] at h
  simp [h]
theorem encS_inj : ∀ a b, encS a = encS b → a = b := fun a b h => Sum.inl.inj h
theorem encT_inj : ∀ a b, encT a = encT b → a = b := fun a b h => Sum.inr.inj h
abbrev amD (l : List ((Int × Str) × Int)) : List (List Key × PD) := l.map fun e => (encA e.1, PyData.int e.2)
abbrev stD (l : List (Int × (Int × Str × Int))) : List (Key × PD) := l.map fun e => (encS e.1, hV e.2)
abbrev toD (l : List (Str × (Int × Int × Int))) : List (Key × PD) := l.map fun e => (encT e.1, tV e.2)
abbrev flds (d1 d2 d3 l : Addr) (n : Int) : List (Str × V) := [("amounts", .ref d1), ("standing", .ref d2), ("last", .int n), ("totals", .ref d3), ("deeds", .ref l)]
/-- a floor's objects -/
abbrev flo (C a d1 d2 d3 l : Addr) (M : FM) : Mu := [(a, .ins C (flds d1 d2 d3 l M.last)), (d1, .dT (amD M.am)), (d2, .dK (stD M.st)), (d3, .dK (toD M.to)), (l, .lst M.de)]
theorem val_am {l : List ((Int × Str) × Int)} {p : Int} {w : Str} : valD (amD l) [.inl p, .inr w] = (aget l (p, w)).map PyData.int := valD_enc (val := PyData.int) encA_inj (p, w) l
theorem put_am {l : List ((Int × Str) × Int)} {p : Int} {w : Str} {n : Int} : putD (amD l) [.inl p, .inr w] (.int n) = amD (aput l (p, w) n) := putD_enc (val := PyData.int) encA_inj (p, w) n l
theorem val_st {l : List (Int × (Int × Str × Int))} {k : Int} : valD (stD l) (.inl k) = (aget l k).map hV := valD_enc (val := hV) encS_inj k l
theorem put_st {l : List (Int × (Int × Str × Int))} {k : Int} {h : Int × Str × Int} : putD (stD l) (.inl k) (hV h) = stD (aput l k h) := putD_enc (val := hV) encS_inj k h l
theorem drop_st {l : List (Int × (Int × Str × Int))} {k : Int} : dropD (stD l) (.inl k) = stD (adrop l k) := dropD_enc (val := hV) encS_inj k l
theorem val_to {l : List (Str × (Int × Int × Int))} {k : Str} : valD (toD l) (.inr k) = (aget l k).map tV := valD_enc (val := tV) encT_inj k l
theorem put_to {l : List (Str × (Int × Int × Int))} {k : Str} {h : Int × Int × Int} : putD (toD l) (.inr k) (tV h) = toD (aput l k h) := putD_enc (val := tV) encT_inj k h l
theorem map_getD {α : Type} {f : α → PD} {o : Option α} {a : α} : (o.map f).getD (f a) = f (o.getD a) := by cases o <;> rfl
end Sf
namespace Sf
open PySem PySem.Spec PyProof.Rows L2
section
variable {Γ : Ga} {δ : De} {μ μ1 μ2 μ3 : Mu} {ta tb te : TE} {ds es : List PD} {K : PySem.W.Frag} {vs : List Nat} {s : Sv}
theorem EvW.to {wi : TI} {xs ys : List Sv} (h : EvW Γ wi δ μ xs μ1) (e : xs = ys) : EvW Γ wi δ μ ys μ1 := e ▸ h
theorem e_slU {tl th : TO} {lo hi : Option Int} (hK : Γ.K = K) (ha : Ev Γ ta δ μ (dU ds) μ1) (hl : EvO Γ tl δ μ1 lo μ2) (hh : EvO Γ th δ μ2 hi μ3) (hw : ¬ (HT.sIx ds.length 0 lo = 0 ∧ HT.sIx ds.length ds.length hi = ds.length)) : Ev Γ (tSl (rSlT K) ta tl th) δ μ (dU (cutD ds lo hi)) μ3 :=
  e_sl3 ha hl hh fun σ W v A h Q q => by
    subst hK
    obtain ⟨p, vs, rfl, h3, h4⟩ := svU h
    refine ⟨p, vs, rfl, sf_sqT W.s h3, by rw [h4.length]; exact hw, fun a hp => ?_⟩
    have l2 := le_put (o := .tup (cutV vs lo hi)) hp
    exact q _ (W.put a _ hp) l2 (.tup (SqT.of upd_same) ((dp_cut h4 lo hi).ex l2.i))
/-- eq of pairs -/
theorem eqv_pair {a c : Int} {b d : Str} : PyData.eqv (.tuple [.int a, .str b]) (.tuple [.int c, .str d]) = (decide (a = c) && decide (b = d)) := by
  simp [PyData.eqv, PyData.eqvAll]
  congr 1 <;> (rw [Bool.eq_iff_iff]; simp)
theorem eqv_pairI {a c b d : Int} : PyData.eqv (.tuple [.int a, .int b]) (.tuple [.int c, .int d]) = (decide (a = c) && decide (b = d)) := by
  simp [PyData.eqv, PyData.eqvAll]
  congr 1 <;> (rw [Bool.eq_iff_iff]; simp)
theorem eqv_ints : ∀ {xs ys : List Int}, PyData.eqvAll (xs.map .int) (ys.map .int) = decide (xs = ys)
  | [], [] => rfl
  | x :: xs, y :: ys => by
    rw [List.map_cons, List.map_cons, PyData.eqvAll, eqv_ints, PyData.eqv, Bool.eq_iff_iff]
    simp
  | [], y :: ys => by simp [PyData.eqvAll]
  | x :: xs, [] => by simp [PyData.eqvAll]
theorem eqv_list {xs ys : List Int} : PyData.eqv (.list (xs.map .int)) (.list (ys.map .int)) = decide (xs = ys) := by rw [PyData.eqv, eqv_ints]
end
/-! ### rules with the fragment named (in a block the reading may not speak of the block's names) -/
section
variable {X : Cx} {K : PySem.W.Frag} {pos apos cpos : Pos} {o e : Expr} {es : List Expr} {to te : TE} {t : TA}
theorem ix_list' (h : X.K = K) : IxR X (rIxL K) := h ▸ ix_list
theorem ix_tup' (h : X.K = K) : IxR X (rIxT K) := h ▸ ix_tup
theorem sl_list' (h : X.K = K) : L2.SlR X (rSlL K) := h ▸ sl_list
theorem sl_tup' (h : X.K = K) : L2.SlR X (rSlT K) := h ▸ sl_tup
theorem op_eqD' (h : X.K = K) (hu : X.A.units + 64 < cLine) : OpR X (compareOp .Eq) (rEqD K) := h ▸ op_eqD hu
theorem op_neD' (h : X.K = K) (hu : X.A.units + 64 < cLine) : OpR X (compareOp .NotEq) (rNeD K) := h ▸ op_neD hu
theorem call_isi' (h : X.K = K) : CallR X (.builtin "isinstance") (rIsi K) := h ▸ call_isi
theorem call_len_seq' (h : X.K = K) : CallR X (.builtin "len") (fun xs H Q => ∃ p ys, xs = [.ref p] ∧ (SqL K H p ys ∨ SqT K H p ys) ∧ Q (.int ys.length) H) := h ▸ call_len_seq
theorem cr_sum' (h : X.K = K) (hc : X.calm = true) : CallR X (.builtin "sum") (rSum K) := h ▸ cr_sum hc
theorem cr_sortedI' (h : X.K = K) : CallR X (.builtin "sorted") (rSortedI K) := h ▸ cr_sortedI
theorem call_list_of' (h : X.K = K) : CallR X (.type "list") (fun xs H Q => ∃ p ys, xs = [.ref p] ∧ (SqL K H p ys ∨ SqT K H p ys) ∧ ∀ l, H l = none → Q (.ref l) (upd H l (.lst ys))) := h ▸ call_list_of
theorem call_tuple_of' (h : X.K = K) : CallR X (.type "tuple") (fun xs H Q => ∃ p ys, xs = [.ref p] ∧ ((SqL K H p ys ∧ ∀ l, H l = none → Q (.ref l) (upd H l (.tup ys))) ∨ (SqT K H p ys ∧ Q (.ref p) H))) := h ▸ call_tuple_of
theorem pg_tup' {k : Nat} {t : TGs} {n : Nat} (h : X.K = K) (hc : X.calm = true) (hp : PGs X es t) (hn : (assignEach es X.env).length = n := by rfl) (hst : (assignEach es X.env).findIdx? (·.1) = none := by rfl) : PG X (.Tuple es k pos) (gTup K n t) := h ▸ pg_tup hc hp hn hst
theorem pe_fld' {f : Str} {ta : TE} (h : X.K = K) (he : PE X e ta) (hb : attributeBase e f X.env (eval e X.env) = eval e X.env) : PE X (.Attribute e f pos) (tFld K ta f) := h ▸ pe_fld he hb
theorem pi_list' {tg : Expr} (h : X.K = K) (hl : PE X e te) : PI X tg e (iList K te) := h ▸ pi_list hl
theorem pi_tup' {tg : Expr} (h : X.K = K) (hl : PE X e te) : PI X tg e (iTup K te) := h ▸ pi_tup hl
end
/-! ### what is refused -/
def isWh (d : PD) (a b : Int) : Bool := match d with
  | .int i => decide (a ≤ i) && decide (i ≤ b)
  | _ => false
theorem isWh_ok {d : PD} {a b : Int} : isWh d a b = true ↔ ∃ i, d = .int i ∧ a ≤ i ∧ i ≤ b := by
  cases d <;> simp [isWh]
def isWareB : PD → Bool
  | .str s => decide (1 ≤ s.length) && decide (s.length ≤ 20) && s.cps.toList.all fun z => decide (z ∈ letters.cps.toList)
  | _ => false
theorem letters_mem {z : Nat} : z ∈ letters.cps.toList ↔ isLet z := by
  have e : letters.cps.toList = (List.range 26).map (97 + ·) := by decide
  rw [e]
  unfold isLet
  simp
  constructor
  · rintro ⟨a, h, rfl⟩; omega
  · intro h; exact ⟨z - 97, by omega, by omega⟩
theorem isWareB_ok {d : PD} : isWareB d = true ↔ ∃ w, d = .str w ∧ WareOk w := by
  cases d with
  | str s =>
    simp only [isWareB, WareOk, Bool.and_eq_true, decide_eq_true_eq, List.all_eq_true, letters_mem, PyData.str.injEq, exists_eq_left']
    constructor
    · rintro ⟨⟨h1, h2⟩, h3⟩; exact ⟨h1, h2, h3⟩
    · rintro ⟨h1, h2, h3⟩; exact ⟨⟨h1, h2⟩, h3⟩
  | _ => simp [isWareB]
/-- no text of it is long -/
def stOk (d : PD) : Prop := ∀ s, d = .str s → s.length ≤ 100000
theorem stOk_int {i : Int} : stOk (.int i) := fun _ h => nomatch h
theorem WareOk.st {w : Str} (h : WareOk w) : stOk (.str w) := fun s e => by
  cases e
  have := h.2.1
  omega
theorem may_of {Γ : Ga} {m : Mu} {p : Addr} {o : OO} (i : Nat) (hF : Γ.F = foot false m) (h : m[i]? = some (p, o)) : Γ.may p := .inl (by
  rw [hF]
  exact List.mem_map_of_mem (f := fun e : Addr × OO => e.1) (List.mem_of_getElem? h))
section
variable {Γ : Ga} {δ : De} {μ μ1 μ2 : Mu} {to te : TE} {ta : TA} {as : List Sv} {m m' : Mu} {n : Nat} {G : List Sv → Mu → Oc → Prop} {s : Sv} {E : XK} {K : PySem.W.Frag} {D : Ends} {k : Nat} {sn : List Addr → Sv} {mn : List Addr → Mu}
theorem may_all {m0 : Mu} (hF : Γ.F = foot false m0) (h : m.map (·.1) = m0.map (·.1)) : ∀ b ∈ m.map (·.1), Γ.may b := fun b hb => .inl (by
  rw [hF, foot_false, ← h]
  exact hb)
theorem e_methM0 {p C : Addr} {fs : List (Str × V)} {mn : Str} (hK : Γ.K = K) (ho : Ev Γ to δ μ (.r (.ref p)) μ1) (hp : (p, OO.ins C fs) ∈ μ1) (hl : fs.lookup mn = none) (ha : EvA Γ ta δ μ1 as m) (hG : G (.r (.ref p) :: as) m (.ret s m')) (e : m'.map (·.1) = m.map (·.1)) (may : ∀ b ∈ m.map (·.1), Γ.may b) (hn : as.length + 1 = n := by rfl) :
    Ev Γ (tMeth C mn (spG K n false G) [] E to ta) δ μ s m' := by
  have := e_methM (rest := []) (E := E) hK ho hp hl (by rw [List.append_nil]; exact ha) hG e may hn
  rwa [List.append_nil] at this
theorem x_endNew (hn : ∀ σ H, D.rt .non H → D.nx σ H) (hD : OcOk Γ.K Γ.W0 Γ.F D.rt E (.new k sn mn)) (ps : List Addr) (hl : ps.length = k) (hs : sn ps = dN) (hp : ∀ p ∈ ps, p ∉ Γ.O ∧ p ∈ μ.map (·.1)) (hm : (mn ps).Perm μ) : Nx Γ D δ μ := fun σ W A => hn σ _
  (hD ps .non W hl (fun p h => fresh_of (W' := W) A (hp p h).2 (hp p h).1) A.bs (by rw [hs]; exact .non)
    ⟨fun e he => A.ow.ok e (hm.mem_iff.mp he), fun e he => A.ow.fr e (hm.mem_iff.mp he), ((hm.map _).nodup_iff).mpr A.ow.nd⟩)
end
/-! ### data that may be compared -/
def Shp (n : Nat) (d : PD) : Prop := PyData.canLay0 d = true ∧ PyData.depth d ≤ n
theorem Shp.ok {n : Nat} {d : PD} (h : Shp n d) (hn : n ≤ 64) : SeqAt.shaped d = true := by
  unfold SeqAt.shaped
  rw [h.1, Bool.true_and]
  exact decide_eq_true (Nat.le_trans h.2 hn)
theorem Shp.mono {n m : Nat} {d : PD} (h : Shp n d) (hn : n ≤ m) : Shp m d := ⟨h.1, Nat.le_trans h.2 hn⟩
theorem shp_int {i : Int} : Shp 0 (.int i) := ⟨rfl, Nat.le_refl _⟩
theorem shp_none : Shp 0 .none := ⟨rfl, Nat.le_refl _⟩
theorem shp_bool {b : Bool} : Shp 0 (.bool b) := ⟨rfl, Nat.le_refl _⟩
theorem shp_str {x : Str} (h : PyData.strOk x = true) : Shp 0 (.str x) := ⟨h, Nat.le_refl _⟩
theorem shp_all {n : Nat} : ∀ {ds : List PD}, (∀ d ∈ ds, Shp n d) → PyData.canLayAll0 ds = true ∧ PyData.depthAll ds ≤ n
  | [], _ => ⟨rfl, Nat.zero_le _⟩
  | d :: r, h => by
    have h1 := h d List.mem_cons_self
    have h2 := shp_all (ds := r) fun e he => h e (List.mem_cons_of_mem _ he)
    refine ⟨?_, ?_⟩
    · rw [PyData.canLayAll0, h1.1, h2.1]; rfl
    · rw [PyData.depthAll]
      exact Nat.max_le.mpr ⟨h1.2, h2.2⟩
theorem shp_list {n : Nat} {ds : List PD} (h : ∀ d ∈ ds, Shp n d) : Shp (n + 1) (.list ds) := by
  have := shp_all h
  exact ⟨by rw [PyData.canLay0]; exact this.1, by rw [PyData.depth]; exact Nat.succ_le_succ this.2⟩
theorem shp_tup {n : Nat} {ds : List PD} (h : ∀ d ∈ ds, Shp n d) : Shp (n + 1) (.tuple ds) := by
  have := shp_all h
  exact ⟨by rw [PyData.canLay0]; exact this.1, by rw [PyData.depth]; exact Nat.succ_le_succ this.2⟩
theorem shp_ints {ns : List Int} : Shp 1 (.list (ns.map .int)) := shp_list fun d h => by
  obtain ⟨i, _, rfl⟩ := List.mem_map.mp h
  exact shp_int
theorem shp_pair {i : Int} {x : Str} (h : PyData.strOk x = true) : Shp 1 (.tuple [.int i, .str x]) := shp_tup fun d hd => by
  simp at hd
  rcases hd with rfl | rfl
  · exact shp_int
  · exact shp_str h
theorem strOk_let {x : Str} (h : ∀ z ∈ x.cps.toList, isLet z) : PyData.strOk x = true := by
  unfold PyData.strOk
  rw [Array.all_eq_true_iff_forall_mem]
  intro z hz
  have := h z (by simpa using hz)
  unfold isLet at this
  simp
  omega
/-- a floor whose holds are of writable wares -/
def FM.wok (M : FM) : Prop := ∀ e ∈ M.st, PyData.strOk e.2.2.1 = true
theorem FM.wok_new : FM.new.wok := fun _ h => nomatch h
theorem aput_mem {κ α : Type} [DecidableEq κ] {l : List (κ × α)} {k : κ} {v : α} {e : κ × α} (h : e ∈ aput l k v) : e = (k, v) ∨ e ∈ l := by
  unfold aput at h
  split at h
  · obtain ⟨x, hx, q⟩ := List.mem_map.mp h
    split at q
    · rename_i hk
      left; rw [← q, ← hk]
    · right; rw [← q]; exact hx
  · rcases List.mem_append.mp h with h | h
    · exact .inr h
    · left; simpa using h
theorem FM.wok.begun {M : FM} {p n : Int} {w : Str} (h : M.wok) (hw : PyData.strOk w = true) : (M.begun p w n).wok := fun e he => by
  rcases aput_mem he with rfl | he
  · exact hw
  · exact h e he
theorem FM.wok.rehold {M : FM} {k p n : Int} {w : Str} (h : M.wok) (hw : PyData.strOk w = true) : (M.rehold k p w n).wok := fun e he => by
  rcases aput_mem he with rfl | he
  · exact hw
  · exact h e he
theorem FM.wok.ended {M : FM} {k : Int} (h : M.wok) : (M.ended k).wok := fun e he => h e (List.mem_filter.mp he).1
end Sf
namespace Sf
open PySem L2
/-! ### sums and places over a floor -/
theorem sum_point {P : List Int} {p0 : Int} {x : Int} {f : Int → Int} (nd : P.Nodup) (h : p0 ∈ P) : (P.map fun p => if p = p0 then x else f p).sum = x + (P.map f).sum - f p0 := by
  induction P with
  | nil => cases h
  | cons a P ih =>
    have nd' := List.nodup_cons.mp nd
    rw [List.map_cons, List.map_cons, List.sum_cons, List.sum_cons]
    by_cases e : a = p0
    · subst e
      rw [if_pos rfl]
      have : (P.map fun p => if p = a then x else f p) = P.map f := List.map_congr_left fun y hy => if_neg fun (z : y = a) => nd'.1 (z ▸ hy)
      rw [this]
      omega
    · rw [if_neg e, ih nd'.2 (by rcases List.mem_cons.mp h with z | z; exact absurd z.symm e; exact z)]
      omega
theorem am_sum {w : Str} {P : List Int} (ndP : P.Nodup) : ∀ {l : List ((Int × Str) × Int)}, (l.map (·.1)).Nodup → (∀ e ∈ l, e.1.2 = w → e.1.1 ∈ P) →
    ((l.filter fun e => decide (e.1.2 = w)).map (·.2)).sum = (P.map fun p => (aget l (p, w)).getD 0).sum
  | [], _, _ => by
    have : (P.map fun p => (aget ([] : List ((Int × Str) × Int)) (p, w)).getD 0) = P.map fun _ => (0 : Int) := rfl
    rw [this]
    have : ∀ Q : List Int, (Q.map fun _ => (0 : Int)).sum = 0 := fun Q => by induction Q with | nil => rfl | cons a Q ih => rw [List.map_cons, List.sum_cons, ih]; rfl
    rw [this]
    rfl
  | e :: l, nd, h => by
    have nd' := List.nodup_cons.mp nd
    have ih := am_sum ndP nd'.2 fun x hx => h x (List.mem_cons_of_mem _ hx)
    by_cases hw : e.1.2 = w
    · rw [List.filter_cons_of_pos (by simpa using hw), List.map_cons, List.sum_cons, ih]
      have e1 : (P.map fun p => (aget (e :: l) (p, w)).getD 0) = P.map fun p => if p = e.1.1 then e.2 else (aget l (p, w)).getD 0 := List.map_congr_left fun p _ => by
        rw [aget_cons]
        by_cases z : p = e.1.1
        · rw [if_pos z, if_pos (by rw [z, ← hw]), Option.getD_some]
        · rw [if_neg z, if_neg (fun q => z (by rw [q]))]
      have e2 : (aget l (e.1.1, w)).getD 0 = 0 := by
        have : aget l (e.1.1, w) = none := aget_none.mpr (by rw [← hw]; exact nd'.1)
        rw [this]
        rfl
      rw [e1, sum_point ndP (h e List.mem_cons_self hw), e2]
      omega
    · rw [List.filter_cons_of_neg (by simpa using hw), ih]
      refine congrArg List.sum (List.map_congr_left fun p _ => ?_)
      rw [aget_cons, if_neg (fun q => hw (by rw [q]))]
theorem FM.whole_eq {M : FM} {w : Str} {P : List Int} (ndP : P.Nodup) (nd : (M.am.map (·.1)).Nodup) (h : ∀ e ∈ M.am, e.1.2 = w → e.1.1 ∈ P) : M.whole w = (P.map fun p => M.there p w).sum := am_sum ndP nd h
theorem FM.places_eq {M : FM} {w : Str} {P : List Int} (sP : P.Pairwise (· < ·)) (nd : (M.am.map (·.1)).Nodup) (h : ∀ e ∈ M.am, e.1.2 = w → e.1.1 ∈ P) : M.places w = P.filter fun p => decide (M.there p w > 0) := by
  unfold FM.places
  symm
  refine srt_eq ?_ ((sP.imp fun h => Int.le_of_lt h).filter _)
  have ndP : P.Nodup := sP.imp fun h e => by omega
  have nd1 : ((M.am.filter fun e => decide (e.1.2 = w) && decide (e.2 > 0)).map (·.1.1)).Nodup := by
    rw [List.Nodup, List.pairwise_map]
    have nd2 : (M.am.filter fun e => decide (e.1.2 = w) && decide (e.2 > 0)).Pairwise fun a b => a.1 ≠ b.1 := (List.pairwise_map.mp nd).filter _
    refine nd2.imp_of_mem fun {a b} ha hb hab e => hab ?_
    have h1 := (List.mem_filter.mp ha).2
    have h2 := (List.mem_filter.mp hb).2
    simp at h1 h2
    exact Prod.ext e (h1.1.trans h2.1.symm)
  refine (List.perm_ext_iff_of_nodup (ndP.filter _) nd1).mpr fun p => ?_
  rw [List.mem_filter, List.mem_map]
  constructor
  · rintro ⟨h1, h2⟩
    have h2 : M.there p w > 0 := by simpa using h2
    unfold FM.there at h2
    cases e : aget M.am (p, w) with
    | none => rw [e] at h2; exact absurd h2 (by decide)
    | some v =>
      rw [e] at h2
      exact ⟨((p, w), v), List.mem_filter.mpr ⟨aget_mem e, by simp; exact h2⟩, rfl⟩
  · rintro ⟨e, he, rfl⟩
    obtain ⟨h1, h2⟩ := List.mem_filter.mp he
    simp at h2
    refine ⟨h e h1 h2.1, ?_⟩
    have : aget M.am e.1 = some e.2 := aget_of_mem nd h1
    unfold FM.there
    rw [show ((e.1.1, w) : Int × Str) = e.1 by rw [← h2.1], this]
    simp
    exact h2.2
namespace FM
theorem there_change {M : FM} {p p' n : Int} {w w' : Str} : (M.change p w n).there p' w' = if p' = p ∧ w' = w then M.there p w + n else M.there p' w' := by
  unfold there change
  rw [aget_put]
  by_cases h : p' = p ∧ w' = w
  · rw [if_pos h, if_pos (by rw [h.1, h.2])]
    rfl
  · rw [if_neg h, if_neg (fun e => h (by cases e; exact ⟨rfl, rfl⟩))]
theorem there_put {M : FM} {p p' n : Int} {w w' : Str} : (M.put p w n).there p' w' = if p' = p ∧ w' = w then n else M.there p' w' := by
  unfold there put
  rw [aget_put]
  by_cases h : p' = p ∧ w' = w
  · rw [if_pos h, if_pos (by rw [h.1, h.2])]
    rfl
  · rw [if_neg h, if_neg (fun e => h (by cases e; exact ⟨rfl, rfl⟩))]
theorem total_tell {M : FM} {a b c : Int} {w w' : Str} : (M.tell w a b c).total w' = if w' = w then ((M.total w).1 + a, (M.total w).2.1 + b, (M.total w).2.2 + c) else M.total w' := by
  unfold total tell
  rw [aget_put]
  by_cases h : w' = w
  · rw [if_pos h, if_pos h]
    rfl
  · rw [if_neg h, if_neg h]
/-- the keys of the amounts -/
theorem am_put_mem {l : List ((Int × Str) × Int)} {k : Int × Str} {v : Int} {e : (Int × Str) × Int} (h : e ∈ aput l k v) : e.1 = k ∨ ∃ e' ∈ l, e'.1 = e.1 := by
  rcases aput_mem h with rfl | h
  · exact .inl rfl
  · exact .inr ⟨e, h, rfl⟩
end FM
end Sf
namespace Sf
open PySem PySem.Spec PyProof.Rows L2
section
variable {Γ : Ga} {δ : De} {μ μ0 μ1 μ2 : Mu} {te to : TE} {tl : TA} {t : TS} {tt : TT} {as : List Sv} {m m' : Mu} {n k : Nat} {G : List Sv → Mu → Oc → Prop} {s : Sv} {E : XK} {K : PySem.W.Frag} {D : Ends} {o : OO} {b : Bool}
theorem Ast.perm {σ : L2.St} {W : Wd} (A : Ast Γ σ W δ μ) (h : μ0.Perm μ) : Ast Γ σ W δ μ0 := A.mu (fun e he => h.mem_iff.mp he) ((h.map _).nodup_iff.mpr A.ow.nd)
theorem Ev.perms (h : Ev Γ te δ μ s μ1) (p : μ.Perm μ0) (p1 : μ2.Perm μ1) : Ev Γ te δ μ0 s μ2 := fun σ W A Q q => h σ W (A.perm p) Q fun v W' A' => q v W' (A'.perm p1)
theorem EvT.perms (h : EvT Γ tt δ μ b μ1) (p : μ.Perm μ0) (p1 : μ2.Perm μ1) : EvT Γ tt δ μ0 b μ2 := fun σ W A Q q => h σ W (A.perm p) Q fun W' A' => q W' (A'.perm p1)
theorem Sx.perm (h : Sx Γ t D δ μ) (p : μ.Perm μ0) : Sx Γ t D δ μ0 := fun σ W A => h σ W (A.perm p)
theorem Nx.perm (h : Nx Γ D δ μ) (p : μ.Perm μ0) : Nx Γ D δ μ0 := fun σ W A => h σ W (A.perm p)
/-- fewer owned ones, at any place -/
theorem Ast.less {σ : L2.St} {W : Wd} (A : Ast Γ σ W δ μ) (h : μ0.Sublist μ) : Ast Γ σ W δ μ0 := A.mu (fun e he => h.subset he) (A.ow.nd.sublist (h.map _))
theorem Sx.less (h : Sx Γ t D δ μ) (p : μ.Sublist μ0) : Sx Γ t D δ μ0 := fun σ W A => h σ W (A.less p)
/-- if, both ways joined: what both reach -/
theorem x_ifJ {α : Type} {tc : TT} {tu tw u : TS} (F : α → De) (Mf : α → Mu) (C : α → Prop) (h : EvT Γ tc δ μ b μ1) (hr : ∀ x, C x → Sx Γ u D (F x) (Mf x))
    (h1 : b = true → ∀ D' : Ends, (∀ x, C x → Nx Γ D' (F x) (Mf x)) → D'.rt = D.rt → D'.bk = D.bk → D'.ct = D.ct → Sx Γ tu D' δ μ1) (h2 : b = false → ∀ D' : Ends, (∀ x, C x → Nx Γ D' (F x) (Mf x)) → D'.rt = D.rt → D'.bk = D.bk → D'.ct = D.ct → Sx Γ tw D' δ μ1) : Sx Γ (tSeq (tIfS tc tu tw) u) D δ μ :=
  x_seq (x_if h (fun e => h1 e _ (fun x hx => hr x hx) rfl rfl rfl) (fun e => h2 e _ (fun x hx => hr x hx) rfl rfl rfl))
/-- arguments, some of them new objects -/
def EvAx (Γ : Ga) (tl : TA) (δ : De) (μ : Mu) (P : List Sv → Mu → Prop) : Prop := ∀ σ W, Ast Γ σ W δ μ → ∀ Q : List V → Hp → Prop, (∀ vs ss μ' W', P ss μ' → Ast Γ σ W' δ μ' → Same W.i W'.i → SvAll Γ.K W'.i vs ss → Q vs W'.h) → tl σ W.h Q
theorem ax_nil : EvAx Γ tNil δ μ (fun ss μ' => ss = [] ∧ μ' = μ) := fun σ W A Q q => q [] [] μ W ⟨rfl, rfl⟩ A Same.rfl' .nil
theorem ax_cons {P : List Sv → Mu → Prop} (h : Ev Γ te δ μ s μ1) (hr : EvAx Γ tl δ μ1 P) : EvAx Γ (tCons te tl) δ μ (fun ss μ' => ∃ r, ss = s :: r ∧ P r μ') := fun σ W A Q q =>
  h σ W A _ fun v W1 A1 l1 h1 => hr σ W1 A1 _ fun vs ss μ' W2 p A2 l2 h2 => q (v :: vs) (s :: ss) μ' W2 ⟨ss, rfl, p⟩ A2 (l1.trans l2) (.cons (h1.ex l2) h2)
theorem ax_new {P : Addr → List Sv → Mu → Prop} (h : EvN1 Γ te δ μ o μ1) (hr : ∀ p, p ∉ Γ.O → p ∉ μ1.map (·.1) → EvAx Γ tl δ ((p, o) :: μ1) (P p)) : EvAx Γ (tCons te tl) δ μ (fun ss μ' => ∃ p r, ss = .r (.ref p) :: r ∧ p ∉ Γ.O ∧ p ∉ μ1.map (·.1) ∧ P p r μ') := fun σ W A Q q =>
  h σ W A _ fun ps v W1 k1 k2 A1 l1 h1 => by
    obtain ⟨p, rfl⟩ : ∃ p, ps = [p] := List.length_eq_one_iff.mp k1
    have k3 := k2 p List.mem_cons_self
    refine hr p k3.1 k3.2 σ W1 A1 _ fun vs ss μ' W2 pp A2 l2 h2 => ?_
    exact q (v :: vs) (.r (.ref p) :: ss) μ' W2 ⟨p, ss, rfl, k3.1, k3.2, pp⟩ A2 (l1.trans l2) (.cons (SvOk.ex l2 h1) h2)
/-- a call that changes nothing, with new objects among its arguments -/
theorem e_callX {P : List Sv → Mu → Prop} (hK : Γ.K = K) (ha : EvAx Γ tl δ μ P) (hG : ∀ ss μ', P ss μ' → ss.length = n ∧ μ1.Sublist μ' ∧ ∃ m m', m.Sublist μ' ∧ G ss m (.ret s m')) : Ev Γ (tCall (spG K n true G) [] E tl) δ μ s μ1 := fun σ W A Q q =>
  ha σ W A _ fun vs ss μ' W1 p A1 l1 h1 => by
    obtain ⟨g1, g2, m, m', g3, g4⟩ := hG ss μ' p
    exact app_nil_sv (sp_ro hK A1 g3 g1 h1 g4 fun v W' A' l' h' => q v W' (A'.less g2) (l1.trans l') h')
end
/-- the numbers of a script from a place on -/
theorem cutD_from {ns : List Int} {k : Nat} : cutD (ns.map PyData.int) (some (k : Int)) none = (ns.drop k).map PyData.int := by
  unfold cutD
  rw [HT.sIx_none, HT.sIx_nat, List.map_drop, List.length_map]
  by_cases h : k ≤ ns.length
  · rw [Nat.min_eq_left h, List.take_of_length_le (by simp)]
  · rw [Nat.min_eq_right (by omega), List.drop_of_length_le (i := ns.length) (by simp), List.drop_of_length_le (i := k) (by simp; omega)]
    simp
theorem cutD_last {ds : List PD} {d : PD} : cutD (ds ++ [d]) none (some (-1)) = ds := by
  unfold cutD
  rw [HT.sIx_none, List.drop_zero, Nat.sub_zero]
  have : HT.sIx (ds ++ [d]).length (ds ++ [d]).length (some (-1)) = ds.length := by
    show (if (-1 : Int) < 0 then ((-1 : Int) + ((ds ++ [d]).length : Int)).toNat else min (-1 : Int).toNat (ds ++ [d]).length) = ds.length
    rw [if_pos (by decide), List.length_append, List.length_singleton]
    omega
  rw [this]
  simp
end Sf
namespace Sf
theorem five_of {α : Type} {ps : List α} (h : ps.length = 5) : ∃ a b c d f, ps = [a, b, c, d, f] := by
  match ps, h with
  | [a, b, c, d, f], _ => exact ⟨a, b, c, d, f, rfl⟩
end Sf
namespace Sf
open L2
theorem ixN_nat {n j : Nat} (hj : j < n) : ixN n (j : Int) = some j := by
  unfold ixN
  rw [if_pos (by omega), if_pos (by omega)]
  simp
end Sf
namespace L2
open PySem PySem.Spec PyProof.Rows
/-! o.m(..) where what is raised is wished for at the caller's slots -/
def tMethSD (C : Addr) (m : Str) (sp : Sp) (E : St → XK) (to : TE) (t : TA) : TE := fun σ H Q => to σ H fun x H1 => ∃ a dx fs, x = .ref a ∧ H1 a = some (.ins C dx fs) ∧ fs.lookup m = none ∧ t σ H1 fun vs H2 => sp (x :: vs) H2 Q (E σ)
section
variable {X : Cx} {CX : CXT} {k : Nat} {f C : Addr} {fd : FuncData} {ps : List Str} {sp : Sp} {E : St → XK} {m : Str} {pos apos : Pos} {e o : Expr} {es : List Expr} {to : TE} {t : TA}
theorem pe_methSD {pl : Sem Bool} (ho : PE X o to) (c : Cls X.K C) (hm : Meth X.K C m f) (F : FnOk X.prog X.w X.K X.mg X.base CX k f fd ps sp) (hr : Room k X.A) (hb : Binds X.K fd ps []) (hx : ∀ σ, PassesAt CX X σ (E σ)) (ha : PA X (e :: es) t)
    (hst : starEach (e :: es) X.env = (false, eval e X.env) :: starEach es X.env := by rfl) (hpl : (backTo pos (starEach es X.env)).any (·.1) = false := by rfl)
    (ht : eval (.Call (.Attribute o m apos) (e :: es) [] pos) X.env = (do
      let ov ← eval o X.env
      standAt apos.atName
      let (g, one) ← holding [ov] (getMethod ov m pl)
      callWith pos g one (backTo pos (starEach (e :: es) X.env)) (backToKw pos (keywordEach [] X.env))) := by rfl) : PE X (.Call (.Attribute o m apos) (e :: es) [] pos) (tMethSD C m sp E to t) :=
  ⟨fun pins s σ H Q I h => PySem.W.methodCall_KW (pl := pl) (thn (ho.run pins s σ H _ I h) fun u s1 h1 => by
    obtain ⟨x, H1, I1, rx, a, dx, fs, rfl, ea, l, q⟩ := h1
    cases (show u = Value.ref a from rx)
    exact getmeth_ok I1 ea c hm l (PySem.W.callWith_K (first := [.ref a]) (h₀ := X.base) I.ok.mod.kin hm.kp (thn (ha.run pos pins s1 σ H1 _ I1 q) fun us s2 h2 => by
      obtain ⟨vs, H2, I2, r, q2⟩ := h2
      exact ⟨I2.kIn, run_fnSD (dvs := []) (us := .ref a :: us) (vs := .ref a :: vs) F hr hb .nil (hx σ) I2 (.cons rfl r) (by rw [List.append_nil]; exact q2)⟩) hst hpl)) ht⟩
end
end L2
namespace Sf
open PySem PySem.Spec PyProof.Rows L2
section
variable {Γ : Ga} {δ : De} {μ μ1 μ2 : Mu} {te to : TE} {tl : TA} {t u : TS} {tt tu : TT} {as : List Sv} {m m' m2 rest : Mu} {n k : Nat} {G : List Sv → Mu → Oc → Prop} {s : Sv} {K : PySem.W.Frag} {D : Ends} {o : OO} {b : Bool} {W : WX} {E : L2.St → XK} {C : Addr} {ro : Bool} {mn : Str} {p C0 : Addr} {fs : List (Str × V)}
/-! ### inside a try -/
theorem e_callSD (hK : Γ.K = K) (ha : EvA Γ tl δ μ as μ1) (hG : G as m (.ret s m')) (hm : m.Sublist μ1) (hn : as.length = n := by rfl) : Ev Γ (tCallSD (spG K n true G) [] E tl) δ μ s μ1 := fun σ W A Q q =>
  ha σ W A _ fun vs W1 A1 l1 h1 => app_nil_sv (sp_ro hK A1 hm hn h1 hG fun v W' A' l' h' => q v W' A' (l1.trans l') h')
theorem e_callMSD (hK : Γ.K = K) (ha : EvA Γ tl δ μ as (m ++ rest)) (hG : G as m (.ret s m')) (e : m'.map (·.1) = m.map (·.1)) (may : ∀ b ∈ m.map (·.1), Γ.may b) (hn : as.length = n := by rfl) : Ev Γ (tCallSD (spG K n false G) [] E tl) δ μ s (m' ++ rest) := fun σ W A Q q =>
  ha σ W A _ fun vs W1 A1 l1 h1 => app_nil_sv (sp_rw hK A1 hn h1 hG e may fun v W' A' l' h' => q v W' A' (l1.trans l') h')
theorem e_methMSD (hK : Γ.K = K) (ho : Ev Γ to δ μ (.r (.ref p)) μ1) (hp : (p, OO.ins C0 fs) ∈ μ1) (hl : fs.lookup mn = none) (ha : EvA Γ tl δ μ1 as (m ++ rest)) (hG : G (.r (.ref p) :: as) m (.ret s m')) (e : m'.map (·.1) = m.map (·.1)) (may : ∀ b ∈ m.map (·.1), Γ.may b) (hn : as.length + 1 = n := by rfl) :
    Ev Γ (tMethSD C0 mn (spG K n false G) E to tl) δ μ s (m' ++ rest) := fun σ W A Q q =>
  ho σ W A _ fun x W1 A1 l1 h1 => by
    cases h1
    obtain ⟨dx, e1⟩ := A1.ow.ok _ hp
    exact ⟨p, dx, fs, rfl, e1, hl, ha σ W1 A1 _ fun vs W2 A2 l2 h2 => sp_rw (as := .r (.ref p) :: as) hK A2 hn (.cons rfl h2) hG e may fun v W' A' l' h' => q v W' A' ((l1.trans l2).trans l') h'⟩
theorem e_methSD (hK : Γ.K = K) (ho : Ev Γ to δ μ (.r (.ref p)) μ1) (hp : (p, OO.ins C0 fs) ∈ μ1) (hl : fs.lookup mn = none) (ha : EvA Γ tl δ μ1 as μ2) (hG : G (.r (.ref p) :: as) m (.ret s m')) (hm : m.Sublist μ2) (hn : as.length + 1 = n := by rfl) :
    Ev Γ (tMethSD C0 mn (spG K n true G) E to tl) δ μ s μ2 := fun σ W A Q q =>
  ho σ W A _ fun x W1 A1 l1 h1 => by
    cases h1
    obtain ⟨dx, e1⟩ := A1.ow.ok _ hp
    exact ⟨p, dx, fs, rfl, e1, hl, ha σ W1 A1 _ fun vs W2 A2 l2 h2 => sp_ro (as := .r (.ref p) :: as) hK A2 hm hn (.cons rfl h2) hG fun v W' A' l' h' => q v W' A' ((l1.trans l2).trans l') h'⟩
theorem n_methMSD {sn : List Addr → Sv} {mw : List Addr → Mu} (hK : Γ.K = K) (ho : Ev Γ to δ μ (.r (.ref p)) μ1) (hp : (p, OO.ins C0 fs) ∈ μ1) (hl : fs.lookup mn = none) (ha : EvA Γ tl δ μ1 as (m ++ rest)) (hG : G (.r (.ref p) :: as) m (.new k sn fun ps => mw ps ++ m')) (e : m'.map (·.1) = m.map (·.1)) (may : ∀ b ∈ m.map (·.1), Γ.may b) (hw : ∀ ps, ps.length = k → ∀ e ∈ mw ps, e.1 ∈ ps) (hn : as.length + 1 = n := by rfl) :
    EvN Γ (tMethSD C0 mn (spG K n false G) E to tl) δ μ k sn mw (m' ++ rest) := fun σ W A Q q =>
  ho σ W A _ fun x W1 A1 l1 h1 => by
    cases h1
    obtain ⟨dx, e1⟩ := A1.ow.ok _ hp
    exact ⟨p, dx, fs, rfl, e1, hl, ha σ W1 A1 _ fun vs W2 A2 l2 h2 => sp_rwN (as := .r (.ref p) :: as) hK A2 hn (.cons rfl h2) hG hw e may fun ps v W' k1 k2 A' l' h' => q ps v W' k1 k2 A' ((l1.trans l2).trans l') h'⟩
/-- what becomes of an exception of the class C -/
def Wish (Γ : Ga) (W : WX) (C : Addr) (δ : De) (μ : Mu) : Prop := ∀ σ W', Ast Γ σ W' δ μ → W (.ref C) none σ W'.h
theorem ex_callSD (hK : Γ.K = K) (ha : EvA Γ tl δ μ as (m ++ rest)) (hG : G as m (.exc C m')) (e : m'.map (·.1) = m.map (·.1)) (may : ∀ b ∈ foot ro m, Γ.may b) (w : Wish Γ W C δ (m' ++ rest)) (hn : as.length = n := by rfl) : EvX Γ (tCallSD (spG K n ro G) [] (WE W) tl) δ μ := fun σ W A Q =>
  ha σ W A _ fun vs W1 A1 l1 h1 => app_nil_sv (sp_ex hK A1 hn h1 hG e may fun W' A' => w σ W' A')
theorem ex_methSD (hK : Γ.K = K) (ho : Ev Γ to δ μ (.r (.ref p)) μ1) (hp : (p, OO.ins C0 fs) ∈ μ1) (hl : fs.lookup mn = none) (ha : EvA Γ tl δ μ1 as (m ++ rest)) (hG : G (.r (.ref p) :: as) m (.exc C m')) (e : m'.map (·.1) = m.map (·.1)) (may : ∀ b ∈ foot ro m, Γ.may b) (w : Wish Γ W C δ (m' ++ rest)) (hn : as.length + 1 = n := by rfl) :
    EvX Γ (tMethSD C0 mn (spG K n ro G) (WE W) to tl) δ μ := fun σ W A Q =>
  ho σ W A _ fun x W1 A1 l1 h1 => by
    cases h1
    obtain ⟨dx, e1⟩ := A1.ow.ok _ hp
    exact ⟨p, dx, fs, rfl, e1, hl, ha σ W1 A1 _ fun vs W2 A2 l2 h2 => sp_ex (as := .r (.ref p) :: as) hK A2 hn (.cons rfl h2) hG e may fun W' A' => w σ W' A'⟩
theorem wi_yes {c : Value} {ts : Addr → Value → Option Addr → TS} {Wout : WX} (h : PySem.W.exmOne K (.ref C) c = some true) (x : ∀ a, Sx Γ (ts a (.ref C) none) D δ μ) : Wish Γ (wOnly K c ts Wout D) C δ μ := fun σ W' A => ⟨true, h, (fun _ a _ => x a σ W' A), (fun z => nomatch z)⟩
theorem wi_many {c : Value} {ts : Addr → Value → Option Addr → TS} {Wout : WX} {l : List (Value × (Addr → Value → Option Addr → TS))} (h : PySem.W.exmOne K (.ref C) c = some true) (x : ∀ a, Sx Γ (ts a (.ref C) none) D δ μ) : Wish Γ (wMany K Wout D ((c, ts) :: l)) C δ μ := fun σ W' A => ⟨true, h, (fun _ a _ => x a σ W' A), (fun z => nomatch z)⟩
theorem wi_next {c : Value} {ts : Addr → Value → Option Addr → TS} {Wout : WX} {l : List (Value × (Addr → Value → Option Addr → TS))} (h : PySem.W.exmOne K (.ref C) c = some false) (x : Wish Γ (wMany K Wout D l) C δ μ) : Wish Γ (wMany K Wout D ((c, ts) :: l)) C δ μ := fun σ W' A => ⟨false, h, (fun z => nomatch z), fun _ => x σ W' A⟩
/-! tests that do not come back -/
def EvTX (Γ : Ga) (tt : TT) (δ : De) (μ : Mu) : Prop := ∀ σ W, Ast Γ σ W δ μ → ∀ Q, tt σ W.h Q
theorem tx_tst (h : EvX Γ te δ μ) : EvTX Γ (tTest te) δ μ := fun σ W A Q => h σ W A _
theorem tx_B (h : EvX Γ te δ μ) : EvTX Γ (tB te) δ μ := fun σ W A Q => h σ W A _
theorem tx_not (h : EvTX Γ tt δ μ) : EvTX Γ (tNot tt) δ μ := fun σ W A Q => h σ W A _
theorem ex_notN (h : EvX Γ te δ μ) : EvX Γ (tNotN te) δ μ := fun σ W A Q => h σ W A _
theorem ex_isN (h : EvX Γ te δ μ) : EvX Γ (tIsN te) δ μ := fun σ W A Q => h σ W A _
theorem x_ifX (h : EvTX Γ tt δ μ) : Sx Γ (tIfS tt t u) D δ μ := fun σ W A => h σ W A _
/-- try .. except X: -/
theorem x_try {tb : WX → TS} {c : Value} {ts : Addr → Value → Option Addr → TS} {Wout : WX} (h : Sx Γ (tb (wOnly K c ts Wout D)) D δ μ) : Sx Γ (fun D σ H => tb (wOnly K c ts Wout D) D σ H) D δ μ := h
theorem x_tryM {tb : WX → TS} {Wout : WX} {l : List (Value × (Addr → Value → Option Addr → TS))} (h : Sx Γ (tb (wMany K Wout D l)) D δ μ) : Sx Γ (fun D σ H => tb (wMany K Wout D l) D σ H) D δ μ := h
end
end Sf
namespace Sf
theorem four_of {α : Type} {ps : List α} (h : ps.length = 4) : ∃ a b c d, ps = [a, b, c, d] := by
  match ps, h with
  | [a, b, c, d], _ => exact ⟨a, b, c, d, rfl⟩
theorem pow30_90 : (90 : Int) ≤ 10 ^ 30 := by decide
theorem emod_lt {z n : Int} (h : 0 < n) : 0 ≤ z % n ∧ z % n < n := ⟨Int.emod_nonneg z (by omega), Int.emod_lt_of_pos z h⟩
end Sf
namespace Sf
theorem sx_run {Γ : Ga} {t : L2.TS} {D : L2.Ends} {δ : De} {μ : Mu} (h : Sx Γ t D δ μ) {σ : L2.St} {W : Wd} (A : Ast Γ σ W δ μ) : t D σ W.h := h σ W A
end Sf
namespace Sf
open PySem L2
namespace FM
/-- what holding tells -/
def holding (M : FM) : PD → PD
  | .int k => ((aget M.st k).map hV).getD .none
  | _ => .none
theorem holding_some {M : FM} {k : Int} {h : Int × Str × Int} (e : aget M.st k = some h) : M.holding (.int k) = hV h := by
  show ((aget M.st k).map hV).getD .none = _
  rw [e]
  rfl
theorem holding_none {M : FM} {k : Int} (e : aget M.st k = none) : M.holding (.int k) = .none := by
  show ((aget M.st k).map hV).getD .none = _
  rw [e]
  rfl
theorem holding_isN {M : FM} {d : PD} : isN (M.holding d) = true ∨ ∃ k h, d = .int k ∧ aget M.st k = some h := by
  cases d with
  | int k =>
    cases e : aget M.st k with
    | none => left; rw [holding_none e]; rfl
    | some h => right; exact ⟨k, h, rfl, e⟩
  | _ => left; rfl
end FM
end Sf
namespace L2
open PySem PySem.Spec PyProof.Rows
/-! is True, is not True, of None or a bool -/
def rIsTB : R2 := fun x y H Q => ∃ b : Bool, y = .bl b ∧ (x = .non ∨ ∃ a, x = .bl a) ∧ Q (.bl (decide (x = .bl b))) H
def rNoTB : R2 := fun x y H Q => ∃ b : Bool, y = .bl b ∧ (x = .non ∨ ∃ a, x = .bl a) ∧ Q (.bl (!decide (x = .bl b))) H
section
variable {X : Cx}
theorem op_isTB : OpR X (compareOp .Is) rIsTB := fun pins s σ H x y v u Q I rx ry h => by
  obtain ⟨b, rfl, rfl | ⟨a, rfl⟩, q⟩ := h
  · cases (show v = Value.none from rx)
    cases (show u = Value.bool b from ry)
    exact wpAny_is_other rfl (fun z => nomatch z) ⟨.bl false, H, I, rfl, by simpa using q⟩
  · exact op_isBl pins s σ H _ _ v u Q I rx ry ⟨a, b, rfl, rfl, by simpa using q⟩
theorem op_notTB : OpR X (compareOp .IsNot) rNoTB := fun pins s σ H x y v u Q I rx ry h => by
  obtain ⟨b, rfl, rfl | ⟨a, rfl⟩, q⟩ := h
  · cases (show v = Value.none from rx)
    cases (show u = Value.bool b from ry)
    exact wpAny_isNot_other rfl (fun z => nomatch z) ⟨.bl true, H, I, rfl, by simpa using q⟩
  · exact op_notBl pins s σ H _ _ v u Q I rx ry ⟨a, b, rfl, rfl, by simpa using q⟩
end
end L2
namespace Sf
open PySem PySem.Spec PyProof.Rows L2
def isTB (b : Bool) : PD → Bool
  | .bool a => decide (a = b)
  | _ => false
section
variable {Γ : Ga} {δ : De} {μ μ1 μ2 : Mu} {te to ta tb : TE} {K : PySem.W.Frag} {D : Ends} {d : PD} {ds : List PD} {b : Bool} {i : Int}
theorem tb_of {I : Hp} {v : V} (h : SvOk K I v (.d d)) (hd : d = .none ∨ ∃ a, d = .bool a) : (v = .non ∨ ∃ a, v = .bl a) ∧ decide (v = .bl b) = isTB b d := by
  rcases hd with rfl | ⟨a, rfl⟩
  · cases svN h
    exact ⟨.inl rfl, by simp [isTB]⟩
  · cases svB h
    exact ⟨.inr ⟨a, rfl⟩, by simp [isTB]⟩
theorem e_isTB (ha : Ev Γ ta δ μ (.d d) μ1) (hb : Ev Γ tb δ μ1 (dB b) μ2) (hd : d = .none ∨ ∃ a, d = .bool a) : Ev Γ (tOp rIsTB ta tb) δ μ (dB (isTB b d)) μ2 := fun σ W A Q q =>
  e_two ha hb A fun v w W' A' l h1 h2 => by
    cases svB h2
    obtain ⟨e1, e2⟩ := tb_of (b := b) h1 hd
    refine ⟨b, rfl, e1, ?_⟩
    rw [e2]
    exact q _ W' A' l (.bl _)
theorem e_noTB (ha : Ev Γ ta δ μ (.d d) μ1) (hb : Ev Γ tb δ μ1 (dB b) μ2) (hd : d = .none ∨ ∃ a, d = .bool a) : Ev Γ (tOp rNoTB ta tb) δ μ (dB (!isTB b d)) μ2 := fun σ W A Q q =>
  e_two ha hb A fun v w W' A' l h1 h2 => by
    cases svB h2
    obtain ⟨e1, e2⟩ := tb_of (b := b) h1 hd
    refine ⟨b, rfl, e1, ?_⟩
    rw [e2]
    exact q _ W' A' l (.bl _)
/-- str(an int) -/
def strI (i : Int) : Str := (toString i : String)
theorem e_strI (h : Ev Γ te δ μ (dI i) μ1) (hi : i.natAbs.log2 < 1920) : Ev Γ (tCB (fun xs H Q => ∃ i, xs = [.int i] ∧ i.natAbs.log2 < 1920 ∧ Q (.str (toString i)) H) (tCons te tNil)) δ μ (dS (strI i)) μ1 :=
  e_cb (a_cons h a_nil) fun σ W vs A hs Q q => by
    obtain ⟨v, rfl, h1⟩ := sv1 hs
    cases svI h1
    exact ⟨i, rfl, hi, q _ W (LeX.refl _ W) (.str _)⟩
/-- a new list is changed and let go -/
theorem x_appN (h : EvN1 Γ to δ μ (.lst ds) μ1) (he : ∀ q, Ev Γ te δ ((q, .lst ds) :: μ1) (.d d) ((q, .lst ds) :: μ1)) (hz : ds.length < 100000) (n : Nx Γ D δ μ1) : Sx Γ (tDrop (tBM K "list" rAppend to (tCons te tNil))) D δ μ := fun σ W A =>
  h σ W A _ fun ps v W1 h1 h2 A1 l1 e1 => by
    obtain ⟨q, rfl⟩ : ∃ p, ps = [p] := List.length_eq_one_iff.mp h1
    cases e1
    obtain ⟨ws, g1, _⟩ := A1.ow.ok (q, .lst ds) List.mem_cons_self
    refine ⟨.inl ⟨rfl, ws, .inl (.inl g1)⟩, he q σ W1 A1 _ fun w W2 A2 l2 e2 => ?_⟩
    obtain ⟨vs, g2, g3⟩ := A2.ow.ok (q, .lst ds) List.mem_cons_self
    refine ⟨q, vs, w, rfl, rfl, g2, by rw [g3.length]; exact Nat.lt_of_lt_of_le hz (by decide), ?_⟩
    obtain ⟨nn, A3⟩ := Ast.wrAt (o := .lst ds) (o' := .lst (ds ++ [d])) (u := .lst (vs ++ [w])) 0 rfl A2 (.inr (h2 q List.mem_cons_self).1) fun nn => ⟨_, upd_same, g3.app (.cons e2 .nil)⟩
    exact n σ _ (A3.less (List.sublist_cons_self _ _))
end
end Sf
namespace Sf
theorem EvWo.to {Γ : Ga} {wi : L2.TI} {δ : De} {μ μ1 ow : Mu} {xs ys : List Sv} (h : EvWo Γ wi δ μ xs ow μ1) (e : xs = ys) : EvWo Γ wi δ μ ys ow μ1 := e ▸ h
theorem sum_pos {hs : List Int} (h : ∀ n ∈ hs, 0 ≤ n) : (hs.filter fun n => decide (n > 0)).sum = hs.sum := by
  induction hs with
  | nil => rfl
  | cons a r ih =>
    have ih := ih fun n hn => h n (List.mem_cons_of_mem _ hn)
    have h0 := h a List.mem_cons_self
    by_cases ha : a > 0
    · rw [List.filter_cons_of_pos (by simpa using ha), List.sum_cons, List.sum_cons, ih]
    · rw [List.filter_cons_of_neg (by simpa using ha), List.sum_cons, ih]
      omega
theorem getI_D {hs : List Int} {k : Nat} (h : k < hs.length) : L2.atI (hs.map PySem.PyData.int) (k : Int) = some (.int (hs.getD k 0)) := L2.atI_nat (by simp [h])
end Sf
namespace Sf
theorem sum_nn {hs : List Int} (h : ∀ n ∈ hs, 0 ≤ n) : 0 ≤ hs.sum := by
  induction hs with
  | nil => exact Int.le_refl _
  | cons a r ih =>
    have ih := ih fun n hn => h n (List.mem_cons_of_mem _ hn)
    have h0 := h a List.mem_cons_self
    rw [List.sum_cons]
    omega
end Sf
namespace Sf
theorem log2_small {k : Int} (h : k.natAbs < 65536) : k.natAbs.log2 < 1920 := by
  by_cases h0 : k.natAbs = 0
  · rw [h0]; decide
  · exact Nat.lt_of_lt_of_le ((Nat.log2_lt h0).mpr (show k.natAbs < 2 ^ 16 from h)) (by decide)
end Sf
namespace Sf
open PySem PySem.Spec PyProof.Rows L2
section
variable {Γ : Ga} {δ : De} {μ μ1 μ2 : Mu} {ta tb : TE} {K : PySem.W.Frag} {d : PD} {ds : List PD} {p : Addr}
/-- == of an owned list and data -/
theorem e_eqO (hK : Γ.K = K) (ha : Ev Γ ta δ μ (.r (.ref p)) μ1) (hb : Ev Γ tb δ μ1 (.d d) μ2) (hp : (p, OO.lst ds) ∈ μ2) (s1 : SeqAt.shaped (.list ds) = true) (s2 : SeqAt.shaped d = true) : Ev Γ (tOp (rEqD K) ta tb) δ μ (dB (PyData.eqv (.list ds) d)) μ2 := fun σ W A Q q =>
  e_two ha hb A fun v w W' A' l h1 h2 => by
    cases h1
    obtain ⟨vs, g1, g2⟩ := A'.ow.ok _ hp
    exact ⟨.list ds, d, hK ▸ Dp.lst (SqL.of g1) (DpAll.ex W'.s g2), hK ▸ Dp.ex W'.s h2, s1, s2, q _ W' A' l (.bl _)⟩
theorem e_neO (hK : Γ.K = K) (ha : Ev Γ ta δ μ (.r (.ref p)) μ1) (hb : Ev Γ tb δ μ1 (.d d) μ2) (hp : (p, OO.lst ds) ∈ μ2) (s1 : SeqAt.shaped (.list ds) = true) (s2 : SeqAt.shaped d = true) : Ev Γ (tOp (rNeD K) ta tb) δ μ (dB (!PyData.eqv (.list ds) d)) μ2 := fun σ W A Q q =>
  e_two ha hb A fun v w W' A' l h1 h2 => by
    cases h1
    obtain ⟨vs, g1, g2⟩ := A'.ow.ok _ hp
    exact ⟨.list ds, d, hK ▸ Dp.lst (SqL.of g1) (DpAll.ex W'.s g2), hK ▸ Dp.ex W'.s h2, s1, s2, q _ W' A' l (.bl _)⟩
end
end Sf
namespace Sf
open PySem L2
/-! ### law k01, in plain words -/
abbrev plL (c : Int) : List Int := [pl c 0, pl c 1, pl c 2, pl c 3]
theorem plL_get {c : Int} {k : Nat} (h : k < 4) : (plL c)[k]? = some (pl c k) := by
  have : k = 0 ∨ k = 1 ∨ k = 2 ∨ k = 3 := by omega
  rcases this with rfl | rfl | rfl | rfl <;> rfl
theorem plL_sorted (c : Int) : (plL c).Pairwise (· < ·) := by
  have h := fun i j => @pl_lt c i j
  simp only [List.pairwise_cons, List.mem_cons, List.not_mem_nil, or_false, List.Pairwise.nil, and_true, forall_eq_or_imp, forall_eq]
  refine ⟨⟨h 0 1 (by decide) (by decide), h 0 2 (by decide) (by decide), h 0 3 (by decide) (by decide)⟩, ⟨h 1 2 (by decide) (by decide), h 1 3 (by decide) (by decide)⟩, h 2 3 (by decide) (by decide), ?_⟩
  intro a ha
  exact absurd ha (by simp)
abbrev plD (c : Int) : List PD := [.int (pl c 0), .int (pl c 1), .int (pl c 2), .int (pl c 3)]
abbrev wrD (c : Int) : List PD := [.str (wr c 0), .str (wr c 1), .str (wr c 2)]
theorem plD_get {c : Int} {k : Nat} (h : k < 4) : (plD c)[k]? = some (.int (pl c k)) := by
  have : k = 0 ∨ k = 1 ∨ k = 2 ∨ k = 3 := by omega
  rcases this with rfl | rfl | rfl | rfl <;> rfl
theorem wrD_get {c : Int} {k : Nat} (h : k < 3) : (wrD c)[k]? = some (.str (wr c k)) := by
  have : k = 0 ∨ k = 1 ∨ k = 2 := by omega
  rcases this with rfl | rfl | rfl <;> rfl
/-- a floor of three wares and four places on which things came alone -/
structure J1 (c0 c1 : Int) (M : FM) (v : List Int) : Prop where
  len : v.length = 12
  nd : (M.am.map (·.1)).Nodup
  keys : ∀ e ∈ M.am, e.1.1 ∈ plL c1
  there : ∀ i k, i < 3 → k < 4 → M.there (pl c1 k) (wr c0 i) = v.getD (4 * i + k) 0
  total : ∀ i, i < 3 → M.total (wr c0 i) = (v.getD (4 * i) 0 + v.getD (4 * i + 1) 0 + v.getD (4 * i + 2) 0 + v.getD (4 * i + 3) 0, 0, 0)
  st : M.st = []
theorem J1.wok {c0 c1 : Int} {M : FM} {v : List Int} (h : J1 c0 c1 M v) : M.wok := fun e he => by rw [h.st] at he; cases he
theorem J1.new (c0 c1 : Int) : J1 c0 c1 FM.new (List.replicate 12 0) := by
  have z : ∀ j, (List.replicate 12 (0 : Int)).getD j 0 = 0 := fun j => by
    rw [List.getD_eq_getElem?_getD, List.getElem?_replicate]
    split <;> rfl
  refine ⟨rfl, List.nodup_nil, fun e h => (nomatch h), fun i k _ _ => ?_, fun i _ => ?_, rfl⟩
  · rw [z]; rfl
  · rw [z, z, z, z]; rfl
theorem J1.held {c0 c1 : Int} {M : FM} {v : List Int} (h : J1 c0 c1 M v) (p : Int) (w : Str) : M.held p w = 0 := by
  unfold FM.held
  rw [h.st]
  rfl
theorem J1.free {c0 c1 : Int} {M : FM} {v : List Int} (h : J1 c0 c1 M v) {i k : Nat} (hi : i < 3) (hk : k < 4) : M.free (pl c1 k) (wr c0 i) = v.getD (4 * i + k) 0 := by
  unfold FM.free
  rw [h.held, h.there i k hi hk]
  omega
theorem J1.whole {c0 c1 : Int} {M : FM} {v : List Int} (h : J1 c0 c1 M v) {i : Nat} (hi : i < 3) : M.whole (wr c0 i) = v.getD (4 * i) 0 + v.getD (4 * i + 1) 0 + v.getD (4 * i + 2) 0 + v.getD (4 * i + 3) 0 := by
  rw [FM.whole_eq ((plL_sorted c1).imp fun h e => by omega) h.nd fun e he _ => h.keys e he]
  have h0 := h.there i 0 hi (by decide)
  have h1 := h.there i 1 hi (by decide)
  have h2 := h.there i 2 hi (by decide)
  have h3 := h.there i 3 hi (by decide)
  simp only [List.map_cons, List.map_nil, List.sum_cons, List.sum_nil, h0, h1, h2, h3, Nat.add_zero]
  omega
theorem J1.places {c0 c1 : Int} {M : FM} {v : List Int} (h : J1 c0 c1 M v) {i : Nat} (hi : i < 3) : M.places (wr c0 i) = ((List.range 4).filter fun k => decide (v.getD (4 * i + k) 0 > 0)).map (pl c1) := by
  rw [FM.places_eq (plL_sorted c1) h.nd fun e he _ => h.keys e he]
  have e : plL c1 = (List.range 4).map (pl c1) := rfl
  rw [e, List.filter_map]
  refine congrArg _ (List.filter_congr fun k hk => ?_)
  have hk := List.mem_range.mp hk
  show decide (M.there (pl c1 k) (wr c0 i) > 0) = _
  rw [h.there i k hi hk]
theorem J1.numbers {c0 c1 : Int} {M : FM} {v : List Int} (h : J1 c0 c1 M v) : M.numbers = [] := by
  unfold FM.numbers
  rw [h.st]
  simp [srt]
theorem getD_set {v : List Int} {j k : Nat} {x : Int} (hj : j < v.length) : (v.set j x).getD k 0 = if k = j then x else v.getD k 0 := by
  rw [List.getD_eq_getElem?_getD, List.getD_eq_getElem?_getD, List.getElem?_set]
  by_cases h : k = j
  · subst h
    simp [hj]
  · simp [h, Ne.symm h]
theorem J1.come {c0 c1 : Int} {M : FM} {v : List Int} (h : J1 c0 c1 M v) {i k : Nat} (hi : i < 3) (hk : k < 4) (n : Int) : J1 c0 c1 (M.come (pl c1 k) (wr c0 i) n) (v.set (4 * i + k) (v.getD (4 * i + k) 0 + n)) := by
  have hj : 4 * i + k < v.length := by rw [h.len]; omega
  refine ⟨by rw [List.length_set]; exact h.len, aput_nd h.nd, fun e he => ?_, fun i' k' hi' hk' => ?_, fun i' hi' => ?_, h.st⟩
  · rcases FM.am_put_mem he with q | ⟨e', he', q⟩
    · rw [q]
      exact List.mem_of_getElem? (plL_get hk)
    · rw [← q]
      exact h.keys e' he'
  · rw [getD_set hj]
    show (M.change (pl c1 k) (wr c0 i) n).there _ _ = _
    rw [FM.there_change]
    by_cases e : i' = i ∧ k' = k
    · rw [if_pos (by rw [e.1, e.2]; exact ⟨rfl, rfl⟩), if_pos (by rw [e.1, e.2]), h.there i k hi hk]
    · rw [if_neg fun z => e ⟨wr_inj c0 hi' hi z.2, pl_inj c1 hk' hk z.1⟩, if_neg (by omega), h.there i' k' hi' hk']
  · show ((M.change (pl c1 k) (wr c0 i) n).tell (wr c0 i) n 0 0).total (wr c0 i') = _
    rw [FM.total_tell]
    have et : ∀ w, (M.change (pl c1 k) (wr c0 i) n).total w = M.total w := fun _ => rfl
    rw [et, et, h.total i hi, h.total i' hi']
    simp only [getD_set hj]
    by_cases e : i' = i
    · subst e
      rw [if_pos rfl]
      have : k = 0 ∨ k = 1 ∨ k = 2 ∨ k = 3 := by omega
      rcases this with rfl | rfl | rfl | rfl <;> simp <;> omega
    · rw [if_neg fun z => e (wr_inj c0 hi' hi z), if_neg (by omega), if_neg (by omega), if_neg (by omega), if_neg (by omega)]
end Sf
namespace Sf
open PySem L2
theorem enum_wr {c : Int} {i : Nat} {s : Sv} (h : (enumS (wrD c))[i]? = some s) : i < 3 ∧ s = dU [.int (i : Int), .str (wr c i)] := by
  have hi : i < 3 := (List.getElem?_eq_some_iff.mp h).1
  have : i = 0 ∨ i = 1 ∨ i = 2 := by omega
  refine ⟨hi, ?_⟩
  rcases this with rfl | rfl | rfl <;> (cases h; rfl)
end Sf
namespace Sf
open PySem L2
/-! ### holds -/
/-- how much of w in p a hold holds -/
def hAt (p : Int) (w : Str) : Option (Int × Str × Int) → Int
  | some h => if h.1 = p ∧ h.2.1 = w then h.2.2 else 0
  | none => 0
theorem st_sum {p : Int} {w : Str} {P : List Int} (ndP : P.Nodup) : ∀ {l : List (Int × (Int × Str × Int))}, (l.map (·.1)).Nodup → (∀ e ∈ l, e.1 ∈ P) →
    ((l.filter fun e => decide (e.2.1 = p) && decide (e.2.2.1 = w)).map fun e => e.2.2.2).sum = (P.map fun k => hAt p w (aget l k)).sum
  | [], _, _ => by
    have : (P.map fun k => hAt p w (aget ([] : List (Int × (Int × Str × Int))) k)) = P.map fun _ => (0 : Int) := rfl
    rw [this]
    have : ∀ Q : List Int, (Q.map fun _ => (0 : Int)).sum = 0 := fun Q => by induction Q with | nil => rfl | cons a Q ih => rw [List.map_cons, List.sum_cons, ih]; rfl
    rw [this]
    rfl
  | e :: l, nd, h => by
    have nd' := List.nodup_cons.mp nd
    have ih := st_sum (p := p) (w := w) ndP nd'.2 fun x hx => h x (List.mem_cons_of_mem _ hx)
    have e0 : hAt p w (aget l e.1) = 0 := by
      have : aget l e.1 = none := aget_none.mpr nd'.1
      rw [this]
      rfl
    have e1 : (P.map fun k => hAt p w (aget (e :: l) k)) = P.map fun k => if k = e.1 then hAt p w (some e.2) else hAt p w (aget l k) := List.map_congr_left fun k _ => by
      rw [aget_cons]
      by_cases z : k = e.1
      · rw [if_pos z, if_pos z.symm]
      · rw [if_neg z, if_neg (fun q => z q.symm)]
    rw [e1, sum_point ndP (h e List.mem_cons_self), e0, ← ih]
    by_cases hw : e.2.1 = p ∧ e.2.2.1 = w
    · rw [List.filter_cons_of_pos (by simpa using hw), List.map_cons, List.sum_cons]
      show _ = (if e.2.1 = p ∧ e.2.2.1 = w then e.2.2.2 else 0) + _ - 0
      rw [if_pos hw]
      omega
    · rw [List.filter_cons_of_neg (by simpa using hw)]
      show _ = (if e.2.1 = p ∧ e.2.2.1 = w then e.2.2.2 else 0) + _ - 0
      rw [if_neg hw]
      omega
theorem FM.held_eq {M : FM} {p : Int} {w : Str} {P : List Int} (ndP : P.Nodup) (nd : (M.st.map (·.1)).Nodup) (h : ∀ e ∈ M.st, e.1 ∈ P) : M.held p w = (P.map fun k => hAt p w (aget M.st k)).sum := st_sum ndP nd h
theorem FM.numbers_eq {M : FM} {P : List Int} (sP : P.Pairwise (· < ·)) (nd : (M.st.map (·.1)).Nodup) (h : ∀ e ∈ M.st, e.1 ∈ P) : M.numbers = P.filter fun k => (aget M.st k).isSome := by
  unfold FM.numbers
  symm
  refine srt_eq ?_ ((sP.imp fun h => Int.le_of_lt h).filter _)
  have ndP : P.Nodup := sP.imp fun h e => by omega
  refine (List.perm_ext_iff_of_nodup (ndP.filter _) nd).mpr fun k => ?_
  rw [List.mem_filter, List.mem_map]
  constructor
  · rintro ⟨_, h2⟩
    obtain ⟨v, e⟩ := Option.isSome_iff_exists.mp h2
    exact ⟨_, aget_mem e, rfl⟩
  · rintro ⟨e, he, rfl⟩
    refine ⟨h e he, ?_⟩
    have : aget M.st e.1 = some e.2 := aget_of_mem nd he
    rw [this]
    rfl
/-- 1, 2, .. n -/
def upto (n : Nat) : List Int := (List.range n).map fun k : Nat => ((k : Int) + 1)
theorem upto_sorted (n : Nat) : (upto n).Pairwise (· < ·) := by
  unfold upto
  rw [List.pairwise_map]
  exact List.pairwise_lt_range.imp fun h => by omega
theorem upto_nodup (n : Nat) : (upto n).Nodup := (upto_sorted n).imp fun h e => by omega
theorem upto_mem {n : Nat} {k : Int} : k ∈ upto n ↔ 1 ≤ k ∧ k ≤ n := by
  unfold upto
  rw [List.mem_map]
  constructor
  · rintro ⟨j, hj, rfl⟩
    have := List.mem_range.mp hj
    omega
  · intro h
    exact ⟨(k - 1).toNat, List.mem_range.mpr (by omega), by omega⟩
theorem aget_mem' {κ α : Type} [DecidableEq κ] {l : List (κ × α)} (nd : (l.map (·.1)).Nodup) {e : κ × α} (h : e ∈ l) : aget l e.1 = some e.2 := aget_of_mem nd h
end Sf
namespace Sf
open PySem L2
/-! ### what changes when one entry is put or dropped -/
/-- a list without repeats that has these and one more -/
theorem cover {κ : Type} [DecidableEq κ] (k : κ) : ∀ l : List κ, ∃ P : List κ, P.Nodup ∧ k ∈ P ∧ ∀ x ∈ l, x ∈ P
  | [] => ⟨[k], by simp, List.mem_cons_self, fun _ h => nomatch h⟩
  | a :: l => by
    obtain ⟨P, h1, h2, h3⟩ := cover k l
    by_cases h : a ∈ P
    · exact ⟨P, h1, h2, fun x hx => (List.mem_cons.mp hx).elim (fun e => e ▸ h) (h3 x)⟩
    · exact ⟨a :: P, List.nodup_cons.mpr ⟨h, h1⟩, List.mem_cons_of_mem _ h2, fun x hx => (List.mem_cons.mp hx).elim (fun e => e ▸ List.mem_cons_self) fun y => List.mem_cons_of_mem _ (h3 x y)⟩
theorem aput_keys_mem {κ α : Type} [DecidableEq κ] {l : List (κ × α)} {k : κ} {v : α} {e : κ × α} (h : e ∈ aput l k v) : e.1 = k ∨ e.1 ∈ l.map (·.1) := by
  rcases aput_mem h with rfl | h
  · exact .inl rfl
  · exact .inr (List.mem_map_of_mem h)
namespace FM
theorem held_put {M : FM} {p : Int} {w : Str} (nd : (M.st.map (·.1)).Nodup) (k : Int) (h : Int × Str × Int) : FM.held { M with st := aput M.st k h } p w = M.held p w - hAt p w (aget M.st k) + hAt p w (some h) := by
  obtain ⟨P, ndP, hk, hP⟩ := cover k (M.st.map (·.1))
  rw [FM.held_eq ndP nd fun e he => hP _ (List.mem_map_of_mem he)]
  rw [FM.held_eq (M := { M with st := aput M.st k h }) ndP (aput_nd nd) fun e he => by
    rcases aput_keys_mem he with q | q
    · rw [q]; exact hk
    · exact hP _ q]
  have e : (P.map fun j => hAt p w (aget (aput M.st k h) j)) = P.map fun j => if j = k then hAt p w (some h) else hAt p w (aget M.st j) := List.map_congr_left fun j _ => by
    rw [aget_put]
    split <;> rfl
  show (P.map fun j => hAt p w (aget (aput M.st k h) j)).sum = _
  rw [e, sum_point ndP hk]
  omega
theorem held_drop {M : FM} {p : Int} {w : Str} (nd : (M.st.map (·.1)).Nodup) (k : Int) : FM.held { M with st := adrop M.st k } p w = M.held p w - hAt p w (aget M.st k) := by
  obtain ⟨P, ndP, hk, hP⟩ := cover k (M.st.map (·.1))
  rw [FM.held_eq ndP nd fun e he => hP _ (List.mem_map_of_mem he)]
  rw [FM.held_eq (M := { M with st := adrop M.st k }) ndP (adrop_nd nd) fun e he => hP _ (List.mem_map_of_mem (List.mem_filter.mp he).1)]
  have e : (P.map fun j => hAt p w (aget (adrop M.st k) j)) = P.map fun j => if j = k then 0 else hAt p w (aget M.st j) := List.map_congr_left fun j _ => by
    rw [aget_drop]
    split <;> rfl
  show (P.map fun j => hAt p w (aget (adrop M.st k) j)).sum = _
  rw [e, sum_point ndP hk]
  omega
theorem whole_put {M : FM} {p n : Int} {w w' : Str} (nd : (M.am.map (·.1)).Nodup) : FM.whole { M with am := aput M.am (p, w) n } w' = if w' = w then M.whole w' - M.there p w + n else M.whole w' := by
  obtain ⟨P, ndP, hk, hP⟩ := cover p (M.am.map (·.1.1))
  have hP' : ∀ e ∈ M.am, e.1.1 ∈ P := fun e he => hP _ (List.mem_map_of_mem (f := fun e : (Int × Str) × Int => e.1.1) he)
  rw [FM.whole_eq ndP nd fun e he _ => hP' e he]
  rw [FM.whole_eq (M := { M with am := aput M.am (p, w) n }) ndP (aput_nd nd) fun e he _ => by
    rcases aput_mem he with q | q
    · rw [q]; exact hk
    · exact hP' e q]
  have et : ∀ q, FM.there { M with am := aput M.am (p, w) n } q w' = if q = p ∧ w' = w then n else M.there q w' := fun q => there_put (M := M)
  by_cases h : w' = w
  · rw [if_pos h]
    have e : (P.map fun q => FM.there { M with am := aput M.am (p, w) n } q w') = P.map fun q => if q = p then n else M.there q w' := List.map_congr_left fun q _ => by
      rw [et]
      by_cases z : q = p
      · rw [if_pos ⟨z, h⟩, if_pos z]
      · rw [if_neg (fun y => z y.1), if_neg z]
    rw [e, sum_point ndP hk, h]
    omega
  · rw [if_neg h]
    refine congrArg List.sum (List.map_congr_left fun q _ => ?_)
    rw [et, if_neg fun y => h y.2]
theorem whole_change {M : FM} {p n : Int} {w w' : Str} (nd : (M.am.map (·.1)).Nodup) : (M.change p w n).whole w' = if w' = w then M.whole w' + n else M.whole w' := by
  show FM.whole { M with am := aput M.am (p, w) (M.there p w + n) } w' = _
  rw [whole_put nd]
  by_cases h : w' = w
  · rw [if_pos h, if_pos h]; omega
  · rw [if_neg h, if_neg h]
end FM
end Sf
namespace Sf
open PySem PySem.Spec PyProof.Rows L2
section
variable {X : Cx} {K : PySem.W.Frag} {tg : Expr}
theorem pi_reversed' (h : X.K = K) {e : Expr} {ta : TA} {p pos : Pos} (hg : Gl X "reversed") (hm : X.mg "reversed" = none) (ha : PA X [e] ta) (hs : starEach [e] X.env = [(false, eval e X.env)] := by rfl) : PI X tg (.Call (.Name "reversed" p) [e] [] pos) (iRev K ta) := h ▸ pi_reversed hg hm ha hs
end
section
variable {Γ : Ga} {δ : De} {μ μ1 μ2 : Mu} {ta tb te : TE} {ds es : List PD} {K : PySem.W.Frag} {vs : List Nat}
/-- a list from its end -/
theorem w_rev (hK : Γ.K = K) (h : Ev Γ te δ μ (dL ds) μ1) : EvW Γ (iRev K (tCons te tNil)) δ μ (datas ds.reverse) μ1 := fun σ W A R r =>
  (a_cons h a_nil) σ W A _ fun vs W1 A1 l1 hs => by
    subst hK
    obtain ⟨v, rfl, h1⟩ := sv1 hs
    obtain ⟨p, vs, rfl, h3, h4⟩ := svL h1
    have hn := h4.length
    have hr : (datas ds.reverse).length = ds.length := by simp [datas]
    refine ⟨p, vs, rfl, sf_sqL W1.s h3, r _ [(.ref p, dL ds)] W1 A1 l1 (gh_one h1) ⟨fun i W hi hg => ?_, fun W hg => ?_, fun i W x H' hi hg y => ?_⟩⟩
    · obtain ⟨ws, h5, h6⟩ := gh_L (hg _ List.mem_cons_self)
      have hm := h6.length
      rw [hr] at hi
      have : vs.length - 1 - i < ws.length := by omega
      exact ⟨by omega, ws, _, h5, List.getElem?_eq_getElem this⟩
    · show vs.length ≤ _
      rw [hr]
      omega
    · obtain ⟨ws, h5, h6⟩ := gh_L (hg _ List.mem_cons_self)
      obtain ⟨e1, e2⟩ := y
      obtain ⟨d, e3, e4⟩ := h6.getV (e2 ws h5)
      rw [hr] at hi
      refine ⟨W, .d d, e1.symm, LeX.refl _ W, ?_, e4⟩
      unfold datas
      rw [List.getElem?_map, List.getElem?_reverse hi, ← hn, e3]
      rfl
/-- a comprehension whose parts change what is owned: the state by the number of parts -/
theorem e_lcM {α : Type} {wi : TI} {g : TG} {te : TE} (L : List α) (F : α → Sv) (y : Nat → PD) (mu : Nat → Mu) (hw : EvW Γ wi δ μ (L.map F) (mu 0))
    (hb : ∀ i a, L[i]? = some a → ∀ gh o, ∃ δ2, GW { Γ with gh := gh } g vs (wipeD δ vs) (o :: mu i) (F a) δ2 ∧ Ev { Γ with gh := gh } te δ2 (o :: mu i) (.d (y i)) (o :: mu (i + 1)))
    (hlen : L.length ≤ 100000) : Ev Γ (tLc wi g tYes te vs) δ μ (dL ((List.range L.length).map y)) (mu L.length) := fun σ W A Q q =>
  hw σ W A _ fun J gs W1 A1 l1 hg Y => by
    have A1' := A1.ghosts hg
    intro D hD
    obtain ⟨f1, f2, f3⟩ := A1'.fresh hD
    have A2 := A1'.new (o := .lst []) (u := .lst []) hD ⟨[], upd_same, .nil⟩
    have lenL : (L.map F).length = L.length := List.length_map _
    refine ⟨fun i m H' => m = L.length - i ∧ i ≤ L.length ∧ ∃ W', Wd.h W' = H' ∧ Same W1.i W'.i ∧ Ast { Γ with gh := gs ++ Γ.gh } σ W' δ ((D, .lst ((List.range i).map y)) :: mu i), ⟨L.length, by simp, Nat.zero_le _, W1.wr D (.lst []) (Wd.none_of hD), rfl, (Same.rfl' : Same W1.i W1.i), A2⟩, ?_⟩
    rintro i m H' ⟨rfl, hi, W2, rfl, l2, A3⟩
    have hg2 : Gh Γ.K gs W2 := fun g hm => A3.gh g (List.mem_append_left _ hm)
    by_cases hlt : i < L.length
    · refine .inr ⟨Y.go i W2 (by rw [lenL]; exact hlt) hg2, fun H4 => i + 1 ≤ L.length ∧ ∃ W', Wd.h W' = H4 ∧ Same W1.i W'.i ∧ Ast { Γ with gh := gs ++ Γ.gh } σ W' δ ((D, .lst ((List.range (i + 1)).map y)) :: mu (i + 1)), fun H4 h4 => ⟨L.length - (i + 1), by omega, rfl, h4.1, h4.2⟩, fun x H3 yl => ?_⟩
      obtain ⟨W3, s, rfl, l3, e3, e4⟩ := Y.yld i W2 x H3 (by rw [lenL]; exact hlt) hg2 yl
      obtain ⟨a, ea, es⟩ : ∃ a, L[i]? = some a ∧ s = F a := by
        rw [List.getElem?_map] at e3
        cases q1 : L[i]? with
        | none => rw [q1] at e3; cases e3
        | some a =>
          rw [q1] at e3
          cases e3
          exact ⟨a, rfl, rfl⟩
      subst es
      obtain ⟨δ2, h5, h7⟩ := hb i a ea (gs ++ Γ.gh) (D, .lst ((List.range i).map y))
      have A4 := A3.le l3
      refine h5 x (wipe σ vs) W3 (A4.wipe vs) e4 _ fun σ5 A5 e5 => ⟨?_, ?_⟩
      · rw [e5]
        refine List.ext_getElem? fun j => ?_
        by_cases m : j ∈ vs
        · rw [wipe_in m, wipe_in m, wipe_length]
        · simp only [wipe_get m]
      refine t_yes (Γ := { Γ with gh := gs ++ Γ.gh }) (δ := δ2) (μ := (D, .lst ((List.range i).map y)) :: mu i) σ5 W3 A5 _ fun W6 A6 l6 => ?_
      rw [if_pos rfl]
      refine h7 σ5 W6 A6 _ fun v W7 A7 l7 e7 => ?_
      obtain ⟨ws, k1, k2⟩ := A7.ow.ok _ List.mem_cons_self
      have hsz : ws.length < sizeLine := by
        rw [k2.length]
        refine Nat.lt_of_lt_of_le ?_ (show 100001 ≤ sizeLine by decide)
        rw [List.length_map, List.length_range]
        omega
      refine ⟨ws, k1, hsz, hlt, ?_⟩
      have A8 := A4.back A7 (l6.trans l7)
      have hDi : W7.i D = none := (A8.ow.fr _ List.mem_cons_self).1
      have A9 := A8.wr (o' := .lst ((List.range i).map y ++ [y i])) (u := .lst (ws ++ [v])) (.inr f2) hDi ⟨_, upd_same, k2.app (.cons e7 .nil)⟩
      refine ⟨W7.wr D (.lst (ws ++ [v])) hDi, rfl, ((l2.trans l3.i).trans l6).trans l7, ?_⟩
      rw [List.range_succ, List.map_append]
      exact A9
    · have e : i = L.length := by omega
      subst e
      refine .inl ⟨?_, ?_⟩
      · have := Y.stop W2 hg2
        rwa [lenL] at this
      · obtain ⟨W4, e4, l4, A4, h4⟩ := A3.unghosts.fz f2
        rw [← e4]
        exact q _ W4 A4 ((l1.trans l2).trans l4) h4
theorem rev_get {l : List Int} {i : Nat} {s : Sv} (h : (datas (l.map PyData.int).reverse)[i]? = some s) : ∃ k, s = dI k ∧ l.reverse[i]? = some k := by
  unfold datas at h
  rw [← List.map_reverse, List.map_map, List.getElem?_map] at h
  cases q : l.reverse[i]? with
  | none => rw [q] at h; cases h
  | some k => rw [q] at h; cases h; exact ⟨k, rfl, rfl⟩
theorem drop_get {α : Type} {l : List α} {i : Nat} {a : α} (h : l[i]? = some a) : l.drop i = a :: l.drop (i + 1) := by
  obtain ⟨hi, rfl⟩ := List.getElem?_eq_some_iff.mp h
  exact (List.drop_eq_getElem_cons hi)
end
end Sf
namespace Sf
open PySem L2
theorem hV_shp {p n : Int} {w : Str} (h : PyData.strOk w = true) : SeqAt.shaped (hV (p, w, n)) = true := (shp_tup (n := 0) fun d hd => by
  simp at hd
  rcases hd with rfl | rfl | rfl
  · exact shp_int
  · exact shp_str h
  · exact shp_int).ok (by decide)
theorem hV_eqv {p n : Int} {w : Str} : PyData.eqv (hV (p, w, n)) (.tuple [.int p, .str w, .int n]) = true := by simp [hV, PyData.eqv, PyData.eqvAll]
/-! ### what a count does -/
def pairD (e : Int × Int) : PD := .tuple [.int e.1, .int e.2]
def pairsD (l : List (Int × Int)) : List PD := l.map pairD
theorem aput_len_mem {κ α : Type} [DecidableEq κ] {l : List (κ × α)} {k : κ} {v h : α} (e : aget l k = some h) : (aput l k v).length = l.length := by
  have hk : (k, h) ∈ l := aget_mem e
  have : (l.any fun e => decide (e.1 = k)) = true := by
    rw [List.any_eq_true]
    exact ⟨_, hk, by simp⟩
  unfold aput
  rw [if_pos this, List.length_map]
theorem aput_keys_same {κ α : Type} [DecidableEq κ] {l : List (κ × α)} {k : κ} {v h : α} (e : aget l k = some h) : (aput l k v).map (·.1) = l.map (·.1) := by
  rw [aput_keys, if_pos]
  exact List.mem_map_of_mem (f := (·.1)) (aget_mem e)
namespace FM
theorem wok_ended {M : FM} {k : Int} (h : M.wok) : (M.ended k).wok := fun e he => h e (List.mem_filter.mp he).1
theorem wok_rehold {M : FM} {k p n : Int} {w : Str} (h : M.wok) (hw : PyData.strOk w = true) : (M.rehold k p w n).wok := fun e he => by
  have he : e ∈ aput M.st k (p, w, n) := he
  rcases aput_mem he with rfl | q
  · exact hw
  · exact h e q
theorem sz_rehold {M : FM} {k p n : Int} {w : Str} {h : Int × Str × Int} {j : Nat} (e : aget M.st k = some h) (hz : M.sz j) : (M.rehold k p w n).sz j :=
  ⟨hz.1, by show (aput M.st k (p, w, n)).length ≤ j; rw [aput_len_mem e]; exact hz.2.1, hz.2.2.1, hz.2.2.2⟩
/-- one hold loses -/
def lose1 (M : FM) (p : Int) (w : Str) (k x : Int) : FM × List (Int × Int) × Int :=
  match aget M.st k with
  | none => (M, [], x)
  | some h =>
    if h.1 = p ∧ h.2.1 = w ∧ 0 < min h.2.2 x then
      (if min h.2.2 x = h.2.2 then M.ended k else M.rehold k p w (h.2.2 - min h.2.2 x), [(k, min h.2.2 x)], x - min h.2.2 x)
    else (M, [], x)
theorem lose1_none {M : FM} {p k x : Int} {w : Str} (e : aget M.st k = none) : M.lose1 p w k x = (M, [], x) := by
  unfold lose1
  rw [e]
theorem lose1_no {M : FM} {p k x : Int} {w : Str} {h : Int × Str × Int} (e : aget M.st k = some h) (hn : ¬(h.1 = p ∧ h.2.1 = w ∧ 0 < min h.2.2 x)) : M.lose1 p w k x = (M, [], x) := by
  unfold lose1
  rw [e]
  exact if_neg hn
theorem lose1_all {M : FM} {p k x : Int} {w : Str} {h : Int × Str × Int} (e : aget M.st k = some h) (hn : h.1 = p ∧ h.2.1 = w ∧ 0 < min h.2.2 x) (ha : min h.2.2 x = h.2.2) : M.lose1 p w k x = (M.ended k, [(k, min h.2.2 x)], x - min h.2.2 x) := by
  unfold lose1
  rw [e]
  show (if _ then _ else _) = _
  rw [if_pos hn, if_pos ha]
theorem lose1_part {M : FM} {p k x : Int} {w : Str} {h : Int × Str × Int} (e : aget M.st k = some h) (hn : h.1 = p ∧ h.2.1 = w ∧ 0 < min h.2.2 x) (ha : ¬min h.2.2 x = h.2.2) : M.lose1 p w k x = (M.rehold k p w (h.2.2 - min h.2.2 x), [(k, min h.2.2 x)], x - min h.2.2 x) := by
  unfold lose1
  rw [e]
  show (if _ then _ else _) = _
  rw [if_pos hn, if_neg ha]
theorem lose1_cases (M : FM) (p : Int) (w : Str) (k x : Int) : M.lose1 p w k x = (M, [], x) ∨ (∃ h, aget M.st k = some h ∧ (h.1 = p ∧ h.2.1 = w ∧ 0 < min h.2.2 x) ∧ min h.2.2 x = h.2.2 ∧ M.lose1 p w k x = (M.ended k, [(k, min h.2.2 x)], x - min h.2.2 x)) ∨
    (∃ h, aget M.st k = some h ∧ (h.1 = p ∧ h.2.1 = w ∧ 0 < min h.2.2 x) ∧ ¬min h.2.2 x = h.2.2 ∧ M.lose1 p w k x = (M.rehold k p w (h.2.2 - min h.2.2 x), [(k, min h.2.2 x)], x - min h.2.2 x)) := by
  cases e : aget M.st k with
  | none => exact .inl (lose1_none e)
  | some h =>
    by_cases hn : h.1 = p ∧ h.2.1 = w ∧ 0 < min h.2.2 x
    · by_cases ha : min h.2.2 x = h.2.2
      · exact .inr (.inl ⟨h, rfl, hn, ha, lose1_all e hn ha⟩)
      · exact .inr (.inr ⟨h, rfl, hn, ha, lose1_part e hn ha⟩)
    · exact .inl (lose1_no e hn)
def lose (p : Int) (w : Str) : List Int → FM → Int → FM × List (Int × Int)
  | [], M, _ => (M, [])
  | k :: ks, M, x => ((lose p w ks (M.lose1 p w k x).1 (M.lose1 p w k x).2.2).1, (M.lose1 p w k x).2.1 ++ (lose p w ks (M.lose1 p w k x).1 (M.lose1 p w k x).2.2).2)
def lost (M : FM) (p : Int) (w : Str) (x : Int) : FM × List (Int × Int) := lose p w M.numbers.reverse M x
/-- what a property of a floor needs to be kept by losses -/
theorem lose_keeps {p : Int} {w : Str} (P : FM → Prop) (h1 : ∀ M k h, P M → aget M.st k = some h → P (M.ended k)) (h2 : ∀ M k h n, P M → aget M.st k = some h → h.1 = p → h.2.1 = w → P (M.rehold k p w n)) :
    ∀ (ks : List Int) (M : FM) (x : Int), P M → P (lose p w ks M x).1
  | [], M, x, h => h
  | k :: ks, M, x, h => by
    show P (lose p w ks _ _).1
    refine lose_keeps P h1 h2 ks _ _ ?_
    rcases lose1_cases M p w k x with e | ⟨g, e, hn, _, e'⟩ | ⟨g, e, hn, _, e'⟩
    · rw [e]; exact h
    · rw [e']; exact h1 M k g h e
    · rw [e']; exact h2 M k g _ h e hn.1 hn.2.1
theorem lost_sz {M : FM} {p x : Int} {w : Str} {n : Nat} (h : M.sz n) : (M.lost p w x).1.sz n :=
  lose_keeps (fun M => M.sz n) (fun M k h z e => z.ended) (fun M k h n z e _ _ => sz_rehold e z) _ M x h
theorem lost_wok {M : FM} {p x : Int} {w : Str} (h : M.wok) (hw : PyData.strOk w = true) : (M.lost p w x).1.wok :=
  lose_keeps (fun M => M.wok) (fun M k h z e => wok_ended z) (fun M k h n z e _ _ => wok_rehold z hw) _ M x h
theorem lost_same {M : FM} {p x : Int} {w : Str} : (M.lost p w x).1.am = M.am ∧ (M.lost p w x).1.to = M.to ∧ (M.lost p w x).1.de = M.de ∧ (M.lost p w x).1.last = M.last :=
  lose_keeps (fun M' => M'.am = M.am ∧ M'.to = M.to ∧ M'.de = M.de ∧ M'.last = M.last) (fun M k h z e => z) (fun M k h n z e _ _ => z) _ M x ⟨rfl, rfl, rfl, rfl⟩
theorem lost_nd {M : FM} {p x : Int} {w : Str} (h : (M.st.map (·.1)).Nodup) : ((M.lost p w x).1.st.map (·.1)).Nodup :=
  lose_keeps (fun M => (M.st.map (·.1)).Nodup) (fun M k h z e => adrop_nd z) (fun M k h n z e _ _ => aput_nd z) _ M x h
/-- a count -/
def counted (M : FM) (p : Int) (w : Str) (n : Int) : FM × List (Int × Int) :=
  ((((M.tell w 0 0 (n - M.there p w)).lost p w (M.held p w - n)).1.put p w n).note (.tuple [.str "counted", .int p, .str w, .int n]), ((M.tell w 0 0 (n - M.there p w)).lost p w (M.held p w - n)).2)
end FM
/-- on the way through the numbers -/
structure LostAt (p : Int) (w : Str) (ks : List Int) (M : FM) (x : Int) (t : List (Int × Int)) (r : FM × List (Int × Int)) : Prop where
  eq : r = ((FM.lose p w ks M x).1, t ++ (FM.lose p w ks M x).2)
  ok : ∀ k ∈ ks, ∃ h, aget M.st k = some h
  nd : ks.Nodup
theorem LostAt.start {p x : Int} {w : Str} {M : FM} (nd : (M.st.map (·.1)).Nodup) : LostAt p w M.numbers.reverse M x [] (M.lost p w x) := by
  have hp : M.numbers.Perm (M.st.map (·.1)) := List.mergeSort_perm _ _
  refine ⟨rfl, fun k hk => ?_, (List.reverse_perm _).nodup_iff.mpr (hp.nodup_iff.mpr nd)⟩
  have hk : k ∈ M.st.map (·.1) := hp.mem_iff.mp (List.mem_reverse.mp hk)
  cases e : aget M.st k with
  | none => exact absurd hk (aget_none.mp e)
  | some h => exact ⟨h, rfl⟩
theorem LostAt.step {p x k : Int} {w : Str} {ks : List Int} {M : FM} {t : List (Int × Int)} {r : FM × List (Int × Int)} (h : LostAt p w (k :: ks) M x t r) : LostAt p w ks (M.lose1 p w k x).1 (M.lose1 p w k x).2.2 (t ++ (M.lose1 p w k x).2.1) r := by
  have hnd := List.nodup_cons.mp h.nd
  refine ⟨?_, fun j hj => ?_, hnd.2⟩
  · rw [h.eq, List.append_assoc]
    rfl
  · obtain ⟨g, hg⟩ := h.ok j (List.mem_cons_of_mem _ hj)
    have hne : j ≠ k := fun e => hnd.1 (e ▸ hj)
    rcases FM.lose1_cases M p w k x with e | ⟨g2, e, _, _, e'⟩ | ⟨g2, e, _, _, e'⟩
    · rw [e]; exact ⟨g, hg⟩
    · rw [e']
      refine ⟨g, ?_⟩
      show aget (adrop M.st k) j = _
      rw [aget_drop, if_neg hne, hg]
    · rw [e']
      refine ⟨g, ?_⟩
      show aget (aput M.st k _) j = _
      rw [aget_put, if_neg hne, hg]
theorem LostAt.done {p x : Int} {w : Str} {M : FM} {t : List (Int × Int)} {r : FM × List (Int × Int)} (h : LostAt p w [] M x t r) : r = (M, t) := by
  rw [h.eq]
  show (M, t ++ []) = _
  rw [List.append_nil]
end Sf
namespace Sf
open PySem PySem.Spec PyProof.Rows L2
/-- a def that gives (-room[1], room[0]), run on a pair of whole numbers: all that was there stays -/
theorem rank_pure {P : Program} {w : World} {K : PySem.W.Frag} {x qual : Str} {params : Arguments} {body : List Stmt} {scope : Scope} {f : Addr} {fd : FuncData} (F : FunD K x qual params body scope [] [] f fd) (S : FnScope ["room"] ["room"] scope) (hloc : scope.names.lookup ("room" : Str) = some NameKind.local) (hbind : Binds K fd ["room"] [])
    {p1 p2 p3 p4 p5 p6 p7 p8 p9 : Pos} {k1 k2 cx} (hbody : body = [.Return (some (.Tuple [.UnaryOp .USub (.Subscript (.Name "room" p1) (.Constant (.int 1) k1 p2) p3) p4, .Subscript (.Name "room" p5) (.Constant (.int 0) k2 p6) p7] cx p8)) p9])
    {A : Around} {s : Shared} {t : Addr} {a b : Int} {u1 u2 : Tok} (hd : A.depth < recursionLimit) (KX : K.In s.heap) (lim : s.heap.NoLimit) (ht : IsTup s.heap t #[.int a u1, .int b u2]) :
    wpAny (model P w) A (call (.ref f) [.ref t]) (PySem.W.KeyPure (.tuple [.int (-b), .int a]) s) (fun _ _ => False) s := by
  obtain ⟨oc, od, dV, kV, doc, pm, an, cdv, ct, osl, rfl, lk, hcd, _, _⟩ := F.ex
  have hb := hbind s [.ref t] KX rfl
  have hkind : ∀ y ∈ [(("room" : Str), Value.ref t)], scope.names.lookup y.1 = some .local ∨ (scope.names.lookup y.1 = some .cell ∧ ((cellsFrom (s.heap.objs.size + 1) scope.names []).lookup y.1).isSome = true) := fun y hy => by
    cases List.mem_singleton.mp hy
    exact .inl hloc
  refine wpAny_call ?_
  refine codeAny_call_function hd (KX _ _ lk) rfl S.co S.gen rfl (PySem.W.codeRec_of KX hcd) (hb _ _ _ _ ?_)
  refine wpAny_newFunctionEnv_cells S.kind hkind fun env he s1 x => ?_
  have ekind : env.scope.kind = .function := by rw [he]; exact S.kind
  have hkn : env.kindOf "room" = some .local := by
    rw [he]
    first
    | exact hloc
    | (simp only [Env.kindOf]; exact hloc)
    | (unfold Env.kindOf; rw [if_pos S.kind]; exact hloc)
    | simpa [Env.kindOf, newEnv, S.kind] using hloc
  have hm : (bindL env.kindOf [(("room" : Str), Value.ref t)] fun _ => none) "room" = some (.ref t) := by
    simp [bindL, hkn]
  clear he
  refine ⟨lim.keeps x.toInCall.keep, codeAny_func ?_⟩
  have kp := x.toInCall.keep
  have hns := x.toInCall.ns
  obtain ⟨h1, tk1, rfl⟩ := x.toInCall.same
  have ht1 : IsTup h1 t #[.int a u1, .int b u2] := ht.keeps kp
  rw [hbody]
  refine wpAny_execs_cons (wpAny_Return_some (wpAny_Tuple_spliced ?_))
  refine Calls.spliced_cons (UnaryOp_ (Subscript_ (wpAny_Name (wpAny_loadName_local ekind hkn hns hm (wpAny_Constant_int ?_)) rfl)))
  refine subscriptTail_builtinR (x := .int b u2) ht1.typeIs slot_tuple_getitem.lookup (getItem_tuple (j := 1) (x := .int b u2) ht1 (by decide) (by decide) rfl rfl ⟨rfl, neg_int ?_⟩)
  refine Calls.spliced_cons (Subscript_ (wpAny_Name (wpAny_loadName_local ekind hkn hns hm (wpAny_Constant_int ?_)) rfl))
  refine subscriptTail_builtinR (x := .int a u1) ht1.typeIs slot_tuple_getitem.lookup (getItem_tuple (j := 0) (x := .int a u1) ht1 (by decide) (by decide) rfl rfl ⟨rfl, Calls.spliced_nil ?_⟩)
  refine ⟨show 2 ≤ sizeLine by decide, ?_⟩
  refine ⟨_, _, rfl, fun b o e => Heap.get?_push_of_some _ (kp b o e), ?_⟩
  exact .tuple (Heap.get?_push_size _ rfl) rfl rfl (.cons (as := []) (.int _ _) (.cons (as := []) (.int _ _) .nil))
end Sf
namespace Sf
open PySem PySem.Spec PyProof.Rows L2
/-! ### sorted(pairs, key=rank) -/
def PairsV (K : PySem.W.Frag) (H : Hp) (xs : List V) (ps : List (Int × Int)) : Prop := xs.length = ps.length ∧ ∀ z ∈ xs.zip ps, ∃ t, z.1 = .ref t ∧ SqT K H t [.int z.2.1, .int z.2.2]
/-- the most free first, of as much the lesser place -/
def rankLe (p q : Int × Int) : Bool := decide (-p.2 < -q.2 ∨ (-p.2 = -q.2 ∧ p.1 ≤ q.1))
def rankV (x y : V × (Int × Int)) : Bool := rankLe x.2 y.2
def sortPV (xs : List V) (ps : List (Int × Int)) : List V := ((xs.zip ps).mergeSort rankV).map (·.1)
def rSortRank (K : PySem.W.Frag) (f : Addr) : List V → List V → Hp → VK → Prop := fun vs zs H Q => ∃ (l : Addr) (xs : List V) (ps : List (Int × Int)), vs = [.ref l] ∧ zs = [.ref f] ∧ SqL K H l xs ∧ PairsV K H xs ps ∧ ∀ q, H q = none → Q (.ref q) (upd H q (.lst (sortPV xs ps)))
theorem vals_of_each {R : Value → V × (Int × Int) → Prop} (h : ∀ v x, R v x → RelV x.1 v) : ∀ {vs : List Value} {ys : List (V × (Int × Int))}, PySem.W.EachIs R vs ys → Vals (ys.map (·.1)) vs
  | _, _, .nil => .nil
  | _, _, .cons a t => .cons (h _ _ a) (vals_of_each h t)
theorem cr_sortedRank {X : Cx} {K : PySem.W.Frag} {k : Nat} {x qual : Str} {params : Arguments} {body : List Stmt} {scope : Scope} {f : Addr} {fd : FuncData} (hK : X.K = K) (F : FunD K x qual params body scope [] [] f fd) (S : FnScope ["room"] ["room"] scope) (hloc : scope.names.lookup ("room" : Str) = some NameKind.local) (hbind : Binds K fd ["room"] [])
    {p1 p2 p3 p4 p5 p6 p7 p8 p9 : Pos} {k1 k2 cx} (hbody : body = [.Return (some (.Tuple [.UnaryOp .USub (.Subscript (.Name "room" p1) (.Constant (.int 1) k1 p2) p3) p4, .Subscript (.Name "room" p5) (.Constant (.int 0) k2 p6) p7] cx p8)) p9]) (hr : Room k X.A) :
    CallRK X (.builtin "sorted") [Str.ofString "key"] (rSortRank K f) := by
  intro pins s σ H vs zs us ws Q I r rz h
  subst hK
  obtain ⟨l, xs, ps, rfl, rfl, hs, ⟨hlen, hp⟩, q⟩ := h
  obtain rfl := Vals.ref1 r
  obtain ⟨w1, rfl, e1⟩ := vals1 rz
  obtain rfl : w1 = Value.ref f := e1
  obtain ⟨its, rv, hl, hz⟩ := I.list hs
  have hil := rv.length
  have hzl : (xs.zip ps).length = xs.length := by rw [List.length_zip, hlen, Nat.min_self]
  have e : PySem.W.EachIs (fun v (x : V × (Int × Int)) => ∃ t u1 u2, x.1 = V.ref t ∧ v = Value.ref t ∧ IsTup s.heap t #[.int x.2.1 u1, .int x.2.2 u2]) its (xs.zip ps) := by
    refine PySem.W.EachIs.of_zip (by rw [hzl, hil]) fun p hp' => ?_
    obtain ⟨i, hi, hi2⟩ := List.getElem_of_mem hp'
    rw [List.length_zip] at hi
    rw [List.getElem_zip] at hi2
    subst hi2
    have hi3 : i < xs.length := by omega
    have hi4 : i < ps.length := by omega
    have hi5 : i < its.length := by omega
    obtain ⟨u, hu, ru⟩ := rv.get (List.getElem?_eq_getElem hi3)
    rw [List.getElem?_eq_getElem hi5] at hu
    cases hu
    obtain ⟨t, et, ht⟩ := hp (xs[i], ps[i]) (List.mem_of_getElem? (i := i) (by rw [List.getElem?_zip_eq_some]; exact ⟨List.getElem?_eq_getElem hi3, List.getElem?_eq_getElem hi4⟩))
    dsimp only at et ht
    obtain ⟨itt, rt, tt, _⟩ := I.tuple ht
    obtain ⟨v1, v2, rfl, r1, r2⟩ := vals2 rt
    obtain ⟨u1, rfl⟩ := r1
    obtain ⟨u2, rfl⟩ := r2
    rw [et] at ru
    refine ⟨t, u1, u2, ?_, ru, ?_⟩
    · rw [List.getElem_zip]
      exact et
    · rw [List.getElem_zip]
      exact tt
  refine PySem.W.sorted_key_data (b := false) (fun x : V × (Int × Int) => .tuple [.int (-x.2.2), .int x.2.1]) hl.isList e (PySem.W.AllAlike.of fun _ _ => by simp [PySem.W.alike, PySem.W.alikeAll]) (PySem.W.Sortable.tuples fun _ => ⟨_, _, rfl⟩) (by rw [hzl]; exact hz) (fun p _ => ?_) (PyProof.Rows.ksk_s1 _ _) (fun _ => PyProof.Rows.ksk_l1 _ _) (fun _ => PyProof.Rows.ksk_t1 _ _)
    (fun v p ⟨t, u1, u2, _, ev, ht⟩ _ h tk kp => ?_) fun out c h' tk kp _ hD hol eo => ?_
  · have hd : (PyData.tuple [.int (-p.2.2), .int p.2.1]).depth = 1 := by simp [PyData.depth, PyData.depthAll]
    have := hr.units
    omega
  · subst ev
    exact rank_pure (s := { s with heap := h, toks := tk }) F S hloc hbind hbody (show X.A.depth < recursionLimit from hr.depth) (I.kIn.keeps kp) (I.nolimit.keeps kp) (ht.keeps kp)
  · rw [PySem.W.dataLe_ii (β := V × (Int × Int)) (fun p => -p.2.2) (fun p => p.2.1)] at eo
    have vv : Vals (sortPV xs ps) out := vals_of_each (fun v x ⟨t, u1, u2, h1, h2, _⟩ => by rw [h1, h2]; rfl) eo
    refine ⟨.ref (s.heap.objs.size + 1), upd H (s.heap.objs.size + 1) (.lst (sortPV xs ps)), I.laid (t' := tk) kp (Nat.le_succ _) ⟨?_, out, c, vv, hD⟩, rfl, q _ (I.hok.fresh (Nat.le_succ _))⟩
    rw [vv.length, hol, hzl]
    exact hz
/-- the sorted pairs -/
def dsort (l : List (Int × Int)) : List (Int × Int) := l.mergeSort rankLe
theorem dpAll_zip {K : PySem.W.Frag} {I : Hp} : ∀ {vs : List V} {l : List (Int × Int)}, DpAll K I vs (pairsD l) → vs.length = l.length ∧ ∀ z ∈ vs.zip l, Dp K I z.1 (pairD z.2)
  | [], [], _ => ⟨rfl, fun _ h => nomatch h⟩
  | v :: vs, p :: l, .cons a t => by
    obtain ⟨h1, h2⟩ := dpAll_zip t
    refine ⟨congrArg (· + 1) h1, fun z hz => ?_⟩
    rcases List.mem_cons.mp hz with rfl | hz
    · exact a
    · exact h2 z hz
theorem dpAll_of {K : PySem.W.Frag} {I : Hp} : ∀ (ys : List (V × (Int × Int))), (∀ z ∈ ys, Dp K I z.1 (pairD z.2)) → DpAll K I (ys.map (·.1)) (pairsD (ys.map (·.2)))
  | [], _ => .nil
  | y :: ys, h => .cons (h y List.mem_cons_self) (dpAll_of ys fun z hz => h z (List.mem_cons_of_mem _ hz))
theorem n_sortRank {Γ : Ga} {δ : De} {μ μ1 : Mu} {te : TE} {K : PySem.W.Frag} {f : Addr} {l : List (Int × Int)} (hK : Γ.K = K) (h : Ev Γ te δ μ (dL (pairsD l)) μ1) : EvN1 Γ (tCKw (rSortRank K f) (tCons te tNil) (tCons (tC (.ref f)) tNil)) δ μ (.lst (pairsD (dsort l))) μ1 := fun σ W A Q q =>
  a_cons h a_nil σ W A _ fun vs W1 A1 l1 hs => by
    subst hK
    obtain ⟨v, rfl, h1⟩ := sv1 hs
    obtain ⟨p, ws, rfl, h3, h4⟩ := svL h1
    obtain ⟨hl, hz⟩ := dpAll_zip h4
    refine ⟨p, ws, l, rfl, rfl, sf_sqL W1.s h3, ⟨hl, fun z hzm => ?_⟩, fun q' hq' => ?_⟩
    · have hd := hz z hzm
      obtain ⟨t, us, et, h5, h6⟩ := svU (ds := [.int z.2.1, .int z.2.2]) hd
      cases h6 with
      | cons ha t2 =>
        cases t2 with
        | cons hb t3 =>
          cases t3
          cases svI (K := Γ.K) (I := W1.i) ha
          cases svI (K := Γ.K) (I := W1.i) hb
          exact ⟨t, et, sf_sqT W1.s h5⟩
    · have ha := dpAll_of (K := Γ.K) (I := W1.i) ((ws.zip l).mergeSort rankV) fun z hzm => hz z ((List.mergeSort_perm _ _).mem_iff.mp hzm)
      have e2 : ((ws.zip l).mergeSort rankV).map (·.2) = dsort l := by
        have e3 := List.map_mergeSort (r := rankV) (s := rankLe) (f := fun z : V × (Int × Int) => z.2) (l := ws.zip l) (fun a _ b _ => rfl)
        rw [e3]
        unfold dsort
        congr 1
        exact List.map_snd_zip (by omega)
      rw [e2] at ha
      exact new1 (.lst (pairsD (dsort l))) A1 l1 hq' ⟨_, upd_same, ha⟩ q
end Sf
namespace Sf
open PySem PySem.Spec PyProof.Rows L2
/-! ### list + list -/
def rCatL (K : PySem.W.Frag) : R2 := fun x y H Q => ∃ l b xs zs, x = .ref l ∧ y = .ref b ∧ SqL K H l xs ∧ SqL K H b zs ∧ xs.length + zs.length ≤ sizeLine ∧ ∀ p, H p = none → Q (.ref p) (upd H p (.lst (xs ++ zs)))
theorem op_catD {X : Cx} {K : PySem.W.Frag} (hK : X.K = K) : OpR X (binaryOp .Add) (rCatL K) := by
  intro pins s σ H x y v u Q I rx ry h
  subst hK
  obtain ⟨l, b, xs, zs, rfl, rfl, hx, hb, hz, q⟩ := h
  cases rx
  cases ry
  obtain ⟨its, r, ⟨⟨c1, d1, da1, s1⟩, n1, e1, f1, g1, k1⟩, z1⟩ := I.list hx
  obtain ⟨its2, r2, ⟨⟨c2, d2, da2, s2⟩, n2, e2, f2, g2, k2⟩, z2⟩ := I.list hb
  simp only at f1 g1 k1 f2 g2 k2
  subst f1 g1 k1 f2 g2 k2
  have q1 := r.length
  have q2 := r2.length
  refine concat_meets ⟨_, e1, rfl⟩ ⟨_, e2, rfl⟩ noFill_list_add seq_list_add PySem.F.slot_list_add PySem.F.entry_list_add (PySem.F.args_list_add_2 _ _)
    (list_addW l b its.toArray its2.toArray n1 n2 none none s1 s2 (by rw [List.size_toArray, List.size_toArray]; omega)) ⟨e1, e2, ?_⟩
  rw [show its.toArray ++ its2.toArray = (its ++ its2).toArray by simp]
  exact ⟨.ref s.heap.objs.size, _, I.laid (t' := s.toks) (o := .lst (xs ++ zs)) (fun b ob k => Heap.get?_push_of_some _ k) (Nat.le_refl _) ⟨by rw [List.length_append]; exact hz, _, 0, r.append r2, Heap.get?_push_size _ rfl⟩, rfl, q _ (I.hok.fresh (Nat.le_refl _))⟩
theorem hu65 {k : Nat} {A : Around} (r : Room k A) : A.units + 65 < cLine := by have := r.un; omega
theorem op_inD' {X : Cx} {K : PySem.W.Frag} (h : X.K = K) (hu : X.A.units + 65 < cLine) : OpR X (compareOp .In) (rInD K) := h ▸ op_inD hu
theorem op_notInD' {X : Cx} {K : PySem.W.Frag} (h : X.K = K) (hu : X.A.units + 65 < cLine) : OpR X (compareOp .NotIn) (rNotInD K) := h ▸ op_notInD hu
section
variable {Γ : Ga} {δ : De} {μ μ1 μ2 : Mu} {ta tb te : TE} {K : PySem.W.Frag} {d : PD} {ds es : List PD}
theorem e_catD (hK : Γ.K = K) (ha : Ev Γ ta δ μ (dL ds) μ1) (hb : Ev Γ tb δ μ1 (dL es) μ2) (hz : ds.length + es.length ≤ 1000000) : Ev Γ (tOp (rCatL K) ta tb) δ μ (dL (ds ++ es)) μ2 := fun σ W A Q q =>
  e_two ha hb A fun v w W' A' l h1 h2 => by
    subst hK
    obtain ⟨p, vs, rfl, h3, h4⟩ := svL h1
    obtain ⟨p2, ws, rfl, h5, h6⟩ := svL h2
    refine ⟨p, p2, vs, ws, rfl, rfl, sf_sqL W'.s h3, sf_sqL W'.s h5, ?_, fun a ha => ?_⟩
    · rw [h4.length, h6.length]
      exact Nat.le_trans hz (by decide)
    · have l2 := le_put (o := .lst (vs ++ ws)) ha
      exact q _ (W'.put a _ ha) (A'.le l2) (l.trans l2.i) (.lst (SqL.of upd_same) ((h4.app h6).ex l2.i))
theorem e_inD (hK : Γ.K = K) (ha : Ev Γ ta δ μ (.d d) μ1) (hb : Ev Γ tb δ μ1 (dL ds) μ2) (s1 : SeqAt.shaped d = true) (s2 : SeqAt.shaped (.list ds) = true) : Ev Γ (tOp (rInD K) ta tb) δ μ (dB (ds.any fun z => PyData.eqv z d)) μ2 := fun σ W A Q q =>
  e_two ha hb A fun v w W' A' l h1 h2 => ⟨d, ds, hK ▸ Dp.ex W'.s h1, hK ▸ Dp.ex W'.s h2, s1, s2, q _ W' A' l (.bl _)⟩
theorem e_notInD (hK : Γ.K = K) (ha : Ev Γ ta δ μ (.d d) μ1) (hb : Ev Γ tb δ μ1 (dL ds) μ2) (s1 : SeqAt.shaped d = true) (s2 : SeqAt.shaped (.list ds) = true) : Ev Γ (tOp (rNotInD K) ta tb) δ μ (dB (!ds.any fun z => PyData.eqv z d)) μ2 := fun σ W A Q q =>
  e_two ha hb A fun v w W' A' l h1 h2 => ⟨d, ds, hK ▸ Dp.ex W'.s h1, hK ▸ Dp.ex W'.s h2, s1, s2, q _ W' A' l (.bl _)⟩
/-- int(b) -/
theorem e_intB {b : Bool} (h : Ev Γ te δ μ (dB b) μ1) : Ev Γ (tCB (fun xs H Q => (∃ i, xs = [.int i] ∧ Q (.int i) H) ∨ ∃ k, xs = [.bl k] ∧ Q (.int (if k then 1 else 0)) H) (tCons te tNil)) δ μ (dI (if b then 1 else 0)) μ1 :=
  e_cb (a_cons h a_nil) fun σ W vs A hs Q q => by
    obtain ⟨v, rfl, h1⟩ := sv1 hs
    cases svB h1
    exact .inr ⟨b, rfl, q _ W (LeX.refl _ W) (.int _)⟩
end
/-- an owned list in a slot becomes data -/
theorem Sx.fzV {Γ : Ga} {δ : De} {μ1 : Mu} {q : Addr} {ds : List PD} {u : TS} {D : Ends} (j : Nat) (hj : δ[j]? = some (some (.r (.ref q)))) (hq : q ∉ Γ.O) (n : Sx Γ u D (δ.set j (some (dL ds))) μ1) : Sx Γ u D δ ((q, .lst ds) :: μ1) := fun σ W A => by
  obtain ⟨v, e1, e2⟩ := A.sl j _ hj
  obtain ⟨W2, e, l2, A2, h2⟩ := A.fz hq
  cases e2
  rw [← e]
  refine n σ W2 ⟨A2.bs, by rw [List.length_set]; exact A2.len, fun k s hk => ?_, A2.ow, A2.fo, A2.gh, A2.fF⟩
  by_cases ek : j = k
  · subst ek
    by_cases hl : j < δ.length
    · rw [List.getElem?_set_self hl] at hk
      cases hk
      exact ⟨_, e1, h2⟩
    · rw [List.getElem?_eq_none (by rw [List.length_set]; omega)] at hk
      cases hk
  · rw [List.getElem?_set_ne ek] at hk
    exact A2.sl k s hk
/-! ### how a wish is dealt -/
def deal : List (Int × Int) → Int → List (Int × Int)
  | [], _ => []
  | p :: r, n => if 0 < min p.2 n then (p.1, min p.2 n) :: deal r (n - min p.2 n) else deal r n
theorem deal_len : ∀ (l : List (Int × Int)) (n : Int), (deal l n).length ≤ l.length
  | [], _ => Nat.le_refl _
  | p :: r, n => by
    unfold deal
    split
    · exact Nat.succ_le_succ (deal_len r _)
    · exact Nat.le_succ_of_le (deal_len r _)
theorem dsort_len (l : List (Int × Int)) : (dsort l).length = l.length := List.length_mergeSort _
end Sf
namespace Sf
open PySem PySem.Spec PyProof.Rows L2
theorem n_callSD {Γ : Ga} {δ : De} {μ μ1 m : Mu} {K : PySem.W.Frag} {tl : TA} {as : List Sv} {n k : Nat} {G : List Sv → Mu → Oc → Prop} {E : L2.St → XK} {sn : List Addr → Sv} {mn : List Addr → Mu} (hK : Γ.K = K) (h : EvA Γ tl δ μ as μ1) (hG : G as m (.new k sn mn)) (hm : m.Sublist μ1) (ha : ∀ ps, ps.length = k → ∀ e ∈ mn ps, e.1 ∈ ps) (hn : as.length = n := by rfl) : EvN Γ (tCallSD (spG K n true G) [] E tl) δ μ k sn mn μ1 := fun σ W A Q q =>
  h σ W A _ fun vs W1 A1 l1 h1 => app_nil_sv (sp_roN hK A1 hm hn h1 hG ha fun ps v W' k1 k2 A' l' h' => q ps v W' k1 k2 A' (l1.trans l') h')
theorem prD_shp (e : Int × Int) : Shp 1 (pairD e) := shp_tup fun d hd => by
  simp at hd
  rcases hd with rfl | rfl <;> exact shp_int
theorem prs_shp {l : List (Int × Int)} : SeqAt.shaped (.list (pairsD l)) = true := (shp_list fun d hd => by
  obtain ⟨e, _, rfl⟩ := List.mem_map.mp hd
  exact prD_shp e).ok (by decide)
theorem pr_eqv {x y : Int × Int} : PyData.eqv (pairD x) (pairD y) = decide (x = y) := by
  unfold pairD
  rw [eqv_pairI, Bool.eq_iff_iff]
  simp [Prod.ext_iff]
theorem prs_eqvA : ∀ (xs ys : List (Int × Int)), PyData.eqvAll (pairsD xs) (pairsD ys) = decide (xs = ys)
  | [], [] => rfl
  | x :: xs, y :: ys => by
    show (PyData.eqv (pairD x) (pairD y) && PyData.eqvAll (pairsD xs) (pairsD ys)) = _
    rw [prs_eqvA xs ys, pr_eqv, Bool.eq_iff_iff]
    simp
  | [], _ :: _ => by show false = _; simp
  | _ :: _, [] => by show false = _; simp
theorem prs_eqv {xs ys : List (Int × Int)} : PyData.eqv (.list (pairsD xs)) (.list (pairsD ys)) = decide (xs = ys) := by rw [PyData.eqv, prs_eqvA]
theorem prs_any {l : List (Int × Int)} {e : Int × Int} : ((pairsD l).any fun z => PyData.eqv z (pairD e)) = decide (e ∈ l) := by
  unfold pairsD
  rw [List.any_map, Bool.eq_iff_iff, List.any_eq_true]
  constructor
  · rintro ⟨x, hx, h⟩
    simp only [Function.comp, pr_eqv, decide_eq_true_eq] at h
    subst h
    exact decide_eq_true hx
  · intro h
    exact ⟨e, of_decide_eq_true h, by simp only [Function.comp, pr_eqv, decide_true]⟩
theorem prs_len {l : List (Int × Int)} : (pairsD l).length = l.length := List.length_map _
theorem prs_get {l : List (Int × Int)} {i : Nat} {s : Sv} (h : (datas (pairsD l))[i]? = some s) : ∃ e, l[i]? = some e ∧ s = dU [.int e.1, .int e.2] := by
  unfold pairsD datas at h
  rw [List.map_map, List.getElem?_map] at h
  cases q : l[i]? with
  | none => rw [q] at h; cases h
  | some e => rw [q] at h; cases h; exact ⟨e, rfl, rfl⟩
theorem prs_at {l : List (Int × Int)} {i : Nat} {e : Int × Int} (h : l[i]? = some e) : atI (pairsD l) (i : Int) = some (.tuple [.int e.1, .int e.2]) := by
  refine atI_nat ?_
  unfold pairsD
  rw [List.getElem?_map, h]
  rfl
theorem cutD_to {ds : List PD} {n : Nat} (h : n ≤ ds.length) : cutD ds none (some (n : Int)) = ds.take n := by
  unfold cutD
  rw [HT.sIx_none, HT.sIx_nat, List.drop_zero, Nat.sub_zero, Nat.min_eq_left h]
theorem cutD_fr {ds : List PD} {n : Nat} (h : n ≤ ds.length) : cutD ds (some (n : Int)) none = ds.drop n := by
  unfold cutD
  rw [HT.sIx_none, HT.sIx_nat, Nat.min_eq_left h, List.take_of_length_le (by rw [List.length_drop]; omega)]
theorem prs_map {l : List (Int × Int)} : datas (pairsD l) = l.map fun e => dU [.int e.1, .int e.2] := by
  unfold pairsD datas
  rw [List.map_map]
  rfl
end Sf
namespace Sf
open PySem L2
/-! ### law k09, in plain words -/
def fb9 (c w : Int) : Int := if w = 0 then 5 else if w = 1 then c / 8 % (10 ^ 30 + 1) else c / 8 % 12
theorem fb9_nn (c w : Int) : 0 ≤ fb9 c w := by
  have h := (emod_lt (z := c / 8) (show (0 : Int) < 10 ^ 30 + 1 by decide)).1
  unfold fb9
  split
  · decide
  · split
    · exact h
    · omega
def at9 (z : Int) (n : Nat) : Nat := if z % 3 = 0 then (z / 3 % ((n : Int) + 1)).toNat else n
theorem at9_le (z : Int) (n : Nat) : at9 z n ≤ n := by
  unfold at9
  split
  · have := emod_lt (z := z / 3) (show (0 : Int) < (n : Int) + 1 by omega)
    omega
  · exact Nat.le_refl _
def ins9 (least way : Int) (ns : List Int) : Nat → List (Int × Int)
  | 0 => []
  | k + 1 => (ins9 least way ns k).take (at9 (ns.getD (k + 2) 0) (ins9 least way ns k).length) ++ [(least + (k : Int), fb9 (ns.getD (k + 2) 0) way)] ++ (ins9 least way ns k).drop (at9 (ns.getD (k + 2) 0) (ins9 least way ns k).length)
def wide9 (least c2 : Int) (n : Nat) : List (Int × Int) := (List.range n).map fun k : Nat => (least + 37 * (k : Int) % 181, fb9 ((c2 + 1000003 * (k : Int) * (k : Int)) % 1009 + 8 * (k : Int)) 3)
def rooms9 (ns : List Int) : List (Int × Int) :=
  if ns.getD 0 0 % 4 = 2 then wide9 (ns.getD 0 0 / 4 % 9700) (ns.getD 2 0) (if ns.getD 1 0 / 3 % 4 = 1 then 180 else 60)
  else ins9 (ns.getD 0 0 / 4 % 9700) (ns.getD 0 0 % 4) ns (ns.length - 2)
theorem ins9_len {least way : Int} {ns : List Int} : ∀ k, (ins9 least way ns k).length = k
  | 0 => rfl
  | k + 1 => by
    have ih := ins9_len (least := least) (way := way) (ns := ns) k
    have h := at9_le (ns.getD (k + 2) 0) (ins9 least way ns k).length
    unfold ins9
    rw [List.length_append, List.length_append, List.length_take, List.length_drop, List.length_singleton]
    omega
theorem ins9_mem {least way : Int} {ns : List Int} {e : Int × Int} : ∀ k, e ∈ ins9 least way ns k → least ≤ e.1 ∧ e.1 < least + k ∧ 0 ≤ e.2
  | 0, h => nomatch h
  | k + 1, h => by
    unfold ins9 at h
    have ih := fun h => ins9_mem (least := least) (way := way) (ns := ns) (e := e) k h
    have h0 := fb9_nn (ns.getD (k + 2) 0) way
    rcases List.mem_append.mp h with h | h
    · rcases List.mem_append.mp h with h | h
      · have := ih (List.mem_of_mem_take h)
        omega
      · rw [List.mem_singleton.mp h]
        refine ⟨?_, ?_, h0⟩
        · show least ≤ least + (k : Int); omega
        · show least + (k : Int) < least + ((k + 1 : Nat) : Int); omega
    · have := ih (List.mem_of_mem_drop h)
      omega
theorem ins9_nd {least way : Int} {ns : List Int} : ∀ k, ((ins9 least way ns k).map (·.1)).Nodup
  | 0 => List.nodup_nil
  | k + 1 => by
    have ih := ins9_nd (least := least) (way := way) (ns := ns) k
    have hp : (ins9 least way ns (k + 1)).Perm ((least + (k : Int), fb9 (ns.getD (k + 2) 0) way) :: ins9 least way ns k) := by
      have e : ins9 least way ns (k + 1) = (ins9 least way ns k).take (at9 (ns.getD (k + 2) 0) (ins9 least way ns k).length) ++ ((least + (k : Int), fb9 (ns.getD (k + 2) 0) way) :: (ins9 least way ns k).drop (at9 (ns.getD (k + 2) 0) (ins9 least way ns k).length)) := by
        show _ ++ [_] ++ _ = _
        rw [List.append_assoc]
        rfl
      rw [e]
      refine List.perm_middle.trans (List.Perm.cons _ ?_)
      rw [List.take_append_drop]
    refine (hp.map _).nodup_iff.mpr ?_
    rw [List.map_cons, List.nodup_cons]
    refine ⟨fun hm => ?_, ih⟩
    obtain ⟨e, he, q⟩ := List.mem_map.mp hm
    have := ins9_mem k he
    dsimp only at q
    omega
theorem wide9_nd {least c2 : Int} {n : Nat} (hn : n ≤ 180) : ((wide9 least c2 n).map (·.1)).Nodup := by
  unfold wide9
  rw [List.map_map]
  refine List.pairwise_map.mpr (List.pairwise_lt_range.imp_of_mem fun {a b} ha hb h e => ?_)
  have ha := List.mem_range.mp ha
  have hb := List.mem_range.mp hb
  dsimp only [Function.comp] at e
  omega
/-- what the law needs of its rooms -/
structure Rooms (l : List (Int × Int)) : Prop where
  nd : (l.map (·.1)).Nodup
  nn : ∀ e ∈ l, 0 ≤ e.2
  len : l.length ≤ 180
theorem rooms9_ok {ns : List Int} (h : ns.length ≤ 63) : Rooms (rooms9 ns) := by
  unfold rooms9
  split
  · have hn : (if ns.getD 1 0 / 3 % 4 = 1 then 180 else 60) ≤ 180 := by split <;> omega
    generalize (if ns.getD 1 0 / 3 % 4 = 1 then 180 else 60) = n at hn
    refine ⟨wide9_nd hn, fun e he => ?_, by unfold wide9; rw [List.length_map, List.length_range]; exact hn⟩
    obtain ⟨k, _, rfl⟩ := List.mem_map.mp he
    exact fb9_nn ((ns.getD 2 0 + 1000003 * (k : Int) * (k : Int)) % 1009 + 8 * (k : Int)) 3
  · exact ⟨ins9_nd _, fun e he => (ins9_mem _ he).2.2, by rw [ins9_len]; omega⟩
def free2 (l : List (Int × Int)) : Int := (l.map (·.2)).sum
theorem free2_perm {l l' : List (Int × Int)} (h : l.Perm l') : free2 l = free2 l' := by
  induction h with
  | nil => rfl
  | cons a _ ih => show a.2 + free2 _ = a.2 + free2 _; rw [ih]
  | swap a b l => show b.2 + (a.2 + free2 l) = a.2 + (b.2 + free2 l); omega
  | trans _ _ i1 i2 => exact i1.trans i2
/-- how the deal looks -/
theorem deal_none : ∀ (l : List (Int × Int)) (n : Int), n ≤ 0 → deal l n = []
  | [], _, _ => rfl
  | p :: r, n, h => by
    unfold deal
    rw [if_neg (by omega)]
    exact deal_none r n h
theorem deal_shape : ∀ (l : List (Int × Int)) (n : Int), (∀ e ∈ l, 0 ≤ e.2) → l.Pairwise (fun a b => b.2 ≤ a.2) → 1 ≤ n → n ≤ free2 l →
    ∃ pre q x rest, l = pre ++ q :: rest ∧ deal l n = pre ++ [(q.1, x)] ∧ 1 ≤ x ∧ x ≤ q.2 ∧ free2 pre + x = n ∧ ∀ e ∈ pre, 0 < e.2
  | [], n, _, _, h1, h2 => by
    have : (0 : Int) = free2 [] := rfl
    omega
  | p :: r, n, hn, hs, h1, h2 => by
    have hs' := List.pairwise_cons.mp hs
    have e2 : free2 (p :: r) = p.2 + free2 r := rfl
    have hp : 0 < p.2 := by
      have h0 := hn p List.mem_cons_self
      by_cases h : p.2 = 0
      · have hz : ∀ (r : List (Int × Int)), (∀ e ∈ r, e.2 ≤ 0) → free2 r ≤ 0 := fun r hr => by
          induction r with
          | nil => exact Int.le_refl _
          | cons a r ih =>
            have := ih fun e he => hr e (List.mem_cons_of_mem _ he)
            have := hr a List.mem_cons_self
            show a.2 + free2 r ≤ 0
            omega
        have := hz r fun e he => by have := hs'.1 e he; omega
        omega
      · omega
    by_cases h : n ≤ p.2
    · refine ⟨[], p, n, r, rfl, ?_, h1, h, by show (0 : Int) + n = n; omega, fun _ z => nomatch z⟩
      unfold deal
      rw [show min p.2 n = n by omega, if_pos (by omega), deal_none _ _ (by omega)]
      rfl
    · obtain ⟨pre, q, x, rest, i1, i2, i3, i4, i5, i6⟩ := deal_shape r (n - p.2) (fun e he => hn e (List.mem_cons_of_mem _ he)) hs'.2 (by omega) (by omega)
      refine ⟨p :: pre, q, x, rest, by rw [i1]; rfl, ?_, i3, i4, by show p.2 + free2 pre + x = n; omega, fun e he => ?_⟩
      · unfold deal
        rw [show min p.2 n = p.2 by omega, if_pos hp, i2]
        rfl
      · rcases List.mem_cons.mp he with rfl | he
        · exact hp
        · exact i6 e he
theorem rankLe_tot (a b : Int × Int) : (rankLe a b || rankLe b a) = true := by
  unfold rankLe
  simp
  omega
theorem rankLe_trans (a b c : Int × Int) : rankLe a b = true → rankLe b c = true → rankLe a c = true := by
  unfold rankLe
  simp
  omega
/-- one ahead of another -/
def ahead (a b : Int × Int) : Bool := decide (a.2 > b.2) || (decide (a.2 = b.2) && decide (a.1 < b.1))
theorem dsort_perm (l : List (Int × Int)) : (dsort l).Perm l := List.mergeSort_perm _ _
theorem dsort_sorted (l : List (Int × Int)) : (dsort l).Pairwise fun a b => rankLe a b = true := List.pairwise_mergeSort rankLe_trans rankLe_tot l
theorem dsort_ahead {l : List (Int × Int)} (nd : (l.map (·.1)).Nodup) : (dsort l).Pairwise fun a b => ahead a b = true := by
  have hnd : ((dsort l).map (·.1)).Nodup := ((dsort_perm l).map _).nodup_iff.mpr nd
  have h2 : (dsort l).Pairwise fun a b => a.1 ≠ b.1 := List.pairwise_map.mp hnd
  refine ((dsort_sorted l).and h2).imp fun {a b} h => ?_
  have h1 := h.1
  unfold rankLe at h1
  unfold ahead
  simp at h1 ⊢
  have := h.2
  omega
/-- all of a deal that the law looks at -/
structure Dealt (l : List (Int × Int)) (n : Int) (pre : List (Int × Int)) (q : Int × Int) (x : Int) : Prop where
  eq : deal (dsort l) n = pre ++ [(q.1, x)]
  x1 : 1 ≤ x
  x2 : x ≤ q.2
  sum : free2 pre + x = n
  pos : ∀ e ∈ pre, 0 < e.2
  mem : ∀ e ∈ pre ++ [q], e ∈ l
  ord : (pre ++ [q]).Pairwise fun a b => ahead a b = true
  behind : ∀ e ∈ l, e ∉ pre ++ [q] → ahead q e = true
theorem dealt_ok {l : List (Int × Int)} (h : Rooms l) {n : Int} (h1 : 1 ≤ n) (h2 : n ≤ free2 l) : ∃ pre q x, Dealt l n pre q x := by
  have hp := dsort_perm l
  have hs := dsort_ahead h.nd
  obtain ⟨pre, q, x, rest, i1, i2, i3, i4, i5, i6⟩ := deal_shape (dsort l) n (fun e he => h.nn e (hp.mem_iff.mp he)) ((dsort_sorted l).imp fun {a b} z => by unfold rankLe at z; simp at z; omega) h1 (by rw [free2_perm hp]; exact h2)
  rw [i1] at hs
  have i1' : dsort l = (pre ++ [q]) ++ rest := by rw [i1, List.append_assoc]; rfl
  have hs2 : ((pre ++ [q]) ++ rest).Pairwise fun a b => ahead a b = true := by rw [List.append_assoc]; exact hs
  refine ⟨pre, q, x, i2, i3, i4, i5, i6, fun e he => hp.mem_iff.mp (by rw [i1']; exact List.mem_append_left _ he), (List.pairwise_append.mp hs2).1, fun e he hn => ?_⟩
  have he : e ∈ (pre ++ [q]) ++ rest := by rw [← i1']; exact hp.mem_iff.mpr he
  rcases List.mem_append.mp he with z | z
  · exact absurd z hn
  · exact (List.pairwise_append.mp hs2).2.2 q (List.mem_append_right _ List.mem_cons_self) e z
end Sf
namespace Sf
open PySem L2
theorem filter_one {c : Int × Int} : ∀ {l : List (Int × Int)}, (l.map (·.1)).Nodup → c ∈ l → l.filter (fun e => decide (e.1 = c.1)) = [c]
  | a :: l, nd, h => by
    have nd' := List.nodup_cons.mp nd
    rcases List.mem_cons.mp h with rfl | h
    · rw [List.filter_cons_of_pos (by simp), List.filter_eq_nil_iff.mpr]
      intro e he
      simp only [decide_eq_true_eq]
      intro q
      exact nd'.1 (List.mem_map.mpr ⟨e, he, q⟩)
    · rw [List.filter_cons_of_neg, filter_one nd'.2 h]
      simp only [decide_eq_true_eq]
      intro q
      exact nd'.1 (List.mem_map.mpr ⟨c, h, q.symm⟩)
/-- found parts, and their rooms -/
structure Match9 (l fs cs : List (Int × Int)) : Prop where
  len : fs.length = cs.length
  at' : ∀ (i : Nat) (f : Int × Int), fs[i]? = some f → ∃ c : Int × Int, cs[i]? = some c ∧ f.1 = c.1 ∧ 1 ≤ f.2 ∧ f.2 ≤ c.2 ∧ c ∈ l
theorem Dealt.match9 {l : List (Int × Int)} {n : Int} {pre : List (Int × Int)} {q : Int × Int} {x : Int} (h : Dealt l n pre q x) : Match9 l (pre ++ [(q.1, x)]) (pre ++ [q]) := by
  refine ⟨by simp, fun i f hf => ?_⟩
  by_cases hi : i < pre.length
  · rw [List.getElem?_append_left hi] at hf
    refine ⟨f, by rw [List.getElem?_append_left hi]; exact hf, rfl, ?_, Int.le_refl _, h.mem f (List.mem_append_left _ (List.mem_of_getElem? hf))⟩
    have := h.pos f (List.mem_of_getElem? hf)
    omega
  · rw [List.getElem?_append_right (by omega)] at hf
    by_cases h0 : i - pre.length = 0
    · rw [h0] at hf
      cases hf
      exact ⟨q, by rw [List.getElem?_append_right (by omega), h0]; rfl, rfl, h.x1, h.x2, h.mem q (by simp)⟩
    · rw [List.getElem?_eq_none (by simp; omega)] at hf
      cases hf
theorem atI_last {ds : List PD} {d : PD} : atI (ds ++ [d]) (-1) = some d := by
  unfold atI
  have : ixN (ds ++ [d]).length (-1) = some ds.length := by
    rw [List.length_append, List.length_singleton]
    unfold ixN
    rw [if_neg (show ¬(0 : Int) ≤ -1 by decide), if_pos (by omega)]
    congr 1
    omega
  rw [this]
  simp
end Sf
namespace Sf
open PySem L2
/-! ### wishes on a floor -/
namespace FM
def rooms (M : FM) (w : Str) : List (Int × Int) := (M.places w).map fun p => (p, M.free p w)
def parts (M : FM) (w : Str) (n : Int) : List (Int × Int) := deal (dsort (M.rooms w)) n
def beg (w : Str) (l : List (Int × Int)) (M : FM) : FM := l.foldl (fun M e => M.begun e.1 w e.2) M
def wish (M : FM) (w : Str) (n : Int) : FM := beg w (M.parts w n) (M.note (.tuple [.str "wish", .str w, .int n]))
theorem beg_snoc {w : Str} {l : List (Int × Int)} {M : FM} {i : Nat} {e : Int × Int} (h : l[i]? = some e) : beg w (l.take (i + 1)) M = (beg w (l.take i) M).begun e.1 w e.2 := by
  unfold beg
  rw [take_succ_get h, List.foldl_append]
  rfl
theorem beg_last {w : Str} : ∀ (l : List (Int × Int)) (M : FM), (beg w l M).last = M.last + l.length
  | [], M => by show M.last = M.last + 0; omega
  | e :: l, M => by
    show (beg w l (M.begun e.1 w e.2)).last = _
    rw [beg_last l]
    show M.last + 1 + _ = M.last + ((l.length + 1 : Nat) : Int)
    omega
theorem beg_sz {w : Str} : ∀ (l : List (Int × Int)) (M : FM) (n : Nat), M.sz n → (beg w l M).sz (n + l.length)
  | [], M, n, h => h
  | e :: l, M, n, h => by
    show (beg w l (M.begun e.1 w e.2)).sz _
    exact (beg_sz l _ _ h.begun).mono (by rw [List.length_cons]; omega)
theorem beg_same {w : Str} : ∀ (l : List (Int × Int)) (M : FM), (beg w l M).am = M.am ∧ (beg w l M).to = M.to ∧ (beg w l M).de = M.de
  | [], M => ⟨rfl, rfl, rfl⟩
  | e :: l, M => by
    show (beg w l (M.begun e.1 w e.2)).am = _ ∧ _
    obtain ⟨h1, h2, h3⟩ := beg_same l (M.begun e.1 w e.2)
    exact ⟨h1, h2, h3⟩
theorem places_len {M : FM} {w : Str} : (M.places w).length ≤ M.am.length := by
  unfold places srt
  rw [List.length_mergeSort, List.length_map]
  exact List.length_filter_le _ _
theorem parts_len {M : FM} {w : Str} {n : Int} : (M.parts w n).length ≤ M.am.length := by
  unfold parts rooms
  refine Nat.le_trans (deal_len _ _) ?_
  rw [dsort_len, List.length_map]
  exact places_len
end FM
end Sf
namespace Sf
open PySem L2
theorem isum_perm {l l' : List Int} (h : l.Perm l') : l.sum = l'.sum := by
  induction h with
  | nil => rfl
  | cons a _ ih => rw [List.sum_cons, List.sum_cons, ih]
  | swap a b l => simp only [List.sum_cons]; omega
  | trans _ _ i1 i2 => exact i1.trans i2
theorem hAt_nn {p : Int} {w : Str} {l : List (Int × (Int × Str × Int))} (h : ∀ e ∈ l, 1 ≤ e.2.2.2) (k : Int) : 0 ≤ hAt p w (aget l k) := by
  cases e : aget l k with
  | none => exact Int.le_refl _
  | some g =>
    have := h _ (aget_mem e)
    show 0 ≤ if g.1 = p ∧ g.2.1 = w then g.2.2 else 0
    dsimp only at this
    split <;> omega
namespace FM
theorem held_nn {M : FM} (h : ∀ e ∈ M.st, 1 ≤ e.2.2.2) (p : Int) (w : Str) : 0 ≤ M.held p w := sum_nn fun n hn => by
  obtain ⟨e, he, rfl⟩ := List.mem_map.mp hn
  have := h e (List.mem_filter.mp he).1
  omega
theorem held_begun {M : FM} {p p0 n : Int} {w w0 : Str} (nd : (M.st.map (·.1)).Nodup) (hn : aget M.st (M.last + 1) = none) : (M.begun p0 w0 n).held p w = M.held p w + if p0 = p ∧ w0 = w then n else 0 := by
  show FM.held { M with st := aput M.st (M.last + 1) (p0, w0, n) } p w = _
  rw [held_put nd, hn]
  show _ - 0 + (if p0 = p ∧ w0 = w then n else 0) = _
  omega
theorem held_ended {M : FM} {p k : Int} {w : Str} (nd : (M.st.map (·.1)).Nodup) : (M.ended k).held p w = M.held p w - hAt p w (aget M.st k) := held_drop nd k
theorem held_rehold {M : FM} {p p0 n k : Int} {w w0 : Str} (nd : (M.st.map (·.1)).Nodup) : (M.rehold k p0 w0 n).held p w = M.held p w - hAt p w (aget M.st k) + if p0 = p ∧ w0 = w then n else 0 := held_put nd k (p0, w0, n)
/-- what the holds of some numbers hold -/
def hsum (p : Int) (w : Str) (ks : List Int) (M : FM) : Int := (ks.map fun k => hAt p w (aget M.st k)).sum
theorem hsum_nn {p : Int} {w : Str} {M : FM} (h : ∀ e ∈ M.st, 1 ≤ e.2.2.2) (ks : List Int) : 0 ≤ hsum p w ks M := sum_nn fun n hn => by
  obtain ⟨k, _, rfl⟩ := List.mem_map.mp hn
  exact hAt_nn h k
theorem lose1_keeps {p : Int} {w : Str} (P : FM → Prop) (h1 : ∀ M k h, P M → aget M.st k = some h → h.1 = p → h.2.1 = w → P (M.ended k)) (h2 : ∀ M k h n, P M → aget M.st k = some h → h.1 = p → h.2.1 = w → 0 < n → n < h.2.2 → P (M.rehold k p w n))
    (M : FM) (k x : Int) (h : P M) : P (M.lose1 p w k x).1 := by
  rcases lose1_cases M p w k x with e | ⟨g, e, hn, ha, e'⟩ | ⟨g, e, hn, ha, e'⟩
  · rw [e]; exact h
  · rw [e']; exact h1 M k g h e hn.1 hn.2.1
  · rw [e']; exact h2 M k g _ h e hn.1 hn.2.1 (by have := hn.2.2; omega) (by have := hn.2.2; omega)
theorem lose_keeps' {p : Int} {w : Str} (P : FM → Prop) (h1 : ∀ M k h, P M → aget M.st k = some h → h.1 = p → h.2.1 = w → P (M.ended k)) (h2 : ∀ M k h n, P M → aget M.st k = some h → h.1 = p → h.2.1 = w → 0 < n → n < h.2.2 → P (M.rehold k p w n)) :
    ∀ (ks : List Int) (M : FM) (x : Int), P M → P (lose p w ks M x).1
  | [], M, x, h => h
  | k :: ks, M, x, h => lose_keeps' P h1 h2 ks _ _ (lose1_keeps P h1 h2 M k x h)
/-- the standing holds are in order -/
structure Pos (M : FM) : Prop where
  nd : (M.st.map (·.1)).Nodup
  pos : ∀ e ∈ M.st, 1 ≤ e.2.2.2
theorem Pos.ended {M : FM} (h : M.Pos) (k : Int) : (M.ended k).Pos := ⟨adrop_nd h.nd, fun e he => h.pos e (List.mem_filter.mp he).1⟩
theorem Pos.rehold {M : FM} (h : M.Pos) {k p n : Int} {w : Str} (hn : 0 < n) : (M.rehold k p w n).Pos := ⟨aput_nd h.nd, fun e he => by
  have he : e ∈ aput M.st k (p, w, n) := he
  rcases aput_mem he with rfl | q
  · exact hn
  · exact h.pos e q⟩
theorem Pos.lose1 {M : FM} (h : M.Pos) (p : Int) (w : Str) (k x : Int) : (M.lose1 p w k x).1.Pos := lose1_keeps Pos (fun M k _ h _ _ _ => h.ended k) (fun M k _ n h _ _ _ hn _ => h.rehold hn) M k x h
theorem Pos.lost {M : FM} (h : M.Pos) (p : Int) (w : Str) (x : Int) : (M.lost p w x).1.Pos := lose_keeps' Pos (fun M k _ h _ _ _ => h.ended k) (fun M k _ n h _ _ _ hn _ => h.rehold hn) _ M x h
def told (t : List (Int × Int)) : Int := (t.map (·.2)).sum
theorem told_app {a b : List (Int × Int)} : told (a ++ b) = told a + told b := by
  unfold told
  rw [List.map_append, List.sum_append]
theorem lose1_sum {M : FM} (h : M.Pos) (p : Int) (w : Str) (k x : Int) : told (M.lose1 p w k x).2.1 = max 0 (min x (hAt p w (aget M.st k))) ∧ (M.lose1 p w k x).2.2 = x - told (M.lose1 p w k x).2.1 ∧
    (∀ p' w', (M.lose1 p w k x).1.held p' w' = M.held p' w' - if p = p' ∧ w = w' then told (M.lose1 p w k x).2.1 else 0) ∧ (∀ j, j ≠ k → aget (M.lose1 p w k x).1.st j = aget M.st j) := by
  cases e : aget M.st k with
  | none =>
    rw [lose1_none e]
    refine ⟨?_, ?_, fun p' w' => ?_, fun j _ => rfl⟩
    · show (0 : Int) = max 0 (min x 0)
      omega
    · show x = x - 0
      omega
    · show M.held p' w' = M.held p' w' - if p = p' ∧ w = w' then (0 : Int) else 0
      split <;> omega
  | some g =>
    have hg := h.pos _ (aget_mem e)
    dsimp only at hg
    by_cases hn : g.1 = p ∧ g.2.1 = w ∧ 0 < min g.2.2 x
    · have hA : ∀ p' w', hAt p' w' (some g) = if p = p' ∧ w = w' then g.2.2 else 0 := fun p' w' => by
        show (if g.1 = p' ∧ g.2.1 = w' then g.2.2 else 0) = _
        rw [hn.1, hn.2.1]
      have hA0 : hAt p w (some g) = g.2.2 := by rw [hA, if_pos ⟨rfl, rfl⟩]
      have hm := hn.2.2
      by_cases ha : min g.2.2 x = g.2.2
      · rw [lose1_all e hn ha, hA0]
        refine ⟨?_, ?_, fun p' w' => ?_, fun j hj => ?_⟩
        · show min g.2.2 x + 0 = _
          omega
        · show x - min g.2.2 x = x - (min g.2.2 x + 0)
          omega
        · show (M.ended k).held p' w' = _ - if p = p' ∧ w = w' then min g.2.2 x + 0 else 0
          rw [held_ended h.nd, e, hA]
          split <;> omega
        · show aget (adrop M.st k) j = _
          rw [aget_drop, if_neg hj]
      · rw [lose1_part e hn ha, hA0]
        refine ⟨?_, ?_, fun p' w' => ?_, fun j hj => ?_⟩
        · show min g.2.2 x + 0 = _
          omega
        · show x - min g.2.2 x = x - (min g.2.2 x + 0)
          omega
        · show (M.rehold k p w (g.2.2 - min g.2.2 x)).held p' w' = _ - if p = p' ∧ w = w' then min g.2.2 x + 0 else 0
          rw [held_rehold h.nd, e, hA]
          split <;> omega
        · show aget (aput M.st k _) j = _
          rw [aget_put, if_neg hj]
    · rw [lose1_no e hn]
      refine ⟨?_, ?_, fun p' w' => ?_, fun j _ => rfl⟩
      · show (0 : Int) = max 0 (min x (if g.1 = p ∧ g.2.1 = w then g.2.2 else 0))
        by_cases hc : g.1 = p ∧ g.2.1 = w
        · rw [if_pos hc]
          have : ¬0 < min g.2.2 x := fun z => hn ⟨hc.1, hc.2, z⟩
          omega
        · rw [if_neg hc]
          omega
      · show x = x - 0
        omega
      · show M.held p' w' = M.held p' w' - if p = p' ∧ w = w' then (0 : Int) else 0
        split <;> omega
theorem lose_sum {p : Int} {w : Str} : ∀ (ks : List Int) (M : FM) (x : Int), M.Pos → ks.Nodup → told (lose p w ks M x).2 = max 0 (min x (hsum p w ks M)) ∧
    ∀ p' w', (lose p w ks M x).1.held p' w' = M.held p' w' - if p = p' ∧ w = w' then told (lose p w ks M x).2 else 0
  | [], M, x, _, _ => by
    refine ⟨?_, fun p' w' => ?_⟩
    · show (0 : Int) = max 0 (min x 0)
      omega
    · show M.held p' w' = M.held p' w' - if p = p' ∧ w = w' then (0 : Int) else 0
      split <;> omega
  | k :: ks, M, x, h, nd => by
    have nd' := List.nodup_cons.mp nd
    obtain ⟨a1, a2, a3, a4⟩ := lose1_sum h p w k x
    obtain ⟨i1, i2⟩ := lose_sum (p := p) (w := w) ks (M.lose1 p w k x).1 (M.lose1 p w k x).2.2 (h.lose1 p w k x) nd'.2
    have es : hsum p w ks (M.lose1 p w k x).1 = hsum p w ks M := by
      unfold hsum
      refine congrArg _ (List.map_congr_left fun j hj => ?_)
      rw [a4 j (fun z => nd'.1 (z ▸ hj))]
    have h0 := hsum_nn (p := p) (w := w) h.pos ks
    have h1 := hAt_nn (p := p) (w := w) h.pos k
    have e1 : told (lose p w (k :: ks) M x).2 = told (M.lose1 p w k x).2.1 + told (lose p w ks (M.lose1 p w k x).1 (M.lose1 p w k x).2.2).2 := told_app
    have e2 : hsum p w (k :: ks) M = hAt p w (aget M.st k) + hsum p w ks M := rfl
    rw [es] at i1
    refine ⟨?_, fun p' w' => ?_⟩
    · rw [e1, e2, i1, a2, a1]
      omega
    · show (lose p w ks (M.lose1 p w k x).1 (M.lose1 p w k x).2.2).1.held p' w' = _
      rw [i2, a3, e1]
      split <;> omega
theorem lost_sum {M : FM} (h : M.Pos) (p : Int) (w : Str) (x : Int) : told (M.lost p w x).2 = max 0 (min x (M.held p w)) ∧ ∀ p' w', (M.lost p w x).1.held p' w' = M.held p' w' - if p = p' ∧ w = w' then told (M.lost p w x).2 else 0 := by
  have hp : M.numbers.Perm (M.st.map (·.1)) := List.mergeSort_perm _ _
  have hr := List.reverse_perm M.numbers
  have nd : M.numbers.Nodup := hp.nodup_iff.mpr h.nd
  obtain ⟨i1, i2⟩ := lose_sum (p := p) (w := w) M.numbers.reverse M x h (hr.nodup_iff.mpr nd)
  have e : hsum p w M.numbers.reverse M = M.held p w := by
    rw [held_eq nd h.nd fun e he => hp.mem_iff.mpr (List.mem_map_of_mem he)]
    exact isum_perm (hr.map _)
  rw [e] at i1
  exact ⟨i1, i2⟩
end FM
/-! ### a floor in order -/
structure Good (Pl : List Int) (Ws : List Str) (M : FM) : Prop where
  nd : (M.am.map (·.1)).Nodup
  ndS : (M.st.map (·.1)).Nodup
  l0 : 0 ≤ M.last
  kS : ∀ e ∈ M.st, 1 ≤ e.1 ∧ e.1 ≤ M.last
  pos : ∀ e ∈ M.st, 1 ≤ e.2.2.2
  cov : ∀ p w, M.held p w ≤ M.there p w
  amIn : ∀ e ∈ M.am, e.1.1 ∈ Pl ∧ e.1.2 ∈ Ws
  stIn : ∀ e ∈ M.st, e.2.1 ∈ Pl ∧ e.2.2.1 ∈ Ws
section
variable {Pl : List Int} {Ws : List Str} {M : FM}
theorem Good.new : Good Pl Ws FM.new := ⟨List.nodup_nil, List.nodup_nil, Int.le_refl _, fun _ h => (nomatch h), fun _ h => (nomatch h), fun _ _ => Int.le_refl _, fun _ h => (nomatch h), fun _ h => (nomatch h)⟩
theorem Good.p (h : Good Pl Ws M) : M.Pos := ⟨h.ndS, h.pos⟩
theorem Good.held0 (h : Good Pl Ws M) (p : Int) (w : Str) : 0 ≤ M.held p w := FM.held_nn h.pos p w
theorem Good.there0 (h : Good Pl Ws M) (p : Int) (w : Str) : 0 ≤ M.there p w := Int.le_trans (h.held0 p w) (h.cov p w)
theorem Good.free0 (h : Good Pl Ws M) (p : Int) (w : Str) : 0 ≤ M.free p w := by
  have := h.cov p w
  unfold FM.free
  omega
theorem Good.wok (h : Good Pl Ws M) (hW : ∀ w ∈ Ws, PyData.strOk w = true) : M.wok := fun e he => hW _ (h.stIn e he).2
theorem Good.fresh (h : Good Pl Ws M) : aget M.st (M.last + 1) = none := aget_none.mpr fun hm => by
  obtain ⟨e, he, q⟩ := List.mem_map.mp hm
  have := h.kS e he
  omega
theorem am_in {p n : Int} {w : Str} (h : ∀ e ∈ M.am, e.1.1 ∈ Pl ∧ e.1.2 ∈ Ws) (hp : p ∈ Pl) (hw : w ∈ Ws) : ∀ e ∈ aput M.am (p, w) n, e.1.1 ∈ Pl ∧ e.1.2 ∈ Ws := fun e he => by
  rcases FM.am_put_mem he with q | ⟨e', he', q⟩
  · rw [q]; exact ⟨hp, hw⟩
  · rw [← q]; exact h e' he'
/-- so much more, or less, of w in p -/
theorem Good.change (h : Good Pl Ws M) {p n : Int} {w : Str} (hp : p ∈ Pl) (hw : w ∈ Ws) (hn : 0 ≤ M.free p w + n) : Good Pl Ws (M.change p w n) := by
  refine ⟨aput_nd h.nd, h.ndS, h.l0, h.kS, h.pos, fun p' w' => ?_, am_in h.amIn hp hw, h.stIn⟩
  rw [FM.there_change]
  have := h.cov p' w'
  show M.held p' w' ≤ _
  split
  · rename_i e
    obtain ⟨rfl, rfl⟩ := e
    unfold FM.free at hn
    omega
  · exact this
theorem Good.other (h : Good Pl Ws M) {M' : FM} (h1 : M'.am = M.am) (h2 : M'.st = M.st) (h3 : M'.last = M.last) : Good Pl Ws M' := by
  refine ⟨by rw [h1]; exact h.nd, by rw [h2]; exact h.ndS, by rw [h3]; exact h.l0, by rw [h2, h3]; exact h.kS, by rw [h2]; exact h.pos, fun p w => ?_, by rw [h1]; exact h.amIn, by rw [h2]; exact h.stIn⟩
  unfold FM.held FM.there
  rw [h1, h2]
  exact h.cov p w
theorem Good.begun (h : Good Pl Ws M) {p n : Int} {w : Str} (hp : p ∈ Pl) (hw : w ∈ Ws) (h1 : 1 ≤ n) (h2 : n ≤ M.free p w) : Good Pl Ws (M.begun p w n) := by
  have hst : ∀ e ∈ (M.begun p w n).st, e = (M.last + 1, p, w, n) ∨ e ∈ M.st := fun e he => aput_mem he
  refine ⟨h.nd, aput_nd h.ndS, ?_, fun e he => ?_, fun e he => ?_, fun p' w' => ?_, h.amIn, fun e he => ?_⟩
  · have := h.l0
    show 0 ≤ M.last + 1
    omega
  · show 1 ≤ e.1 ∧ e.1 ≤ M.last + 1
    have := h.l0
    rcases hst e he with rfl | q
    · dsimp only; omega
    · have := h.kS e q; omega
  · rcases hst e he with rfl | q
    · exact h1
    · exact h.pos e q
  · rw [FM.held_begun h.ndS h.fresh]
    have := h.cov p' w'
    show _ ≤ M.there p' w'
    split
    · rename_i e
      obtain ⟨rfl, rfl⟩ := e
      unfold FM.free at h2
      omega
    · omega
  · rcases hst e he with rfl | q
    · exact ⟨hp, hw⟩
    · exact h.stIn e q
theorem Good.ended (h : Good Pl Ws M) (k : Int) : Good Pl Ws (M.ended k) := by
  have hst : ∀ e ∈ (M.ended k).st, e ∈ M.st := fun e he => (List.mem_filter.mp he).1
  refine ⟨h.nd, adrop_nd h.ndS, h.l0, fun e he => h.kS e (hst e he), fun e he => h.pos e (hst e he), fun p' w' => ?_, h.amIn, fun e he => h.stIn e (hst e he)⟩
  rw [FM.held_ended h.ndS]
  have := h.cov p' w'
  have := hAt_nn (p := p') (w := w') h.pos k
  show _ ≤ M.there p' w'
  omega
theorem Good.ended_free (h : Good Pl Ws M) {k : Int} {g : Int × Str × Int} (e : aget M.st k = some g) : (M.ended k).free g.1 g.2.1 = M.free g.1 g.2.1 + g.2.2 := by
  unfold FM.free
  rw [FM.held_ended h.ndS, e]
  show M.there _ _ - (M.held _ _ - if g.1 = g.1 ∧ g.2.1 = g.2.1 then g.2.2 else 0) = _
  rw [if_pos ⟨rfl, rfl⟩]
  omega
theorem Good.take (h : Good Pl Ws M) {k : Int} {g : Int × Str × Int} (e : aget M.st k = some g) : Good Pl Ws (M.take k g) := by
  have hin := h.stIn _ (aget_mem e)
  refine Good.other (M := (M.ended k).change g.1 g.2.1 (-g.2.2)) ((h.ended k).change hin.1 hin.2 ?_) rfl rfl rfl
  have := h.free0 g.1 g.2.1
  rw [h.ended_free e]
  omega
theorem Good.shift (h : Good Pl Ws M) {k q : Int} {g : Int × Str × Int} (e : aget M.st k = some g) (hq : q ∈ Pl) (hne : ¬g.1 = q) : Good Pl Ws (M.shift k g q) := by
  have hin := h.stIn _ (aget_mem e)
  have hk := h.kS _ (aget_mem e)
  have hp := h.pos _ (aget_mem e)
  dsimp only at hin hk hp
  have hst : ∀ x ∈ (M.shift k g q).st, x = (k, q, g.2.1, g.2.2) ∨ x ∈ M.st := fun x hx => aput_mem hx
  refine ⟨aput_nd (aput_nd h.nd), aput_nd h.ndS, h.l0, fun x hx => ?_, fun x hx => ?_, fun p' w' => ?_, am_in (am_in h.amIn hin.1 hin.2) hq hin.2, fun x hx => ?_⟩
  · rcases hst x hx with rfl | z
    · exact hk
    · exact h.kS x z
  · rcases hst x hx with rfl | z
    · exact hp
    · exact h.pos x z
  · show (M.rehold k q g.2.1 g.2.2).held p' w' ≤ ((M.change g.1 g.2.1 (-g.2.2)).change q g.2.1 g.2.2).there p' w'
    rw [FM.held_rehold h.ndS, e, FM.there_change, FM.there_change, FM.there_change]
    have := h.cov p' w'
    have c1 := h.cov g.1 g.2.1
    show _ - (if g.1 = p' ∧ g.2.1 = w' then g.2.2 else 0) + _ ≤ _
    rw [if_neg (fun z : q = g.1 ∧ g.2.1 = g.2.1 => hne z.1.symm)]
    have sw : ∀ a : Int, (a = p' ∧ g.2.1 = w') = (p' = a ∧ w' = g.2.1) := fun a => propext ⟨fun z => ⟨z.1.symm, z.2.symm⟩, fun z => ⟨z.1.symm, z.2.symm⟩⟩
    simp only [sw]
    by_cases z1 : p' = q ∧ w' = g.2.1
    · have z2 : ¬(p' = g.1 ∧ w' = g.2.1) := fun z => hne (z.1.symm.trans z1.1)
      rw [if_neg z2, if_pos z1, if_pos z1]
      rw [z1.1, z1.2] at this ⊢
      omega
    · rw [if_neg z1, if_neg z1]
      by_cases z2 : p' = g.1 ∧ w' = g.2.1
      · rw [if_pos z2, if_pos z2]
        rw [z2.1, z2.2]
        omega
      · rw [if_neg z2, if_neg z2]
        omega
  · rcases hst x hx with rfl | z
    · exact ⟨hq, hin.2⟩
    · exact h.stIn x z
theorem Good.lost (h : Good Pl Ws M) (p : Int) (w : Str) (x : Int) : (M.lost p w x).1.Pos ∧ (∀ e ∈ (M.lost p w x).1.st, 1 ≤ e.1 ∧ e.1 ≤ M.last) ∧ (∀ e ∈ (M.lost p w x).1.st, e.2.1 ∈ Pl ∧ e.2.2.1 ∈ Ws) := by
  refine ⟨h.p.lost p w x, ?_⟩
  refine FM.lose_keeps' (p := p) (w := w) (fun M' => (∀ e ∈ M'.st, 1 ≤ e.1 ∧ e.1 ≤ M.last) ∧ (∀ e ∈ M'.st, e.2.1 ∈ Pl ∧ e.2.2.1 ∈ Ws)) (fun M' k g z e _ _ => ?_) (fun M' k g n z e h1 h2 _ _ => ?_) _ M x ⟨h.kS, h.stIn⟩
  · exact ⟨fun y hy => z.1 y (List.mem_filter.mp hy).1, fun y hy => z.2 y (List.mem_filter.mp hy).1⟩
  · have hst : ∀ y ∈ (M'.rehold k p w n).st, y = (k, p, w, n) ∨ y ∈ M'.st := fun y hy => aput_mem hy
    refine ⟨fun y hy => ?_, fun y hy => ?_⟩
    · rcases hst y hy with rfl | q
      · exact z.1 (k, g) (aget_mem e)
      · exact z.1 y q
    · rcases hst y hy with rfl | q
      · have := z.2 (k, g) (aget_mem e)
        dsimp only at this
        rw [h1, h2] at this
        exact this
      · exact z.2 y q
theorem Good.counted (h : Good Pl Ws M) {p n : Int} {w : Str} (hp : p ∈ Pl) (hw : w ∈ Ws) (hn : 0 ≤ n) : Good Pl Ws (M.counted p w n).1 := by
  have h' : Good Pl Ws (M.tell w 0 0 (n - M.there p w)) := h.other rfl rfl rfl
  obtain ⟨a1, a2, a3⟩ := h'.lost p w (M.held p w - n)
  obtain ⟨b1, b2⟩ := FM.lost_sum h'.p p w (M.held p w - n)
  obtain ⟨s1, s2, s3, s4⟩ := FM.lost_same (M := M.tell w 0 0 (n - M.there p w)) (p := p) (w := w) (x := M.held p w - n)
  unfold FM.counted
  generalize (M.tell w 0 0 (n - M.there p w)).lost p w (M.held p w - n) = r at a1 a2 a3 b1 b2 s1 s2 s3 s4
  obtain ⟨M', t⟩ := r
  dsimp only at a1 a2 a3 b1 b2 s1 s2 s3 s4 ⊢
  have b1 : FM.told t = max 0 (min (M.held p w - n) (M.held p w)) := b1
  have b2 : ∀ p' w', M'.held p' w' = M.held p' w' - if p = p' ∧ w = w' then FM.told t else 0 := b2
  have s1 : M'.am = M.am := s1
  refine ⟨aput_nd (by rw [s1]; exact h.nd), a1.nd, ?_, ?_, a1.pos, fun p' w' => ?_, ?_, a3⟩
  · show 0 ≤ M'.last
    rw [s4]
    exact h.l0
  · show ∀ e ∈ M'.st, 1 ≤ e.1 ∧ e.1 ≤ M'.last
    rw [s4]
    exact a2
  · show M'.held p' w' ≤ (M'.put p w n).there p' w'
    rw [FM.there_put, b2]
    have h0 := h.held0 p w
    by_cases z : p' = p ∧ w' = w
    · obtain ⟨rfl, rfl⟩ := z
      rw [if_pos ⟨rfl, rfl⟩, if_pos ⟨rfl, rfl⟩, b1]
      omega
    · rw [if_neg z, if_neg (fun y => z ⟨y.1.symm, y.2.symm⟩)]
      have : M'.there p' w' = M.there p' w' := by unfold FM.there; rw [s1]
      rw [this]
      have := h.cov p' w'
      omega
  · show ∀ e ∈ aput M'.am (p, w) n, _
    rw [s1]
    exact am_in h.amIn hp hw
/-- the parts of a wish -/
structure PartsOk (Pl : List Int) (w : Str) (M : FM) (l : List (Int × Int)) : Prop where
  nd : (l.map (·.1)).Nodup
  ok : ∀ e ∈ l, 1 ≤ e.2 ∧ e.2 ≤ M.free e.1 w ∧ e.1 ∈ Pl
theorem Good.beg {w : Str} (hw : w ∈ Ws) : ∀ (l : List (Int × Int)) (M : FM), Good Pl Ws M → PartsOk Pl w M l → Good Pl Ws (FM.beg w l M)
  | [], M, h, _ => h
  | e :: l, M, h, hp => by
    have nd' := List.nodup_cons.mp hp.nd
    obtain ⟨e1, e2, e3⟩ := hp.ok e List.mem_cons_self
    refine Good.beg hw l (M.begun e.1 w e.2) (h.begun e3 hw e1 e2) ⟨nd'.2, fun x hx => ?_⟩
    obtain ⟨x1, x2, x3⟩ := hp.ok x (List.mem_cons_of_mem _ hx)
    refine ⟨x1, ?_, x3⟩
    have hne : ¬e.1 = x.1 := fun z => nd'.1 (List.mem_map.mpr ⟨x, hx, z.symm⟩)
    unfold FM.free at x2 ⊢
    rw [FM.held_begun h.ndS h.fresh, if_neg (fun z => hne z.1)]
    show _ ≤ M.there x.1 w - _
    omega
end
end Sf
namespace Sf
open PySem L2
/-! ### the nine deeds -/
inductive Deed where
  | come (p : Int) (w : Str) (n : Int)
  | go (p : Int) (w : Str) (n : Int)
  | move (p q : Int) (w : Str) (n : Int)
  | hold (p : Int) (w : Str) (n : Int)
  | let' (k : Int)
  | take (k : Int)
  | shift (k q : Int)
  | counted (p : Int) (w : Str) (n : Int)
  | wish (w : Str) (n : Int)
def Deed.data : Deed → List PD
  | .come p w n => [.str "come", .int p, .str w, .int n]
  | .go p w n => [.str "go", .int p, .str w, .int n]
  | .move p q w n => [.str "move", .int p, .int q, .str w, .int n]
  | .hold p w n => [.str "hold", .int p, .str w, .int n]
  | .let' k => [.str "let", .int k]
  | .take k => [.str "take", .int k]
  | .shift k q => [.str "shift", .int k, .int q]
  | .counted p w n => [.str "counted", .int p, .str w, .int n]
  | .wish w n => [.str "wish", .str w, .int n]
/-- a deed of these places and wares, of amounts that are amounts -/
def Deed.ok (Pl : List Int) (Ws : List Str) : Deed → Prop
  | .come p w n => p ∈ Pl ∧ w ∈ Ws ∧ 1 ≤ n ∧ n ≤ 10 ^ 30
  | .go p w n => p ∈ Pl ∧ w ∈ Ws ∧ 1 ≤ n ∧ n ≤ 10 ^ 30
  | .move p q w n => p ∈ Pl ∧ q ∈ Pl ∧ w ∈ Ws ∧ 1 ≤ n ∧ n ≤ 10 ^ 30
  | .hold p w n => p ∈ Pl ∧ w ∈ Ws ∧ 1 ≤ n ∧ n ≤ 10 ^ 30
  | .let' _ => True
  | .take _ => True
  | .shift _ q => q ∈ Pl
  | .counted p w n => p ∈ Pl ∧ w ∈ Ws ∧ 0 ≤ n ∧ n ≤ 10 ^ 30
  | .wish w n => w ∈ Ws ∧ 1 ≤ n ∧ n ≤ 10 ^ 30
def wishD (M : FM) (w : Str) (n : Int) : List Int := (List.range (M.parts w n).length).map fun i : Nat => M.last + 1 + (i : Int)
/-- a deed that is done: what it gives, and the floor behind it -/
inductive Step (M : FM) : Deed → PD → FM → Prop where
  | come (p : Int) (w : Str) (n : Int) : Step M (.come p w n) .none (M.come p w n)
  | go (p : Int) (w : Str) (n : Int) (h : n ≤ M.free p w) : Step M (.go p w n) .none (M.go p w n)
  | move (p q : Int) (w : Str) (n : Int) (hpq : ¬p = q) (h : n ≤ M.free p w) : Step M (.move p q w n) .none (M.move p q w n)
  | hold (p : Int) (w : Str) (n : Int) (h : n ≤ M.free p w) : Step M (.hold p w n) (.int (M.last + 1)) (M.hold p w n)
  | let' (k : Int) (g : Int × Str × Int) (hg : aget M.st k = some g) : Step M (.let' k) .none (M.let' k)
  | take (k : Int) (g : Int × Str × Int) (hg : aget M.st k = some g) : Step M (.take k) .none (M.take k g)
  | shift (k q : Int) (g : Int × Str × Int) (hg : aget M.st k = some g) (hne : ¬g.1 = q) : Step M (.shift k q) .none (M.shift k g q)
  | counted (p : Int) (w : Str) (n : Int) : Step M (.counted p w n) (.list (pairsD (M.counted p w n).2)) (M.counted p w n).1
  | wish (w : Str) (n : Int) (h : ¬free2 (M.rooms w) < n) : Step M (.wish w n) (.list ((wishD M w n).map .int)) (M.wish w n)
/-- a deed that is refused, and by which class -/
inductive Ref (M : FM) : Deed → Str → Prop where
  | go (p : Int) (w : Str) (n : Int) (h : ¬n ≤ M.free p w) : Ref M (.go p w n) "TooFew"
  | same (p q : Int) (w : Str) (n : Int) (hpq : p = q) : Ref M (.move p q w n) "SamePlace"
  | move (p q : Int) (w : Str) (n : Int) (hpq : ¬p = q) (h : ¬n ≤ M.free p w) : Ref M (.move p q w n) "TooFew"
  | hold (p : Int) (w : Str) (n : Int) (h : ¬n ≤ M.free p w) : Ref M (.hold p w n) "TooFew"
  | let' (k : Int) (hg : aget M.st k = none) : Ref M (.let' k) "NoHold"
  | take (k : Int) (hg : aget M.st k = none) : Ref M (.take k) "NoHold"
  | shift (k q : Int) (hg : aget M.st k = none) : Ref M (.shift k q) "NoHold"
  | sameH (k q : Int) (g : Int × Str × Int) (hg : aget M.st k = some g) (hne : g.1 = q) : Ref M (.shift k q) "SamePlace"
  | wish (w : Str) (n : Int) (h : free2 (M.rooms w) < n) : Ref M (.wish w n) "TooFew"
theorem Ref.cls {M : FM} {e : Deed} {c : Str} (h : Ref M e c) : c = "TooFew" ∨ c = "SamePlace" ∨ c = "NoHold" := by
  cases h <;> first | exact .inl rfl | exact .inr (.inl rfl) | exact .inr (.inr rfl)
/-- each deed is done or refused -/
theorem deed_or (M : FM) (e : Deed) : (∃ d M', Step M e d M') ∨ ∃ c, Ref M e c := by
  cases e with
  | come p w n => exact .inl ⟨_, _, .come p w n⟩
  | go p w n =>
    by_cases h : n ≤ M.free p w
    · exact .inl ⟨_, _, .go p w n h⟩
    · exact .inr ⟨_, .go p w n h⟩
  | move p q w n =>
    by_cases hpq : p = q
    · exact .inr ⟨_, .same p q w n hpq⟩
    · by_cases h : n ≤ M.free p w
      · exact .inl ⟨_, _, .move p q w n hpq h⟩
      · exact .inr ⟨_, .move p q w n hpq h⟩
  | hold p w n =>
    by_cases h : n ≤ M.free p w
    · exact .inl ⟨_, _, .hold p w n h⟩
    · exact .inr ⟨_, .hold p w n h⟩
  | let' k =>
    cases hg : aget M.st k with
    | none => exact .inr ⟨_, .let' k hg⟩
    | some g => exact .inl ⟨_, _, .let' k g hg⟩
  | take k =>
    cases hg : aget M.st k with
    | none => exact .inr ⟨_, .take k hg⟩
    | some g => exact .inl ⟨_, _, .take k g hg⟩
  | shift k q =>
    cases hg : aget M.st k with
    | none => exact .inr ⟨_, .shift k q hg⟩
    | some g =>
      by_cases hq : g.1 = q
      · exact .inr ⟨_, .sameH k q g hg hq⟩
      · exact .inl ⟨_, _, .shift k q g hg hq⟩
  | counted p w n => exact .inl ⟨_, _, .counted p w n⟩
  | wish w n =>
    by_cases h : free2 (M.rooms w) < n
    · exact .inr ⟨_, .wish w n h⟩
    · exact .inl ⟨_, _, .wish w n h⟩
/-- places and wares that are some -/
structure Wld (Pl : List Int) (Ws : List Str) : Prop where
  sP : Pl.Pairwise (· < ·)
  pl : ∀ p ∈ Pl, 0 ≤ p ∧ p ≤ 9999
  ws : ∀ w ∈ Ws, WareOk w
theorem Wld.st {Pl : List Int} {Ws : List Str} (h : Wld Pl Ws) : ∀ w ∈ Ws, PyData.strOk w = true := fun w hw => strOk_let (h.ws w hw).2.2
section
variable {Pl : List Int} {Ws : List Str} {M M' : FM}
theorem Good.places (hW : Wld Pl Ws) (h : Good Pl Ws M) (w : Str) : M.places w = Pl.filter fun p => decide (M.there p w > 0) := FM.places_eq hW.sP h.nd fun e he _ => (h.amIn e he).1
theorem Good.rooms_fst {w : Str} : (M.rooms w).map (·.1) = M.places w := by
  unfold FM.rooms
  rw [List.map_map]
  exact List.map_id _
theorem Good.rooms_len (hW : Wld Pl Ws) (h : Good Pl Ws M) (w : Str) : (M.rooms w).length ≤ Pl.length := by
  unfold FM.rooms
  rw [List.length_map, h.places hW]
  exact List.length_filter_le _ _
theorem Good.parts_len (hW : Wld Pl Ws) (h : Good Pl Ws M) (w : Str) (n : Int) : (M.parts w n).length ≤ Pl.length := by
  unfold FM.parts
  refine Nat.le_trans (deal_len _ _) ?_
  rw [dsort_len]
  exact h.rooms_len hW w
theorem Good.parts (hW : Wld Pl Ws) (h : Good Pl Ws M) {w : Str} {n : Int} (h1 : 1 ≤ n) (h2 : ¬free2 (M.rooms w) < n) : PartsOk Pl w M (M.parts w n) ∧ free2 (M.parts w n) = n := by
  have hp := dsort_perm (M.rooms w)
  have hr : ∀ e ∈ M.rooms w, e.2 = M.free e.1 w ∧ e.1 ∈ Pl := fun e he => by
    obtain ⟨p, hp, rfl⟩ := List.mem_map.mp he
    rw [h.places hW] at hp
    exact ⟨rfl, (List.mem_filter.mp hp).1⟩
  have nd : ((M.rooms w).map (·.1)).Nodup := by
    rw [Good.rooms_fst, h.places hW]
    exact (hW.sP.imp fun a b => by omega).filter _
  obtain ⟨pre, q, x, rest, i1, i2, i3, i4, i5, i6⟩ := deal_shape (dsort (M.rooms w)) n (fun e he => by
    rw [(hr e (hp.mem_iff.mp he)).1]
    exact h.free0 _ _) ((dsort_sorted _).imp fun {a b} z => by unfold rankLe at z; simp at z; omega) h1 (by rw [free2_perm hp]; omega)
  have hm : ∀ e ∈ pre ++ [q], e ∈ M.rooms w := fun e he => hp.mem_iff.mp (by
    rw [i1]
    rcases List.mem_append.mp he with z | z
    · exact List.mem_append_left _ z
    · rw [List.mem_singleton.mp z]
      exact List.mem_append_right _ List.mem_cons_self)
  unfold FM.parts
  rw [i2]
  refine ⟨⟨?_, fun e he => ?_⟩, ?_⟩
  · have hd : ((dsort (M.rooms w)).map (·.1)).Nodup := (hp.map _).nodup_iff.mpr nd
    rw [i1] at hd
    have e1 : (pre ++ [(q.1, x)]).map (·.1) = (pre ++ [q]).map (·.1) := by simp
    rw [e1]
    refine hd.sublist (List.Sublist.map _ ?_)
    exact List.Sublist.append (List.Sublist.refl _) ((List.nil_sublist _).cons_cons _)
  · rcases List.mem_append.mp he with z | z
    · have := hr e (hm e (List.mem_append_left _ z))
      have := i6 e z
      exact ⟨by omega, by omega, (hr e (hm e (List.mem_append_left _ z))).2⟩
    · rw [List.mem_singleton.mp z]
      have := hr q (hm q (List.mem_append_right _ List.mem_cons_self))
      exact ⟨i3, by dsimp only; omega, this.2⟩
  · show ((pre ++ [(q.1, x)]).map (·.2)).sum = n
    rw [List.map_append, List.sum_append]
    show free2 pre + (x + 0) = n
    omega
/-- a deed keeps the order -/
theorem Good.deed (hW : Wld Pl Ws) (h : Good Pl Ws M) {e : Deed} (ok : e.ok Pl Ws) {d : PD} (eq : Step M e d M') : Good Pl Ws M' := by
  cases eq with
  | come p w n =>
    have := h.free0 p w
    exact Good.other (M := M.change p w n) (h.change ok.1 ok.2.1 (by have := ok.2.2.1; omega)) rfl rfl rfl
  | go p w n hf => exact Good.other (M := M.change p w (-n)) (h.change ok.1 ok.2.1 (by omega)) rfl rfl rfl
  | move p q w n hpq hf =>
    have h1 := h.change (n := -n) ok.1 ok.2.2.1 (by omega)
    have := h1.free0 q w
    exact Good.other (M := (M.change p w (-n)).change q w n) (h1.change ok.2.1 ok.2.2.1 (by have := ok.2.2.2.1; omega)) rfl rfl rfl
  | hold p w n hf => exact Good.begun (M := M.note (.tuple [.str "hold", .int p, .str w, .int n])) (h.other rfl rfl rfl) ok.1 ok.2.1 ok.2.2.1 hf
  | let' k g hg => exact Good.other (M := M.ended k) (h.ended k) rfl rfl rfl
  | take k g hg => exact h.take hg
  | shift k q g hg hne => exact h.shift hg ok hne
  | counted p w n => exact h.counted ok.1 ok.2.1 ok.2.2.1
  | wish w n hf => exact Good.beg ok.1 _ _ (h.other rfl rfl rfl) ⟨(h.parts hW ok.2.1 hf).1.nd, fun e he => (h.parts hW ok.2.1 hf).1.ok e he⟩
theorem deed_sz (hW : Wld Pl Ws) (h : Good Pl Ws M) {e : Deed} {d : PD} (eq : Step M e d M') {n : Nat} (hz : M.sz n) : M'.sz (n + (Pl.length + 4)) := by
  cases eq with
  | come p w m => exact hz.change.tell.note.mono (by omega)
  | go p w m hf => exact hz.change.tell.note.mono (by omega)
  | move p q w m hpq hf => exact hz.change.change.note.mono (by omega)
  | hold p w m hf => exact hz.note.begun.mono (by omega)
  | let' k g hg => exact hz.ended.note.mono (by omega)
  | take k g hg => exact hz.ended.change.tell.note.mono (by omega)
  | shift k q g hg hne => exact hz.change.change.rehold.note.mono (by omega)
  | counted p w m => exact ((FM.lost_sz hz.tell).put.note).mono (by omega)
  | wish w m hf =>
    have := h.parts_len hW w m
    exact (FM.beg_sz _ _ _ hz.note).mono (by omega)
end
end Sf
namespace Sf
open PySem PySem.Spec PyProof.Rows L2
def lmx : List Int → Int
  | [] => 0
  | [a] => a
  | a :: b :: r => max a (lmx (b :: r))
def lmn : List Int → Int
  | [] => 0
  | [a] => a
  | a :: b :: r => min a (lmn (b :: r))
theorem lmx_ge : ∀ {l : List Int} {x : Int}, x ∈ l → x ≤ lmx l
  | [a], x, h => by rw [List.mem_singleton.mp h]; exact Int.le_refl _
  | a :: b :: r, x, h => by
    show x ≤ max a (lmx (b :: r))
    rcases List.mem_cons.mp h with rfl | h
    · omega
    · have := lmx_ge h; omega
theorem lmx_mem : ∀ {l : List Int}, 0 < l.length → lmx l ∈ l
  | [a], _ => List.mem_cons_self
  | a :: b :: r, _ => by
    show max a (lmx (b :: r)) ∈ _
    have := lmx_mem (l := b :: r) (by simp)
    by_cases h : a ≤ lmx (b :: r)
    · rw [show max a (lmx (b :: r)) = lmx (b :: r) by omega]; exact List.mem_cons_of_mem _ this
    · rw [show max a (lmx (b :: r)) = a by omega]; exact List.mem_cons_self
theorem lmn_le : ∀ {l : List Int} {x : Int}, x ∈ l → lmn l ≤ x
  | [a], x, h => by rw [List.mem_singleton.mp h]; exact Int.le_refl _
  | a :: b :: r, x, h => by
    show min a (lmn (b :: r)) ≤ x
    rcases List.mem_cons.mp h with rfl | h
    · omega
    · have := lmn_le h; omega
theorem lmn_mem : ∀ {l : List Int}, 0 < l.length → lmn l ∈ l
  | [a], _ => List.mem_cons_self
  | a :: b :: r, _ => by
    show min a (lmn (b :: r)) ∈ _
    have := lmn_mem (l := b :: r) (by simp)
    by_cases h : lmn (b :: r) ≤ a
    · rw [show min a (lmn (b :: r)) = lmn (b :: r) by omega]; exact List.mem_cons_of_mem _ this
    · rw [show min a (lmn (b :: r)) = a by omega]; exact List.mem_cons_self
section
variable {X : Cx} {K : PySem.W.Frag}
theorem cr_max' (h : X.K = K) (hc : X.calm = true) : CallR X (.builtin "max") (rMax K) := h ▸ cr_max hc
theorem cr_min' (h : X.K = K) (hc : X.calm = true) : CallR X (.builtin "min") (rMin K) := h ▸ cr_min hc
theorem mt_index' (h : X.K = K) : MtR X "list.index" (rIndex K) := h ▸ mt_index
end
section
variable {Γ : Ga} {δ : De} {μ μ1 μ2 : Mu} {ta tb te to : TE} {K : PySem.W.Frag}
theorem e_maxL {ns : List Int} (hK : Γ.K = K) (h : Ev Γ te δ μ (dL (ns.map .int)) μ1) (h0 : 0 < ns.length) : Ev Γ (tCB (rMax K) (tCons te tNil)) δ μ (dI (lmx ns)) μ1 :=
  e_cb (a_cons h a_nil) fun σ W vs A hs Q q => by
    subst hK
    obtain ⟨v, rfl, h1⟩ := sv1 hs
    obtain ⟨p, vs, rfl, h3, h4⟩ := svL h1
    cases h4.ints_inv
    refine ⟨p, ns, rfl, sf_sqL W.s h3, h0, fun m h5 h6 => ?_⟩
    have e : m = lmx ns := Int.le_antisymm (lmx_ge h5) (h6 _ (lmx_mem h0))
    rw [e]
    exact q _ W (LeX.refl _ W) (.int _)
theorem e_minL {ns : List Int} (hK : Γ.K = K) (h : Ev Γ te δ μ (dL (ns.map .int)) μ1) (h0 : 0 < ns.length) : Ev Γ (tCB (rMin K) (tCons te tNil)) δ μ (dI (lmn ns)) μ1 :=
  e_cb (a_cons h a_nil) fun σ W vs A hs Q q => by
    subst hK
    obtain ⟨v, rfl, h1⟩ := sv1 hs
    obtain ⟨p, vs, rfl, h3, h4⟩ := svL h1
    cases h4.ints_inv
    refine ⟨p, ns, rfl, sf_sqL W.s h3, h0, fun m h5 h6 => ?_⟩
    have e : m = lmn ns := Int.le_antisymm (h6 _ (lmn_mem h0)) (lmn_le h5)
    rw [e]
    exact q _ W (LeX.refl _ W) (.int _)
theorem strs_inv {I : Hp} : ∀ {vs : List V} {ys : List Str}, DpAll K I vs (ys.map .str) → vs = ys.map .str
  | [], [], _ => rfl
  | v :: vs, y :: ys, .cons a t => by
    rw [strs_inv t, svS (K := K) (I := I) a]
    rfl
/-- the place of a text in a list of texts -/
theorem e_lindexS {ys : List Str} {w : Str} {j : Nat} (hK : Γ.K = K) (ha : Ev Γ to δ μ (dL (ys.map .str)) μ1) (hb : Ev Γ te δ μ1 (dS w) μ2) (h : ys[j]? = some w) (hno : ∀ m, m < j → ys[m]? ≠ some w) : Ev Γ (tBM K "list" (rIndex K) to (tCons te tNil)) δ μ (dI (j : Int)) μ2 := fun σ W A Q q =>
  ha σ W A _ fun v W1 A1 l1 h1 => by
    subst hK
    obtain ⟨p, vs, rfl, h3, h4⟩ := svL h1
    cases strs_inv h4
    refine ⟨.inl ⟨rfl, _, sf_sqL W1.s h3⟩, hb σ W1 A1 _ fun u W2 A2 l2 h2 => ?_⟩
    cases svS h2
    refine ⟨p, ys.map .str, .str w, j, .str w, rfl, rfl, sf_sqL W2.s (sf_sqL l2 h3), rfl, ?_, by rw [List.getElem?_map, h]; rfl, by simp [eqV], fun m z' hm hz => ?_, q _ W2 A2 (l1.trans l2) (.int _)⟩
    · rw [List.all_map, List.all_eq_true]
      intro y _
      rfl
    · rw [List.getElem?_map] at hz
      cases e : ys[m]? with
      | none => rw [e] at hz; cases hz
      | some y =>
        rw [e] at hz
        cases hz
        have : y ≠ w := fun z => hno m hm (by rw [e, z])
        simp [eqV, this]
end
end Sf
namespace Sf
open PySem L2
/-! ### the whole laws: the world, the entries -/
def wrL (c0 : Int) : List Str := [wr c0 0, wr c0 1, wr c0 2]
theorem wrL_mem {c0 : Int} {k : Nat} (h : k < 3) : wr c0 k ∈ wrL c0 := by
  have : k = 0 ∨ k = 1 ∨ k = 2 := by omega
  rcases this with rfl | rfl | rfl <;> simp [wrL]
theorem wrL_of {c0 : Int} {w : Str} (h : w ∈ wrL c0) : ∃ k, k < 3 ∧ w = wr c0 k := by
  simp [wrL] at h
  rcases h with rfl | rfl | rfl
  · exact ⟨0, by decide, rfl⟩
  · exact ⟨1, by decide, rfl⟩
  · exact ⟨2, by decide, rfl⟩
theorem plL_of {c1 p : Int} (h : p ∈ plL c1) : ∃ k, k < 4 ∧ p = pl c1 k := by
  obtain ⟨i, hi, e⟩ := List.getElem_of_mem h
  have h4 : i < 4 := hi
  have := plL_get (c := c1) h4
  rw [List.getElem?_eq_getElem hi, e] at this
  exact ⟨i, h4, Option.some.inj this⟩
theorem wld (c0 c1 : Int) : Wld (plL c1) (wrL c0) := by
  refine ⟨plL_sorted c1, fun p hp => ?_, fun w hw => ?_⟩
  · obtain ⟨k, _, rfl⟩ := plL_of hp
    exact pl_ok c1 k
  · obtain ⟨k, _, rfl⟩ := wrL_of hw
    exact wr_ok c0 k
/-- the k-th of fifteen deeds -/
def some10 (c0 c1 more scale last : Int) : Nat → Deed
  | 0 => .come (pl c1 (more % 4).toNat) (wr c0 (more / 16 % 3).toNat) (4 * ((1 + more / 48 % 12) * scale))
  | 1 => .come (pl c1 (more % 4).toNat) (wr c0 (more / 16 % 3).toNat) (3 * ((1 + more / 48 % 12) * scale))
  | 2 => .come (pl c1 (more % 4).toNat) (wr c0 (more / 16 % 3).toNat) ((1 + more / 48 % 12) * scale)
  | 3 => .go (pl c1 (more % 4).toNat) (wr c0 (more / 16 % 3).toNat) ((1 + more / 48 % 12) * scale)
  | 4 => .move (pl c1 (more % 4).toNat) (pl c1 (more / 4 % 4).toNat) (wr c0 (more / 16 % 3).toNat) ((1 + more / 48 % 12) * scale)
  | 5 => .hold (pl c1 (more % 4).toNat) (wr c0 (more / 16 % 3).toNat) ((1 + more / 48 % 12) * scale)
  | 6 => .hold (pl c1 (more % 4).toNat) (wr c0 (more / 16 % 3).toNat) ((1 + more / 48 % 12) * scale)
  | 7 => .let' (1 + more % (last + 2))
  | 8 => .take (1 + more % (last + 2))
  | 9 => .shift (1 + more % (last + 2)) (pl c1 (more / 4 % 4).toNat)
  | 10 => .counted (pl c1 (more % 4).toNat) (wr c0 (more / 16 % 3).toNat) (2 * ((1 + more / 48 % 12) * scale) - 2 * scale)
  | 11 => .counted (pl c1 (more % 4).toNat) (wr c0 (more / 16 % 3).toNat) ((1 + more / 48 % 12) * scale - scale)
  | 12 => .wish (wr c0 (more / 16 % 3).toNat) (2 * ((1 + more / 48 % 12) * scale))
  | 13 => .wish (wr c0 (more / 16 % 3).toNat) ((1 + more / 48 % 12) * scale)
  | _ => .come (pl c1 (more % 4).toNat) (wr c0 (more / 16 % 3).toNat) (2 * ((1 + more / 48 % 12) * scale))
def entry10 (c0 c1 z scale last : Int) : Deed := some10 c0 c1 (z / 15) scale last (z % 15).toNat
def scale10 (c : Int) : Int := if c % 5 = 1 then 10 ^ 28 + 7 else 1
theorem scale10_ok (c : Int) : 1 ≤ scale10 c ∧ 48 * scale10 c ≤ 10 ^ 30 := by
  unfold scale10
  split
  · exact ⟨by decide, by decide⟩
  · exact ⟨by decide, by decide⟩
theorem some10_ok {c0 c1 more scale last : Int} (h1 : 1 ≤ scale) (h2 : 48 * scale ≤ 10 ^ 30) (k : Nat) : (some10 c0 c1 more scale last k).ok (plL c1) (wrL c0) := by
  have hp : pl c1 (more % 4).toNat ∈ plL c1 := List.mem_of_getElem? (plL_get (by omega))
  have hg : pl c1 (more / 4 % 4).toNat ∈ plL c1 := List.mem_of_getElem? (plL_get (by omega))
  have hw : wr c0 (more / 16 % 3).toNat ∈ wrL c0 := wrL_mem (by omega)
  have hm : 1 * scale ≤ (1 + more / 48 % 12) * scale ∧ (1 + more / 48 % 12) * scale ≤ 12 * scale := ⟨Int.mul_le_mul_of_nonneg_right (by omega) (by omega), Int.mul_le_mul_of_nonneg_right (by omega) (by omega)⟩
  have key : ∀ x : Int, x ≤ 48 * scale → x ≤ 10 ^ 30 := fun x h => Int.le_trans h h2
  clear h2
  unfold some10
  split <;> first
    | exact trivial
    | exact ⟨hp, hw, by omega, key _ (by omega)⟩
    | exact ⟨hp, hg, hw, by omega, key _ (by omega)⟩
    | exact ⟨hw, by omega, key _ (by omega)⟩
    | exact hg
end Sf
namespace Sf
open PySem PySem.Spec PyProof.Rows L2
section
variable {Γ : Ga} {δ : De} {μ μ1 μ2 : Mu} {ta tb te to : TE} {K : PySem.W.Frag} {p : Addr}
/-- the keys of a locked dict -/
theorem w_keys {od : Obj} {ws : List (Key × V)} {kvs : List (Key × PD)} (h : Ev Γ te δ μ (.r (.ref p)) μ1) (hg : (.ref p, Sv.fk od ws) ∈ Γ.gh) (hv : Kv Γ.K Γ.W0.i ws kvs) : EvW Γ (iKeys te) δ μ (kvs.map fun e => .d (kD e.1)) μ1 := fun σ W A R r =>
  h σ W A _ fun v W1 A1 l1 h1 => by
    cases h1
    obtain ⟨p', e, g1⟩ := A1.gh _ hg
    cases e
    have kv1 : Kv Γ.K W1.i ws kvs := hv.ex A1.bs.i
    have hl := hv.len
    refine ⟨p, od, rfl, .inl ⟨ws, W1.s _ _ g1, r _ [(.ref p, Sv.fk od ws)] W1 A1 l1 (gh_one ⟨p, rfl, g1⟩) ⟨fun i W hi hg => ?_, fun W hg => ?_, fun i W x H' hi hg y => ?_⟩⟩⟩
    · obtain ⟨p', e, g2⟩ := hg _ List.mem_cons_self
      cases e
      exact ⟨W.s _ _ g2, by rw [hl]; simpa using hi⟩
    · obtain ⟨p', e, g2⟩ := hg _ List.mem_cons_self
      cases e
      exact ⟨W.s _ _ g2, by rw [hl]; simp⟩
    · obtain ⟨rfl, k, v', e, rfl⟩ := y
      obtain ⟨d, e1, e2⟩ := kv1.get e
      exact ⟨W, .d (kD k), rfl, LeX.refl _ W, by rw [List.getElem?_map, e1]; rfl, kD_dp k⟩
theorem ex_lst1 {tl : TA} (h : EvX Γ te δ μ) : EvX Γ (tLst (tCons te tl)) δ μ := fun σ W A Q => h σ W A _
end
end Sf
namespace Sf
open PySem PySem.Spec PyProof.Rows L2
/-! ### sorted of data, extend -/
def dLe : PD → PD → Bool := PySem.W.dataLe false (fun d : PD => d)
def dLeV (x y : V × PD) : Bool := dLe x.2 y.2
def sortDV (xs : List V) (ds : List PD) : List V := ((xs.zip ds).mergeSort dLeV).map (·.1)
def rSortD (K : PySem.W.Frag) : List V → Hp → VK → Prop := fun vs H Q => ∃ (l : Addr) (xs : List V) (ds : List PD), vs = [.ref l] ∧ SqL K H l xs ∧ DpAll K H xs ds ∧ PySem.W.AllAlike ds ∧ PySem.W.Sortable ds ∧ (∀ d ∈ ds, d.depth ≤ 1) ∧ ∀ q, H q = none → Q (.ref q) (upd H q (.lst (sortDV xs ds)))
theorem vals_of_eachD {R : Value → V × PD → Prop} (h : ∀ v x, R v x → RelV x.1 v) : ∀ {vs : List Value} {ys : List (V × PD)}, PySem.W.EachIs R vs ys → Vals (ys.map (·.1)) vs
  | _, _, .nil => .nil
  | _, _, .cons a t => .cons (h _ _ a) (vals_of_eachD h t)
theorem zip_snd {α β : Type} {xs : List α} {ys : List β} (h : xs.length = ys.length) : (xs.zip ys).map (fun z => z.2) = ys := List.map_snd_zip (by omega)
theorem dpAll_at {K : PySem.W.Frag} {I : Hp} {vs : List V} {ds : List PD} (h : DpAll K I vs ds) {i : Nat} (h1 : i < vs.length) (h2 : i < ds.length) : Dp K I vs[i] ds[i] := by
  obtain ⟨d, e, q⟩ := h.getV (j := i) (List.getElem?_eq_getElem h1)
  rw [List.getElem?_eq_getElem h2] at e
  cases e
  exact q
theorem cr_sortedD {X : Cx} {K : PySem.W.Frag} {k : Nat} (hK : X.K = K) (hr : Room k X.A) : CallR X (.builtin "sorted") (rSortD K) := by
  intro pins s σ H vs us Q I r h
  subst hK
  obtain ⟨l, xs, ds, rfl, hs, hd, hal, hsrt, hdep, q⟩ := h
  obtain rfl := Vals.ref1 r
  obtain ⟨its, rv, hl, hz⟩ := I.list hs
  have hil := rv.length
  have hdl := hd.length
  have hzl : (xs.zip ds).length = xs.length := by rw [List.length_zip, hdl, Nat.min_self]
  have e2 : (xs.zip ds).map (fun z => z.2) = ds := zip_snd hdl
  have e : PySem.W.EachIs (fun v (x : V × PD) => RelV x.1 v ∧ ∃ as, Reads s.heap v x.2 as) its (xs.zip ds) := by
    refine PySem.W.EachIs.of_zip (by rw [hzl, hil]) fun p hp' => ?_
    obtain ⟨i, hi, hi2⟩ := List.getElem_of_mem hp'
    rw [List.length_zip] at hi
    rw [List.getElem_zip] at hi2
    subst hi2
    have hi3 : i < xs.length := by omega
    have hi4 : i < ds.length := by omega
    have hi5 : i < its.length := by omega
    obtain ⟨u, hu, ru⟩ := rv.get (List.getElem?_eq_getElem hi3)
    rw [List.getElem?_eq_getElem hi5] at hu
    cases hu
    have hq := dpAll_at hd hi3 hi4
    rw [List.getElem_zip]
    exact ⟨ru, Dp.reads I _ _ _ hq ru⟩
  have ez : (xs.zip ds).length ≤ sizeLine := by rw [hzl]; exact hz
  refine PySem.W.sorted_data (enc := fun x : V × PD => x.2) hl.isList e (e.mono fun _ _ z => z.2) (by rw [e2]; exact hal) (by rw [e2]; exact hsrt) ez (fun b hb => ?_) fun out hol eo => ?_
  · have hb2 : b.2 ∈ ds := by rw [← e2]; exact List.mem_map_of_mem hb
    have := hdep _ hb2
    have := hr.units
    omega
  · have vv : Vals (sortDV xs ds) out := vals_of_eachD (fun v x z => z.1) eo
    obtain ⟨c, hc⟩ := PyProof.Rows.sortedAll_at s.heap its out.toArray
    refine ⟨.ref (s.heap.objs.size + 1), upd H (s.heap.objs.size + 1) (.lst (sortDV xs ds)), I.laid (t' := s.toks) (fun b o k => PyProof.Rows.sortedAll_old k) (Nat.le_succ _) ⟨?_, out, c, vv, hc⟩, rfl, q _ (I.hok.fresh (Nat.le_succ _))⟩
    rw [vv.length, hol, hzl]
    exact hz
theorem dpAll_zipD {K : PySem.W.Frag} {I : Hp} : ∀ {vs : List V} {ds : List PD}, DpAll K I vs ds → ∀ z ∈ vs.zip ds, Dp K I z.1 z.2
  | [], [], _, _, h => nomatch h
  | v :: vs, p :: l, .cons a t, z, hz => by
    rcases List.mem_cons.mp hz with rfl | hz
    · exact a
    · exact dpAll_zipD t z hz
theorem dpAll_ofD {K : PySem.W.Frag} {I : Hp} : ∀ (ys : List (V × PD)), (∀ z ∈ ys, Dp K I z.1 z.2) → DpAll K I (ys.map (·.1)) (ys.map (·.2))
  | [], _ => .nil
  | y :: ys, h => .cons (h y List.mem_cons_self) (dpAll_ofD ys fun z hz => h z (List.mem_cons_of_mem _ hz))
theorem n_sortD {Γ : Ga} {δ : De} {μ μ1 : Mu} {te : TE} {K : PySem.W.Frag} {ds : List PD} (hK : Γ.K = K) (h : Ev Γ te δ μ (dL ds) μ1) (hal : PySem.W.AllAlike ds) (hs : PySem.W.Sortable ds) (hd : ∀ d ∈ ds, d.depth ≤ 1) : EvN1 Γ (tCB (rSortD K) (tCons te tNil)) δ μ (.lst (ds.mergeSort dLe)) μ1 := fun σ W A Q q =>
  a_cons h a_nil σ W A _ fun vs W1 A1 l1 hs' => by
    subst hK
    obtain ⟨v, rfl, h1⟩ := sv1 hs'
    obtain ⟨p, ws, rfl, h3, h4⟩ := svL h1
    have hl := h4.length
    refine ⟨p, ws, ds, rfl, sf_sqL W1.s h3, h4.ex W1.s, hal, hs, hd, fun q' hq' => ?_⟩
    have hz := dpAll_zipD h4
    have ha := dpAll_ofD (K := Γ.K) (I := W1.i) ((ws.zip ds).mergeSort dLeV) fun z hzm => hz z ((List.mergeSort_perm _ _).mem_iff.mp hzm)
    have e2 : ((ws.zip ds).mergeSort dLeV).map (·.2) = ds.mergeSort dLe := by
      have e3 := List.map_mergeSort (r := dLeV) (s := dLe) (f := fun z : V × PD => z.2) (l := ws.zip ds) (fun a _ b _ => rfl)
      rw [e3]
      congr 1
      exact zip_snd hl
    rw [e2] at ha
    exact new1 (.lst (ds.mergeSort dLe)) A1 l1 hq' ⟨_, upd_same, ha⟩ q
/-! pairs of whole numbers -/
def lexLe (p q : Int × Int) : Bool := decide (p.1 < q.1 ∨ (p.1 = q.1 ∧ p.2 ≤ q.2))
def psort (l : List (Int × Int)) : List (Int × Int) := l.mergeSort lexLe
theorem dLe_pair (p q : Int × Int) : dLe (pairD p) (pairD q) = lexLe p q := congrFun (congrFun (PySem.W.dataLe_ii (β := Int × Int) (·.1) (·.2)) p) q
theorem psort_data (l : List (Int × Int)) : (pairsD l).mergeSort dLe = pairsD (psort l) := (List.map_mergeSort (r := lexLe) (s := dLe) (f := pairD) (l := l) fun a _ b _ => (dLe_pair a b).symm).symm
theorem n_sortP {Γ : Ga} {δ : De} {μ μ1 : Mu} {te : TE} {K : PySem.W.Frag} {l : List (Int × Int)} (hK : Γ.K = K) (h : Ev Γ te δ μ (dL (pairsD l)) μ1) : EvN1 Γ (tCB (rSortD K) (tCons te tNil)) δ μ (.lst (pairsD (psort l))) μ1 := by
  have := n_sortD hK h (PySem.W.AllAlike.of (enc := pairD) fun _ _ => by simp [pairD, PySem.W.alike, PySem.W.alikeAll]) (PySem.W.Sortable.tuples (enc := pairD) fun _ => ⟨_, _, rfl⟩) fun d hd => by
    obtain ⟨e, _, rfl⟩ := List.mem_map.mp hd
    simp [pairD, PyData.depth, PyData.depthAll]
  rw [psort_data] at this
  exact this
/-- xs.extend(ys), both owned -/
theorem x_ext {Γ : Ga} {δ : De} {μ μ1 μ2 : Mu} {to te : TE} {D : Ends} {ds es : List PD} {K : PySem.W.Frag} {p b : Addr} (k : Nat) (ho : Ev Γ to δ μ (.r (.ref p)) μ1) (h : Ev Γ te δ μ1 (.r (.ref b)) μ2) (hk : μ2[k]? = some (p, .lst ds)) (hb : (b, OO.lst es) ∈ μ2) (hz : ds.length + es.length ≤ 1000000) (may : Γ.may p) (h1k : ∃ es, (p, OO.lst es) ∈ μ1) (n : Nx Γ D δ (μ2.set k (p, .lst (ds ++ es)))) :
    Sx Γ (tDrop (tBM K "list" rExtend to (tCons te tNil))) D δ μ := fun σ W A =>
  ho σ W A _ fun v W1 A1 l1 h1 => by
    cases h1
    obtain ⟨es0, h1k⟩ := h1k
    obtain ⟨ws, e1, _⟩ := A1.ow.ok _ h1k
    refine ⟨.inl ⟨rfl, ws, .inl (.inl e1)⟩, h σ W1 A1 _ fun w W2 A2 l2 h2 => ?_⟩
    cases h2
    obtain ⟨vs, e2, e3⟩ := A2.ow.ok _ (List.mem_of_getElem? hk)
    obtain ⟨us, e4, e5⟩ := A2.ow.ok _ hb
    refine ⟨p, b, vs, us, rfl, rfl, e2, e4, by rw [e3.length, e5.length]; exact Nat.le_trans hz (by decide), ?_⟩
    obtain ⟨nn, A3⟩ := Ast.wrAt (o' := .lst (ds ++ es)) (u := .lst (vs ++ us)) k hk A2 may fun nn => ⟨_, upd_same, e3.app e5⟩
    exact n σ _ A3
end Sf
namespace Sf
open PySem PySem.Spec PyProof.Rows L2
section
variable {Γ : Ga} {δ : De} {μ μ1 μ2 : Mu} {vs : List Nat}
theorem n_lcO {α : Type} {wi : TI} {g : TG} {tt : TT} {te : TE} {ow : Mu} (L : List α) (F : α → Sv) (p : α → Bool) (y : α → PD) (hw : EvWo Γ wi δ μ (L.map F) ow μ1) (hO : ∀ e ∈ ow, e ∈ μ1)
    (hb : ∀ a, a ∈ L → ∀ gh o, ∃ δ2, GW { Γ with gh := gh } g vs (wipeD δ vs) (o :: μ1) (F a) δ2 ∧ EvT { Γ with gh := gh } tt δ2 (o :: μ1) (p a) (o :: μ1) ∧ (p a = true → Ev { Γ with gh := gh } te δ2 (o :: μ1) (.d (y a)) (o :: μ1)))
    (hlen : L.length ≤ 100000) : EvN1 Γ (tLc wi g tt te vs) δ μ (.lst ((L.filter p).map y)) μ1 := fun σ W A Q q =>
  hw σ W A _ fun J gs W1 A1 l1 hg Y => by
    have A1' := A1.ghosts hg
    intro D hD
    obtain ⟨f1, f2, f3⟩ := A1'.fresh hD
    have A2 := A1'.new (o := .lst []) (u := .lst []) hD ⟨[], upd_same, .nil⟩
    have lenL : (L.map F).length = L.length := List.length_map _
    refine ⟨fun i m H' => m = L.length - i ∧ i ≤ L.length ∧ ∃ W', Wd.h W' = H' ∧ Same W1.i W'.i ∧ Ast { Γ with gh := gs ++ Γ.gh } σ W' δ ((D, .lst (((L.take i).filter p).map y)) :: μ1), ⟨L.length, by simp, Nat.zero_le _, W1.wr D (.lst []) (Wd.none_of hD), rfl, (Same.rfl' : Same W1.i W1.i), A2⟩, ?_⟩
    rintro i m H' ⟨rfl, hi, W2, rfl, l2, A3⟩
    have hg2 : Gh Γ.K gs W2 := fun g hm => A3.gh g (List.mem_append_left _ hm)
    have hw2 : Ow Γ.K ow W2 := fun e he => A3.ow.ok e (List.mem_cons_of_mem _ (hO e he))
    by_cases hlt : i < L.length
    · refine .inr ⟨Y.go i W2 (by rw [lenL]; exact hlt) hg2 hw2, fun H4 => i + 1 ≤ L.length ∧ ∃ W', Wd.h W' = H4 ∧ Same W1.i W'.i ∧ Ast { Γ with gh := gs ++ Γ.gh } σ W' δ ((D, .lst (((L.take (i + 1)).filter p).map y)) :: μ1), fun H4 h4 => ⟨L.length - (i + 1), by omega, rfl, h4.1, h4.2⟩, fun x H3 yl => ?_⟩
      obtain ⟨W3, s, rfl, l3, e3, e4⟩ := Y.yld i W2 x H3 (by rw [lenL]; exact hlt) hg2 hw2 yl
      obtain ⟨a, ea, es⟩ : ∃ a, L[i]? = some a ∧ s = F a := by
        rw [List.getElem?_map] at e3
        cases q1 : L[i]? with
        | none => rw [q1] at e3; cases e3
        | some a =>
          rw [q1] at e3
          cases e3
          exact ⟨a, rfl, rfl⟩
      subst es
      obtain ⟨δ2, h5, h6, h7⟩ := hb a (List.mem_of_getElem? ea) (gs ++ Γ.gh) (D, .lst (((L.take i).filter p).map y))
      have A4 := A3.le l3
      refine h5 x (wipe σ vs) W3 (A4.wipe vs) e4 _ fun σ5 A5 e5 => ⟨?_, ?_⟩
      · rw [e5]
        refine List.ext_getElem? fun j => ?_
        by_cases m : j ∈ vs
        · rw [wipe_in m, wipe_in m, wipe_length]
        · simp only [wipe_get m]
      refine h6 σ5 W3 A5 _ fun W6 A6 l6 => ?_
      have tk := take_succ_get ea
      cases hp : p a with
      | true =>
        rw [if_pos rfl]
        rw [hp] at h7
        refine h7 rfl σ5 W6 A6 _ fun v W7 A7 l7 e7 => ?_
        obtain ⟨ws, k1, k2⟩ := A7.ow.ok _ List.mem_cons_self
        have hsz : ws.length < sizeLine := by
          rw [k2.length]
          refine Nat.lt_of_lt_of_le ?_ (show 100001 ≤ sizeLine by decide)
          rw [List.length_map]
          have := List.length_filter_le p (L.take i)
          rw [List.length_take] at this
          omega
        refine ⟨ws, k1, hsz, hlt, ?_⟩
        have A8 := A4.back A7 (l6.trans l7)
        have hDi : W7.i D = none := (A8.ow.fr _ List.mem_cons_self).1
        have A9 := A8.wr (o' := .lst (((L.take i).filter p).map y ++ [y a])) (u := .lst (ws ++ [v])) (.inr f2) hDi ⟨_, upd_same, k2.app (.cons e7 .nil)⟩
        refine ⟨W7.wr D (.lst (ws ++ [v])) hDi, rfl, ((l2.trans l3.i).trans l6).trans l7, ?_⟩
        rw [tk, List.filter_append, List.map_append]
        have : List.filter p [a] = [a] := by simp [hp]
        rw [this]
        exact A9
      | false =>
        rw [if_neg Bool.false_ne_true]
        refine ⟨hlt, W6, rfl, (l2.trans l3.i).trans l6, ?_⟩
        have : List.filter p [a] = [] := by simp [hp]
        rw [tk, List.filter_append, this, List.append_nil]
        exact A4.back A6 l6
    · have e : i = L.length := by omega
      subst e
      refine .inl ⟨?_, ?_⟩
      · have := Y.stop W2 hg2 hw2
        rwa [lenL] at this
      · rw [List.take_length] at A3
        exact q [D] _ W2 rfl (fun b hb => by
          cases List.mem_singleton.mp hb
          exact ⟨f2, f3⟩) A3.unghosts (l1.trans l2) rfl
theorem n_lc {α : Type} {wi : TI} {g : TG} {tt : TT} {te : TE} (L : List α) (F : α → Sv) (p : α → Bool) (y : α → PD) (hw : EvW Γ wi δ μ (L.map F) μ1)
    (hb : ∀ a, a ∈ L → ∀ gh o, ∃ δ2, GW { Γ with gh := gh } g vs (wipeD δ vs) (o :: μ1) (F a) δ2 ∧ EvT { Γ with gh := gh } tt δ2 (o :: μ1) (p a) (o :: μ1) ∧ (p a = true → Ev { Γ with gh := gh } te δ2 (o :: μ1) (.d (y a)) (o :: μ1)))
    (hlen : L.length ≤ 100000) : EvN1 Γ (tLc wi g tt te vs) δ μ (.lst ((L.filter p).map y)) μ1 := n_lcO L F p y hw.o (fun e he => nomatch he) hb hlen
end
end Sf
namespace Sf
open PySem PySem.Spec PyProof.Rows L2
section
variable {Γ : Ga} {δ : De} {μ μ1 μ2 : Mu} {ta tb : TE} {a b : Bool}
theorem e_eqB (ha : Ev Γ ta δ μ (dB a) μ1) (hb : Ev Γ tb δ μ1 (dB b) μ2) : Ev Γ (tOp rEq ta tb) δ μ (dB (decide (a = b))) μ2 := fun σ W A Q q =>
  e_two ha hb A fun v w W' A' l h1 h2 => by
    cases svB h1
    cases svB h2
    refine ⟨rfl, ?_⟩
    have e : decide (V.bl a = V.bl b) = decide (a = b) := by simp
    rw [e]
    exact q _ W' A' l (.bl _)
theorem e_neB (ha : Ev Γ ta δ μ (dB a) μ1) (hb : Ev Γ tb δ μ1 (dB b) μ2) : Ev Γ (tOp rNe ta tb) δ μ (dB (!decide (a = b))) μ2 := fun σ W A Q q =>
  e_two ha hb A fun v w W' A' l h1 h2 => by
    cases svB h1
    cases svB h2
    refine ⟨rfl, ?_⟩
    have e : decide (V.bl a = V.bl b) = decide (a = b) := by simp
    rw [e]
    exact q _ W' A' l (.bl _)
end
/-- a part of what a def may write -/
theorem may_sub {Γ : Ga} {m0 m : Mu} (hF : Γ.F = foot false m0) (h : m.Sublist m0) : ∀ b ∈ m.map (·.1), Γ.may b := fun b hb => may_all hF rfl b ((h.map _).subset hb)
end Sf
namespace Sf
open PySem PySem.Spec PyProof.Rows L2
/-! ### str(b), text * n, in a tuple -/
theorem call_str_bool {X : Cx} : CallR X (.type "str") (fun xs H Q => ∃ b, xs = [.bl b] ∧ Q (.str (if b then "True" else "False")) H) := by
  intro pins s σ H xs us Q I r h
  obtain ⟨b, rfl, q⟩ := h
  obtain ⟨u, rfl, r1⟩ := vals1 r
  cases r1
  exact PySem.P.str_of_bool ⟨.str _, H, I.tok _, ⟨_, rfl⟩, q⟩
def rMulS : R2 := fun x y H Q => ∃ a n, x = .str a ∧ y = .int n ∧ MulOk a n ∧ Q (.str (Txt.mul a n)) H
theorem op_mulS {X : Cx} : OpR X (binaryOp .Mult) rMulS := by
  intro pins s σ H x y v u Q I rx ry h
  obtain ⟨a, n, rfl, rfl, hok, q⟩ := h
  obtain ⟨t, rfl⟩ := rx
  obtain ⟨t2, rfl⟩ := ry
  exact SB.mul hok fun t' k => ⟨.str _, H, I.kept (t' := k) fun _ _ z => z, ⟨_, rfl⟩, q⟩
section
variable {Γ : Ga} {δ : De} {μ μ1 μ2 : Mu} {ta tb te : TE} {K : PySem.W.Frag}
theorem e_strB {b : Bool} (h : Ev Γ te δ μ (dB b) μ1) : Ev Γ (tCB (fun xs H Q => ∃ b, xs = [.bl b] ∧ Q (.str (if b then "True" else "False")) H) (tCons te tNil)) δ μ (dS (if b then "True" else "False")) μ1 :=
  e_cb (a_cons h a_nil) fun σ W vs A hs Q q => by
    obtain ⟨v, rfl, h1⟩ := sv1 hs
    cases svB h1
    exact ⟨b, rfl, q _ W (LeX.refl _ W) (.str _)⟩
theorem e_mulS {a : Str} {n : Int} (ha : Ev Γ ta δ μ (dS a) μ1) (hb : Ev Γ tb δ μ1 (dI n) μ2) (hok : MulOk a n) : Ev Γ (tOp rMulS ta tb) δ μ (dS (Txt.mul a n)) μ2 := fun σ W A Q q =>
  e_two ha hb A fun v w W' A' l h1 h2 => by
    cases svS h1
    cases svI h2
    exact ⟨a, n, rfl, rfl, hok, q _ W' A' l (.str _)⟩
theorem inV_strs {x : Str} {ns : List Str} : inV (.str x) (ns.map V.str) = decide (x ∈ ns) := by
  unfold inV
  rw [List.any_map, Bool.eq_iff_iff, List.any_eq_true]
  simp only [Function.comp, eqV, beq_iff_eq, decide_eq_true_eq]
  constructor
  · rintro ⟨y, hy, rfl⟩; exact hy
  · intro h; exact ⟨x, h, rfl⟩
theorem inV_ints' {x : Int} {ns : List Int} : inV (.int x) (ns.map V.int) = decide (x ∈ ns) := by
  unfold inV
  rw [List.any_map, Bool.eq_iff_iff, List.any_eq_true]
  simp only [Function.comp, eqV, beq_iff_eq, decide_eq_true_eq]
  constructor
  · rintro ⟨y, hy, rfl⟩; exact hy
  · intro h; exact ⟨x, h, rfl⟩
theorem e_inUI {x : Int} {ns : List Int} (hK : Γ.K = K) (ha : Ev Γ ta δ μ (dI x) μ1) (hb : Ev Γ tb δ μ1 (dU (ns.map .int)) μ2) : Ev Γ (tOp (rIn K false) ta tb) δ μ (dB (decide (x ∈ ns))) μ2 := fun σ W A Q q =>
  e_two ha hb A fun v w W' A' l h1 h2 => by
    subst hK
    cases svI h1
    obtain ⟨p, vs, rfl, h3, h4⟩ := svU h2
    cases h4.ints_inv
    refine ⟨p, ns.map V.int, rfl, .inr (sf_sqT W'.s h3), rfl, by rw [List.all_map, List.all_eq_true]; intro y _; rfl, ?_⟩
    show Q (.bl (inV _ _)) _
    rw [inV_ints']
    exact q _ W' A' l (.bl _)
theorem e_inUS {x : Str} {ns : List Str} (hK : Γ.K = K) (ha : Ev Γ ta δ μ (dS x) μ1) (hb : Ev Γ tb δ μ1 (dU (ns.map .str)) μ2) : Ev Γ (tOp (rIn K false) ta tb) δ μ (dB (decide (x ∈ ns))) μ2 := fun σ W A Q q =>
  e_two ha hb A fun v w W' A' l h1 h2 => by
    subst hK
    cases svS h1
    obtain ⟨p, vs, rfl, h3, h4⟩ := svU h2
    cases h4.strs_inv
    refine ⟨p, ns.map V.str, rfl, .inr (sf_sqT W'.s h3), rfl, by rw [List.all_map, List.all_eq_true]; intro y _; rfl, ?_⟩
    show Q (.bl (inV _ _)) _
    rw [inV_strs]
    exact q _ W' A' l (.bl _)
theorem e_notInUS {x : Str} {ns : List Str} (hK : Γ.K = K) (ha : Ev Γ ta δ μ (dS x) μ1) (hb : Ev Γ tb δ μ1 (dU (ns.map .str)) μ2) : Ev Γ (tOp (rIn K true) ta tb) δ μ (dB (!decide (x ∈ ns))) μ2 := fun σ W A Q q =>
  e_two ha hb A fun v w W' A' l h1 h2 => by
    subst hK
    cases svS h1
    obtain ⟨p, vs, rfl, h3, h4⟩ := svU h2
    cases h4.strs_inv
    refine ⟨p, ns.map V.str, rfl, .inr (sf_sqT W'.s h3), rfl, by rw [List.all_map, List.all_eq_true]; intro y _; rfl, ?_⟩
    show Q (.bl (!inV _ _)) _
    rw [inV_strs]
    exact q _ W' A' l (.bl _)
/-! ### a list unpacked, new objects handed back -/
theorem gt_unl {ds : List PD} {δ1 : De} {gs : TGs} {n : Nat} (hK : Γ.K = K) (hn : ds.length = n) (h : GTs Γ gs δ μ ds δ1) : GT Γ (gUnl K n gs) δ μ (dL ds) δ1 := fun v σ W A h1 Q q => by
  subst hK
  obtain ⟨p, vs, rfl, h3, h4⟩ := svL h1
  exact ⟨p, vs, rfl, sf_sqL W.s h3, by rw [h4.length, hn], h vs σ W A h4 Q q⟩
theorem x_retOwns {E : XK} {D : Ends} {k : Nat} {sn : List Addr → Sv} {mn : List Addr → Mu} (ps : List Addr) (hl : ps.length = k) (h : Ev Γ te δ μ (sn ps) μ1) (hp : ∀ p ∈ ps, p ∉ Γ.O ∧ p ∈ μ1.map (·.1)) (hD : OcOk Γ.K Γ.W0 Γ.F D.rt E (.new k sn mn)) (hm : (mn ps).Sublist μ1) : Sx Γ (tRet te) D δ μ := fun σ W A =>
  h σ W A _ fun v W1 A1 l1 e1 => hD ps v W1 hl (fun b hb => fresh_of (W' := W1) A1 (hp b hb).2 (hp b hb).1) A1.bs e1 ⟨fun e he => A1.ow.ok e (hm.subset he), fun e he => A1.ow.fr e (hm.subset he), A1.ow.nd.sublist (hm.map _)⟩
end
theorem pg_unl' {X : Cx} {K : PySem.W.Frag} (hK : X.K = K) {pos : Pos} {es : List Expr} {k : Nat} {t : TGs} {n : Nat} (hc : X.calm = true) (h : PGs X es t)
    (hn : (assignEach es X.env).length = n := by rfl) (hst : (assignEach es X.env).findIdx? (·.1) = none := by rfl) : PG X (.Tuple es k pos) (gUnl K n t) := by
  subst hK
  exact pg_unl hc h hn hst
/-! ### except X as e, isinstance(e, Y) -/
def adr : Value → Addr
  | .ref D => D
  | _ => 0
def ECls (K : PySem.W.Frag) (cls : Value) (d : Option Addr) : Prop := cls = .ref (adr cls) ∧ d = none ∧ ExcC K (adr cls)
def tGd (p : Prop) (t : TS) : TS := fun D σ H => p ∧ t D σ H
theorem pss_gd {X : Cx} {p : Prop} {b : List Stmt} {t : TS} (h : p → PSs X b t) : PSs X b (tGd p t) := ⟨fun pins s σ H D I q => (h q.1).run pins s σ H D I q.2⟩
theorem call_isE' {X : Cx} {K : PySem.W.Frag} (hK : X.K = K) {a : Addr} {oe : Obj} {pn : List (Addr × Obj)} {cls : Value} {d : Option Addr} (hE : ECls K cls d) (hz : Zc cls d oe) (hf : ∃ vs, oe.data = .fields vs) : CallR (X.suite a ((a, oe) :: pn)) (.builtin "isinstance") (rIsE K (adr cls) a) := by
  subst hK
  obtain ⟨h1, h2, h3⟩ := hE
  rw [h1, h2] at hz
  exact call_isE h3 hz hf
section
variable {Γ : Ga} {δ : De} {μ : Mu} {te : TE} {K : PySem.W.Frag} {D : Ends}
theorem e_isE {C a : Addr} {c : V} {cv : Value} {b : Bool} (h : Ev Γ te δ μ (.r (.ref a)) μ) (hc : ∀ u, RelV c u → u = cv) (hk : PySem.W.kitOne K (.ref C) cv = some b) : Ev Γ (tCB (rIsE K C a) (tCons te (tCons (tC c) tNil))) δ μ (dB b) μ :=
  e_cb (a_cons h (a_cons e_raw a_nil)) fun σ W vs A hs Q q => by
    obtain ⟨v, w, rfl, h1, h2⟩ := sv2 hs
    cases h1
    cases h2
    exact ⟨c, cv, b, rfl, hc, hk, q _ W (LeX.refl _ W) (.bl _)⟩
theorem x_gd {p : Prop} {t : TS} (hp : p) (h : Sx Γ t D δ μ) : Sx Γ (tGd p t) D δ μ := fun σ W A => ⟨hp, h σ W A⟩
theorem wi_yesAs {C : Addr} {c : Value} {i : Nat} {ts : Addr → Value → Option Addr → TS} {Wout : WX} (e : PySem.W.exmOne K (.ref C) c = some true) (h : ∀ (a : Addr) (D' : Ends), D'.rt = D.rt → Sx Γ (ts a (.ref C) none) D' (δ.set i (some (.r (.ref a)))) μ) : Wish Γ (wAs K c i ts Wout D) C δ μ := fun σ W' A =>
  ⟨true, e, fun _ a _ => h a { nx := fun σ' H' => D.nx (σ'.set i none) H', rt := D.rt, bk := fun σ' H' => D.bk (σ'.set i none) H', ct := fun σ' H' => D.ct (σ'.set i none) H' } rfl _ W' (A.set i (v := .ref a) (s := .r (.ref a)) rfl), fun z => nomatch z⟩
end
/-! what the classes of errors must say -/
def excBits (K : PySem.W.Frag) (D : Addr) : Bool := He.eqO (PySem.W.findIn K (.ref D) "__getattribute__") (some (some (.builtin "BaseException.__getattribute__"))) && (He.eqO (PySem.W.findIn K (.ref D) "__getattr__") (some none) && (decide (PySem.W.subIn K (.ref D) (.type "BaseException") = some true) && (PySem.W.hasDictIn K D && (He.eqO (PySem.W.findIn K (.ref D) "__class__") (some (some (.builtin "object.__class__"))) && (He.eqO (PySem.W.specialIn K (.builtin "object.__class__") "__get__") (some (some (.builtin "getset_descriptor.__get__"))) && (decide (PySem.W.takesIn K (.builtin "object.__class__") = some true) && decide (PySem.W.mroIn K D (.type "object") = some true)))))))
theorem excC_of {K : PySem.W.Frag} {D : Addr} (h : excBits K D = true) : ExcC K D := by
  unfold excBits at h
  obtain ⟨h1, h⟩ := He.ba h
  obtain ⟨h2, h⟩ := He.ba h
  obtain ⟨h3, h⟩ := He.ba h
  obtain ⟨h4, h⟩ := He.ba h
  obtain ⟨h5, h⟩ := He.ba h
  obtain ⟨h6, h⟩ := He.ba h
  obtain ⟨h7, h8⟩ := He.ba h
  exact ⟨He.eqO_ok h1, He.eqO_ok h2, of_decide_eq_true h3, h4, He.eqO_ok h5, He.eqO_ok h6, of_decide_eq_true h7, of_decide_eq_true h8⟩
def clsV (K : PySem.W.Frag) (y : Str) : Value := if y = "ValueError" then .type "ValueError" else .ref (He.ga K y)
def exB (xs : List Str) (l : List (Str × Str × Bool)) (K : PySem.W.Frag) : Bool := xs.all (fun x => excBits K (He.ga K x)) && l.all fun e => decide (PySem.W.kitOne K (.ref (He.ga K e.1)) (clsV K e.2.1) = some e.2.2)
theorem exB_cls {K : PySem.W.Frag} {xs : List Str} {l : List (Str × Str × Bool)} (h : exB xs l K = true) {x : Str} (hx : x ∈ xs) : ECls K (.ref (He.ga K x)) none := ⟨rfl, rfl, excC_of (List.all_eq_true.mp (He.ba h).1 x hx)⟩
theorem exB_kit {K : PySem.W.Frag} {xs : List Str} {l : List (Str × Str × Bool)} (h : exB xs l K = true) {x y : Str} {b : Bool} (hx : (x, y, b) ∈ l) : PySem.W.kitOne K (.ref (He.ga K x)) (clsV K y) = some b := of_decide_eq_true (List.all_eq_true.mp (He.ba h).2 _ hx)
end Sf
namespace Sf
open PySem PySem.Spec PyProof.Rows L2
section
variable {X : Cx} {K : PySem.W.Frag}
theorem op_in_seq' (h : X.K = K) : OpR X (compareOp .In) (rIn K false) := h ▸ op_in_seq
theorem op_notIn_seq' (h : X.K = K) : OpR X (compareOp .NotIn) (rIn K true) := h ▸ op_notIn_seq
end
end Sf
namespace Sf
open PySem PySem.Spec PyProof.Rows L2
/-! ### zip(list, text) -/
def ItzS (K : PySem.W.Frag) (a : Addr) (y : Str) : It :=
  ⟨fun i H => ∃ (xs : List V) (x : V) (c : Nat), SqL K H a xs ∧ xs[i]? = some x ∧ y.cps[i]? = some c,
    fun i H v H' => ∃ T x c, v = .ref T ∧ H T = none ∧ H' = upd H T (.tup [x, .str ⟨#[c]⟩]) ∧ (∀ xs, SqL K H a xs → xs[i]? = some x) ∧ y.cps[i]? = some c,
    fun i H => ∃ xs : List V, SqL K H a xs ∧ i ≤ xs.length ∧ i ≤ y.cps.size ∧ (xs.length = i ∨ y.cps.size = i)⟩
structure ZApart (z TI TO i1 i2 a : Addr) : Prop where
  TIz : TI ≠ z
  TOz : TO ≠ z
  TITO : TI ≠ TO
  TIi1 : TI ≠ i1
  TIi2 : TI ≠ i2
  zi1 : z ≠ i1
  zi2 : z ≠ i2
  za : z ≠ a
  Ti1 : TO ≠ i1
  Ti2 : TO ≠ i2
  Ta : TO ≠ a
  i12 : i1 ≠ i2
  ai1 : a ≠ i1
  ai2 : i2 ≠ a
theorem ZApart.sep {z TI TO i1 i2 a : Addr} (D : ZApart z TI TO i1 i2 a) : ZipSep2 z TI TO i1 i2 [i1, a] [i2] :=
  ⟨D.TIz, D.TOz, D.TITO, D.TIi1, by simp, by simp [D.zi1, D.za], by simp [D.Ti1, D.Ta], D.TIi2, by simp, by simp [D.zi2], by simp [D.Ti2], by simp [D.i12], by simp [D.i12.symm, D.ai2]⟩
theorem turn_zipLS {P : Program} {w : World} {K : PySem.W.Frag} {elts : List Expr} {kk : Nat} {tpos : Pos} {a z TI TO i1 i2 : Addr} {y : Str} {t : Tok} (D : ZApart z TI TO i1 i2 a) :
    Turn P w K (.Tuple elts kk tpos) (ItzS K a y) [z, TI, TO, i1, i2] z (fun i h => IsZip h z TI TO .none ∧ IsTupOf2 h TI (.ref i1) (.ref i2) ∧ (∃ x y, IsTupOf2 h TO x y) ∧ h.IsListIter i1 a i ∧ h.IsStrIter i2 (strIterType y) y t i) where
  mem := by simp
  obj := fun i h st c hc => by
    obtain ⟨hz, hTI, ⟨x, y, hTO⟩, ⟨o1, e1, _, d1⟩, ⟨o2, e2, _, d2⟩⟩ := st
    have e' : c = z ∨ c = TI ∨ c = TO ∨ c = i1 ∨ c = i2 := by simpa using hc
    rcases e' with q | q | q | q | q
    · rw [q]; exact ⟨_, hz, fun v q => nomatch q⟩
    · rw [q]; exact ⟨_, hTI, fun v q => nomatch q⟩
    · rw [q]; exact ⟨_, hTO, fun v q => nomatch q⟩
    · rw [q]; exact ⟨o1, e1, fun v q => by rw [d1] at q; cases q⟩
    · rw [q]; exact ⟨o2, e2, fun v q => by
        first
          | (rw [d2] at q; cases q)
          | (obtain ⟨u, d2⟩ := d2; rw [d2] at q; cases q)⟩
  keep := fun i h h' st k => by
    obtain ⟨hz, hTI, ⟨x, y, hTO⟩, h1, ⟨o, ho, r⟩⟩ := st
    exact ⟨k z (by simp) _ hz, k TI (by simp) _ hTI, ⟨x, y, k TO (by simp) _ hTO⟩, h1.at fun o q => k i1 (by simp) o q, ⟨o, k i2 (by simp) o ho, r⟩⟩
  item := by
    intro X hP hw hK hc i pins s σ H E I hf st hg
    subst hP hw hK
    obtain ⟨hz, hTI, ⟨x0, y0, hTO⟩, h1, h2⟩ := st
    obtain ⟨xs, x, c, hqx, hx, hy⟩ := hg
    obtain ⟨its, rv, p, _⟩ := I.list hqx
    obtain ⟨u, hu, ru⟩ := rv.get hx
    have hl1 : i < its.toArray.size := by
      have := (List.getElem?_eq_some_iff.mp hu).1
      simpa using this
    have hl2 : i < y.cps.size := (Array.getElem?_eq_some_iff.mp hy).1
    have hzl : z < s.heap.objs.size := Heap.lt_size hz
    have hh : X.A.in1.handled = none := I.ok.hd hc
    refine wpAny_pyNext_zipD2_item (i := i) D.sep (.list hh i1 a D.ai1 its.toArray) (.text hh i2 y t) hz hTI hTO ⟨h1, p.isList⟩ h2 hl1 hl2 fun x1 x2 h' tk y1 y2 z' TO' s1' s2' hT hsz hk => ?_
    obtain ⟨c', u', hc', rfl⟩ := y2
    rw [hy] at hc'
    cases hc'
    have y1 : its.toArray[i]? = some x1 := y1
    have hx1 : x1 = u := by
      have : its.toArray[i]? = some u := by simpa using hu
      rw [this] at y1
      exact (Option.some.inj y1).symm
    subst hx1
    refine ⟨_, rfl, wpAny_letOwnedTupleGo_zip (s := { s with heap := h', toks := tk }) z' fun h'' z'' sb => ?_⟩
    have hT2 : h''.get? s.heap.objs.size = some { cls := .type "tuple", data := .seq #[x1, .str ⟨#[c]⟩ u'] } := (sb.2 _ (Nat.ne_of_gt hzl)).trans hT
    have new : ObjOk X.prog X.w (upd H s.heap.objs.size (.tup [x, .str ⟨#[c]⟩])) h'' s.heap.objs.size (.tup [x, .str ⟨#[c]⟩]) :=
      ⟨by show 2 ≤ sizeLine; decide, [x1, .str ⟨#[c]⟩ u'], .cons ru (.cons ⟨_, rfl⟩ .nil), ⟨_, hT2, rfl, _, rfl⟩⟩
    have I1 : Inv X pins σ (upd H s.heap.objs.size (.tup [x, .str ⟨#[c]⟩])) { s with heap := h'', toks := tk } :=
      I.turnedNew (t' := tk) (ch := [z, TI, TO, i1, i2]) (fun c o hb q => (sb.2 c (fun q' => hb (by simp [q']))).trans (hk c o (fun q' => hb (by simp [q'])) (fun q' => hb (by simp [q'])) (fun q' => hb (by simp [q'])) (fun q' => hb (by simp [q'])) q)) hf (Nat.le_refl _) new
    refine ⟨.ref s.heap.objs.size, _, I1, rfl, ⟨_, x, c, rfl, I.hok.fresh (Nat.le_refl _), rfl, fun l hl => by rw [I.list_inj hl hqx]; exact hx, hy⟩, ⟨z'', ?_, ⟨x1, .str ⟨#[c]⟩ u', ?_⟩, ?_, ?_⟩, fun c hcm => ?_⟩
    · exact (sb.2 _ D.TIz).trans (hk _ _ D.TIz D.TITO D.TIi1 D.TIi2 hTI)
    · exact (sb.2 _ D.TOz).trans TO'
    · exact s1'.1.at fun o q => (sb.2 _ D.zi1.symm).trans q
    · obtain ⟨o, ho, r⟩ := s2'
      exact ⟨o, (sb.2 _ D.zi2.symm).trans ho, r⟩
    · have hlt : c < s.heap.objs.size := by
        have e' : c = z ∨ c = TI ∨ c = TO ∨ c = i1 ∨ c = i2 := by simpa using hcm
        rcases e' with q | q | q | q | q
        · rw [q]; exact hzl
        · rw [q]; exact Heap.lt_size hTI
        · rw [q]; exact Heap.lt_size hTO
        · rw [q]; obtain ⟨_, e1, _⟩ := h1; exact Heap.lt_size e1
        · rw [q]; obtain ⟨_, e2, _⟩ := h2; exact Heap.lt_size e2
      rw [upd_ne (Nat.ne_of_lt hlt)]
      exact (hf c hcm).1
  done := by
    intro X hP hw hK hc i pins s σ H E I hf st hg
    subst hP hw hK
    obtain ⟨hz, hTI, ⟨x0, y0, hTO⟩, h1, h2⟩ := st
    obtain ⟨xs, hqx, hi1, hi2, hend⟩ := hg
    obtain ⟨its, rv, p, _⟩ := I.list hqx
    have l1 := rv.length
    have hsz : its.toArray.size = xs.length := by simp [l1]
    have hh : X.A.in1.handled = none := I.ok.hd hc
    refine wpAny_pyNext_zipD2_end (i := i) D.sep (.list hh i1 a D.ai1 its.toArray) (.text hh i2 y t) hz hTI hTO ⟨h1, p.isList⟩ h2 (by rw [hsz]; exact hi1) hi2 (by rw [hsz]; exact hend.imp Eq.symm Eq.symm) fun h' tk hk => ⟨rfl, I.turnedL (t' := tk) (ch := [z, TI, TO, i1, i2]) (fun c o hb q =>
      hk c o (fun q' => hb (by simp [q'])) (fun q' => hb (by simp [q'])) (fun q' => hb (by simp [q'])) (fun q' => hb (by simp [q'])) q) hf⟩
  self := fun A i s Q E st h => wpAny_pyIter_zip st.1 h
def iZipS (K : PySem.W.Frag) (ta : TA) : TI := fun σ H R => ta σ H fun vs H1 => ∃ a xs y, vs = [.ref a, .str y] ∧ SqL K H1 a xs ∧ R (ItzS K a y) H1
theorem pi_zipS {X : Cx} {K : PySem.W.Frag} (hK : X.K = K) {e e2 : Expr} {ta : TA} {p pos tpos : Pos} {elts : List Expr} {kk : Nat} (hg : Gl X "zip") (hm : X.mg "zip" = none) (ha : PA X [e, e2] ta)
    (hs : starEach [e, e2] X.env = (false, eval e X.env) :: starEach [e2] X.env := by rfl) (hpl : (backTo pos (starEach [e2] X.env)).any (·.1) = false := by rfl) :
    PI X (.Tuple elts kk tpos) (.Call (.Name "zip" p) [e, e2] [] pos) (iZipS K ta) := by
  subst hK
  refine ⟨fun pins s σ H R I h => ?_⟩
  refine Call_ (ld_blt I hg hm PyProof.Rows.boot_zip (PyProof.Rows.callWith_type1 (thn (ha.run pos pins s σ H _ I h) fun us s1 ⟨vs, H1, I1, r1, q1⟩ => ?_) hs hpl))
  obtain ⟨a, xs, y, ex, hqx, q⟩ := q1
  subst ex
  cases r1 with
  | cons r rr =>
    cases rr with
    | cons r' rr =>
      cases rr
      cases r
      obtain ⟨t, rfl⟩ := r'
      have fresh5 : ∀ c, c ∈ [s1.heap.objs.size + 4, s1.heap.objs.size + 2, s1.heap.objs.size + 3, s1.heap.objs.size, s1.heap.objs.size + 1] → FpOk X pins H1 c := fun c hcm => by
        have e' : c = s1.heap.objs.size + 4 ∨ c = s1.heap.objs.size + 2 ∨ c = s1.heap.objs.size + 3 ∨ c = s1.heap.objs.size ∨ c = s1.heap.objs.size + 1 := by simpa using hcm
        have hle : s1.heap.objs.size ≤ c := by
          rcases e' with z | z | z | z | z
          · rw [z]; exact Nat.le_add_right _ _
          · rw [z]; exact Nat.le_add_right _ _
          · rw [z]; exact Nat.le_add_right _ _
          · rw [z]; exact Nat.le_refl _
          · rw [z]; exact Nat.le_add_right _ _
        exact I1.fpOk hle (I1.hok.fresh hle)
      obtain ⟨its, rv, p1, _⟩ := I1.list hqx
      have hal : a < s1.heap.objs.size := p1.lt
      refine zip_begins2 (begins_list a its.toArray) (begins_text y t) p1.isList trivial fun h' hz hTI hTO h1 h2 hsz hk => wpAny_pyIter_zip hz ?_
      have I2 : Inv X pins σ H1 { s1 with heap := h' } := I1.kept (t' := s1.toks) hk
      refine ⟨s1.heap.objs.size + 4, [s1.heap.objs.size + 4, s1.heap.objs.size + 2, s1.heap.objs.size + 3, s1.heap.objs.size, s1.heap.objs.size + 1], _, _, H1, rfl, I2, turn_zipLS (t := t) ⟨?_, ?_, ?_, ?_, ?_, ?_, ?_, ?_, ?_, ?_, ?_, ?_, ?_, ?_⟩, ⟨hz, hTI, ⟨_, _, hTO⟩, ⟨_, h1, rfl, rfl⟩, ?_⟩, fresh5, q⟩
      all_goals first
        | (show (_ : Nat) ≠ _; omega)
        | exact Nat.ne_of_lt hal
        | exact Nat.ne_of_gt (Nat.lt_of_lt_of_le hal (Nat.le_add_right _ _))
        | exact ⟨_, h2, rfl, rfl⟩
        | exact ⟨_, h2, rfl, _, rfl⟩
end Sf
namespace Sf
open PySem PySem.Spec PyProof.Rows L2
/-! ### str(x) of a whole number or a text -/
theorem call_str_si {X : Cx} : CallR X (.type "str") (fun xs H Q => (∃ i, xs = [.int i] ∧ i.natAbs.log2 < 1920 ∧ Q (.str (toString i)) H) ∨ ∃ a, xs = [.str a] ∧ Q (.str a) H) := by
  intro pins s σ H xs us Q I r h
  rcases h with h | h
  · exact call_str_int pins s σ H xs us Q I r h
  · exact SkE.call_str_str pins s σ H xs us Q I r h
def txtD : PD → Str
  | .int n => Str.ofString (toString n)
  | .str s => s
  | _ => ⟨#[]⟩
section
variable {Γ : Ga} {δ : De} {μ μ1 μ2 μ3 : Mu} {ta tb te to td ty tx : TE} {K : PySem.W.Frag} {w : World}
theorem e_strD {d : PD} (h : Ev Γ te δ μ (.d d) μ1) (hd : (∃ n, d = .int n ∧ n.natAbs.log2 < 1920) ∨ ∃ s, d = .str s) : Ev Γ (tCB (fun xs H Q => (∃ i, xs = [.int i] ∧ i.natAbs.log2 < 1920 ∧ Q (.str (toString i)) H) ∨ ∃ a, xs = [.str a] ∧ Q (.str a) H) (tCons te tNil)) δ μ (dS (txtD d)) μ1 :=
  e_cb (a_cons h a_nil) fun σ W vs A hs Q q => by
    obtain ⟨v, rfl, h1⟩ := sv1 hs
    rcases hd with ⟨n, rfl, hn⟩ | ⟨s, rfl⟩
    · cases svI h1
      exact .inl ⟨n, rfl, hn, q _ W (LeX.refl _ W) (.str _)⟩
    · cases svS h1
      exact .inr ⟨s, rfl, q _ W (LeX.refl _ W) (.str _)⟩
/-! ### x.split(y), int(x) -/
theorem e_split {x y : Str} (ha : Ev Γ to δ μ (dS x) μ1) (hb : Ev Γ te δ μ1 (dS y) μ2) (hy : (y.length == 0) = false) (hz : x.length ≤ 100000) :
    Ev Γ (tM1 (fun x xs H Q => ∃ a b, x = .str a ∧ xs = [.str b] ∧ (b.length == 0) = false ∧ a.length + 2 ≤ sizeLine ∧ rNewStrs (Txt.split a b) H Q) to te) δ μ (dL ((Txt.split x y).map .str)) μ2 := fun σ W A Q q =>
  ha σ W A _ fun v W1 A1 l1 h1 => by
    cases svS h1
    refine ⟨⟨x, rfl⟩, hb σ W1 A1 _ fun v2 W2 A2 l2 h2 => ?_⟩
    cases svS h2
    refine ⟨x, y, rfl, rfl, hy, Nat.le_trans (Nat.add_le_add_right hz 2) (by decide), fun p hp => ?_⟩
    have l3 := le_put (o := .lst ((Txt.split x y).map V.str)) hp
    exact q _ (W2.put p _ hp) (A2.le l3) ((l1.trans l2).trans l3.i) (.lst (SqL.of upd_same) DpAll.strs)
theorem e_intS {x : Str} {n : Int} (h : Ev Γ te δ μ (dS x) μ1) (hn : PySem.intText? x = some n) (hl : x.length ≤ 640) : Ev Γ (tCB (fun xs H Q => ∃ a n, xs = [.str a] ∧ PySem.intText? a = some n ∧ a.length ≤ 640 ∧ Q (.int n) H) (tCons te tNil)) δ μ (dI n) μ1 :=
  e_cb (a_cons h a_nil) fun σ W vs A hs Q q => by
    obtain ⟨v, rfl, h1⟩ := sv1 hs
    cases svS h1
    exact ⟨x, n, rfl, hn, hl, q _ W (LeX.refl _ W) (.int _)⟩
/-! ### zip(list, text), zip(tuple, tuple) -/
def zsS (ds : List PD) (y : Str) : List Sv := (ds.zip y.cps.toList).map fun p => dU [p.1, .str ⟨#[p.2]⟩]
theorem w_zipS {ds : List PD} {y : Str} (hK : Γ.K = K) (h : Ev Γ ta δ μ (dL ds) μ1) (h' : Ev Γ tb δ μ1 (dS y) μ2) : EvW Γ (iZipS K (tCons ta (tCons tb tNil))) δ μ (zsS ds y) μ2 := fun σ W A R r =>
  (a_cons h (a_cons h' a_nil)) σ W A _ fun vs W1 A1 l1 hs => by
    subst hK
    obtain ⟨v, v', rfl, h1, h1'⟩ := sv2 hs
    obtain ⟨p, vs, rfl, h3, h4⟩ := svL h1
    cases svS h1'
    have hlen : (zsS ds y).length = min ds.length y.cps.size := by simp [zsS]
    refine ⟨p, vs, y, rfl, sf_sqL W1.s h3, r _ [(.ref p, dL ds)] W1 A1 l1 (gh_one h1) ⟨fun i W hi hg => ?_, fun W hg => ?_, fun i W x H' hi hg yy => ?_⟩⟩
    all_goals obtain ⟨ws, h5, h6⟩ := gh_L (hg _ List.mem_cons_self)
    all_goals have hwl := h6.length
    · rw [hlen] at hi
      have i1 : i < ws.length := by omega
      have i2 : i < y.cps.size := by omega
      exact ⟨ws, ws[i], y.cps[i], h5, List.getElem?_eq_getElem i1, Array.getElem?_eq_getElem i2⟩
    · rw [hlen]
      exact ⟨ws, h5, by omega, by omega, by omega⟩
    · obtain ⟨T, b, c, e1, e2, e3, e4, e5⟩ := yy
      obtain ⟨d, e6, e7⟩ := h6.getV (e4 ws h5)
      have l := le_put (o := .tup [b, .str ⟨#[c]⟩]) e2
      refine ⟨W.put T _ e2, dU [d, .str ⟨#[c]⟩], e3.symm, l, ?_, ?_⟩
      · have e8 : y.cps.toList[i]? = some c := by rw [Array.getElem?_toList]; exact e5
        simp [zsS, List.getElem?_zip_eq_some, e6, e8]
      · rw [e1]
        exact .tup (SqT.of upd_same) (.cons (Dp.ex l.i e7) (.cons (.str _) .nil))
theorem w_zipT {ds es : List PD} (hK : Γ.K = K) (hl : ds.length = es.length) (h : Ev Γ ta δ μ (dU ds) μ1) (h' : Ev Γ tb δ μ1 (dU es) μ2) : EvW Γ (RZ.iZipA K (tCons ta (tCons tb tNil))) δ μ (zipS ds es) μ2 := fun σ W A R r =>
  (a_cons h (a_cons h' a_nil)) σ W A _ fun vs W1 A1 l1 hs => by
    subst hK
    obtain ⟨v, v', rfl, h1, h1'⟩ := sv2 hs
    obtain ⟨p, vs, rfl, h3, h4⟩ := svU h1
    obtain ⟨p', vs', rfl, h3', h4'⟩ := svU h1'
    have hlen : (zipS ds es).length = ds.length := by simp [zipS, hl]
    have gT : ∀ {v : V} {ds : List PD} {W : Wd}, SvOk Γ.K W.i v (dU ds) → ∃ p ws, v = .ref p ∧ SqT Γ.K W.h p ws ∧ DpAll Γ.K W.i ws ds := fun hh => by
      obtain ⟨p, ws, e, a, b⟩ := svU hh
      exact ⟨p, ws, e, sf_sqT (Wd.s _) a, b⟩
    refine ⟨p, p', vs, vs', rfl, .inr ⟨sf_sqT W1.s h3, sf_sqT W1.s h3', r _ [(.ref p, dU ds), (.ref p', dU es)] W1 A1 l1 (gh_two h1 h1') ⟨fun i W hi hg => ?_, fun W hg => ?_, fun i W x H' hi hg y => ?_⟩⟩⟩
    all_goals obtain ⟨q1, ws, ee, h5, h6⟩ := gT (hg _ List.mem_cons_self)
    all_goals cases ee
    all_goals obtain ⟨q2, ws', ee, h5', h6'⟩ := gT (hg _ (List.mem_cons_of_mem _ List.mem_cons_self))
    all_goals cases ee
    all_goals have hw1 := h6.length
    all_goals have hw2 := h6'.length
    · rw [hlen] at hi
      have i1 : i < ws.length := by omega
      have i2 : i < ws'.length := by omega
      exact ⟨ws, ws', ws[i], ws'[i], h5, h5', List.getElem?_eq_getElem i1, List.getElem?_eq_getElem i2⟩
    · rw [hlen]
      exact ⟨ws, ws', h5, h5', by omega⟩
    · obtain ⟨T, a, b, e1, e2, e3, e4, e5⟩ := y
      obtain ⟨d, e6, e7⟩ := h6.getV (e4 ws h5)
      obtain ⟨d', e6', e7'⟩ := h6'.getV (e5 ws' h5')
      have l := le_put (o := .tup [a, b]) e2
      refine ⟨W.put T _ e2, dU [d, d'], e3.symm, l, ?_, ?_⟩
      · simp [zipS, List.getElem?_zip_eq_some, e6, e6']
      · rw [e1]
        exact .tup (SqT.of upd_same) (.cons (Dp.ex l.i e7) (.cons (Dp.ex l.i e7') .nil))
end
/-! ### a written dict -/
def KAt (K : PySem.W.Frag) (p : Addr) (z : Str) (o : Option V) : Prop := ∃ r, PySem.W.nsIn K p z = some r ∧ ((∃ u v, r = some u ∧ o = some v ∧ RelV v u) ∨ (r = none ∧ o = none))
def tKGet2 (K : PySem.W.Frag) (w : World) (td ty tx : TE) : TE := fun σ H Q => td σ H fun x H1 => ∃ p, x = .ref p ∧ (∃ es n, KDict K w p es n) ∧ ty σ H1 fun y H2 => tx σ H2 fun d H3 => ∃ z o, y = .str z ∧ KAt K p z o ∧ Q (o.getD d) H3
theorem pe_kget2 {X : Cx} {K : PySem.W.Frag} {w : World} (hK : X.K = K) (hw : X.w = w) {o e f : Expr} {apos cpos : Pos} {td ty tx : TE} (ho : PE X o td) (he : PE X e ty) (hf : PE X f tx) (m : M2 X o "get" apos e f cpos) : PE X (.Call (.Attribute o "get" apos) [e, f] [] cpos) (tKGet2 K w td ty tx) := by
  subst hK
  subst hw
  refine ⟨fun pins s σ H Q I h => ?_⟩
  refine wpAny_Call_method m.base m.few m.line PySem.F.plainAttrs_dict PySem.F.slot_dict_get PySem.F.type_dict_get (thn (ho.run pins s σ H _ I h) fun u s1 ⟨x, H1, I1, rx, a, ex, ⟨es, n, D⟩, q1⟩ => ?_)
  subst ex
  obtain rfl : u = Value.ref a := rx
  have hm1 := PySem.W.mapOf_K (prog := X.prog) (w := X.w) I1.kIn D.at_ D.lit
  refine ⟨hm1.typeIs, hm1.noDict, ?_⟩
  rw [m.trees]
  refine Calls.callWith_builtin rfl (Calls.evalArgs_plain (Calls.spliced_cons (thn (he.run pins s1 σ H1 _ I1 q1) fun iv s2 ⟨y, H2, I2, ry, q2⟩ =>
    Calls.spliced_cons (thn (hf.run pins s2 σ H2 _ I2 q2) fun fv s3 ⟨d, H3, I3, rd, z, ov, ey, ⟨r, hr, hro⟩, q3⟩ => Calls.spliced_nil ?_))))
  subst ey
  obtain ⟨t, rfl⟩ := (show ∃ t, iv = Value.str z t from ry)
  have hm3 := PySem.W.mapOf_K (prog := X.prog) (w := X.w) I3.kIn D.at_ D.lit
  refine call_meetsIn PySem.F.slot_dict_get hm3.typeIs PySem.F.entry_dict_get (PySem.F.args_dict_get_3 _ _ _) (meets_dict_get_default (k := z) (strKind X.prog X.w) a (strKind_is X.prog X.w z t) D.low fv) ⟨_, hm3, ?_⟩
  rw [PySem.W.find_K D.at_ hr]
  refine ⟨_, H3, I3.tok _, ?_, q3⟩
  rcases hro with ⟨u, v, rfl, rfl, rv⟩ | ⟨rfl, rfl⟩
  · exact rv
  · exact rd
theorem ix_kdict' {X : Cx} {K : PySem.W.Frag} {w : World} (hK : X.K = K) (hw : X.w = w) : IxR X (rIxD K w) := by
  subst hK
  subst hw
  exact ix_kdict
section
variable {Γ : Ga} {δ : De} {μ μ1 μ2 μ3 : Mu} {td ty tx : TE} {K : PySem.W.Frag} {w : World} {p : Addr} {z : Str}
theorem e_kget {d : Int} {o : Option Int} (h : Ev Γ td δ μ (.r (.ref p)) μ1) (hp : ∃ es n, KDict K w p es n) (hy : Ev Γ ty δ μ1 (dS z) μ2) (hx : Ev Γ tx δ μ2 (dI d) μ3) (hk : KAt K p z (o.map V.int)) : Ev Γ (tKGet2 K w td ty tx) δ μ (dI (o.getD d)) μ3 := fun σ W A Q q =>
  h σ W A _ fun v W1 A1 l1 h1 => by
    cases h1
    refine ⟨p, rfl, hp, hy σ W1 A1 _ fun v2 W2 A2 l2 h2 => hx σ W2 A2 _ fun v3 W3 A3 l3 h3 => ?_⟩
    cases svS h2
    cases svI h3
    refine ⟨z, o.map V.int, rfl, hk, ?_⟩
    cases o with
    | none => exact q _ W3 A3 ((l1.trans l2).trans l3) (.int _)
    | some i => exact q _ W3 A3 ((l1.trans l2).trans l3) (.int _)
theorem e_kixS {s : Str} (h : Ev Γ td δ μ (.r (.ref p)) μ1) (hp : ∃ es n, KDict K w p es n) (hy : Ev Γ ty δ μ1 (dS z) μ2) (hk : KAt K p z (some (.str s))) : Ev Γ (tOp (rIxD K w) td ty) δ μ (dS s) μ2 := fun σ W A Q q =>
  e_two h hy A fun v v2 W2 A2 l2 h1 h2 => by
    cases h1
    cases svS h2
    obtain ⟨es, n, D⟩ := hp
    obtain ⟨r, hr, ⟨u, v, e1, e2, rv⟩ | ⟨_, e2⟩⟩ := hk
    · cases e2
      exact ⟨p, z, .str s, rfl, rfl, ⟨es, n, u, D.at_, D.lit, by rw [hr, e1], rv⟩, q _ W2 A2 l2 (.str _)⟩
    · cases e2
end
end Sf
namespace Sf
open PySem PySem.Spec PyProof.Rows L2
/-! ### a written dict, every key -/
def entB (K : PySem.W.Frag) (e : DictEntry) (q : Str × He.Dv) : Bool := match e.key with
  | .str x _ => decide (x = q.1) && He.relB (q.2.v K) e.val
  | _ => false
def entsB (K : PySem.W.Frag) : List DictEntry → List (Str × He.Dv) → Bool
  | [], [] => true
  | e :: r, q :: s => entB K e q && entsB K r s
  | _, _ => false
def tabVB (K : PySem.W.Frag) (a : Addr) (kvs : List (Str × He.Dv)) : Bool := match K.lookup a with
  | some ⟨_, _, .dict es _, _⟩ => entsB K es.toList kvs
  | _ => false
def dvAt (kvs : List (Str × He.Dv)) (z : Str) : Option He.Dv := (kvs.find? fun q => decide (q.1 = z)).map (·.2)
theorem ents_find {K : PySem.W.Frag} (z : Str) : ∀ {es : List DictEntry} {kvs : List (Str × He.Dv)}, entsB K es kvs = true →
    (∃ e v, es.find? (·.key.isStr z) = some e ∧ dvAt kvs z = some v ∧ RelV (v.v K) e.val) ∨ (es.find? (·.key.isStr z) = none ∧ es.any (·.refKey) = false ∧ dvAt kvs z = none)
  | [], [], _ => .inr ⟨rfl, rfl, rfl⟩
  | [], _ :: _, h => by cases h
  | _ :: _, [], h => by cases h
  | e :: r, q :: s, h => by
    obtain ⟨h1, h2⟩ := He.ba (show (entB K e q && entsB K r s) = true from h)
    unfold entB at h1
    split at h1
    · rename_i x t ek
      obtain ⟨h3, h4⟩ := He.ba h1
      have h3 := of_decide_eq_true h3
      by_cases hz : x = z
      · refine .inl ⟨e, q.2, ?_, ?_, He.relB_ok h4⟩
        · rw [List.find?_cons_of_pos]
          rw [ek]
          exact beq_iff_eq.mpr hz
        · unfold dvAt
          rw [List.find?_cons_of_pos (p := fun q : Str × He.Dv => decide (q.1 = z)) (decide_eq_true (h3 ▸ hz))]
          rfl
      · have n1 : ¬ (e.key.isStr z = true) := by
          rw [ek]
          intro y
          exact hz (beq_iff_eq.mp y)
        have n2 : dvAt (q :: s) z = dvAt s z := by
          unfold dvAt
          rw [List.find?_cons_of_neg (p := fun q : Str × He.Dv => decide (q.1 = z))]
          intro y
          exact hz (h3.trans (of_decide_eq_true y))
        have n3 : e.refKey = false := by
          unfold DictEntry.refKey
          rw [ek]
        rw [List.find?_cons_of_neg (p := fun e : DictEntry => e.key.isStr z) n1, n2]
        rcases ents_find z h2 with h5 | ⟨h5, h6, h7⟩
        · exact .inl h5
        · refine .inr ⟨h5, ?_, h7⟩
          rw [List.any_cons, n3, h6]
          rfl
    · cases h1
theorem kat_of {K : PySem.W.Frag} {a : Addr} {kvs : List (Str × He.Dv)} (h : tabVB K a kvs = true) (z : Str) : KAt K a z ((dvAt kvs z).map (He.Dv.v K)) := by
  unfold tabVB at h
  split at h
  · rename_i e0 d0 es n sl q
    have e1 : PySem.W.nsIn K a z = (match es.toList.find? (·.key.isStr z) with
      | some e => some (some e.val)
      | none => if es.toList.any (·.refKey) then none else some none) := by
      unfold PySem.W.nsIn
      rw [q]
      rfl
    rcases ents_find z h with ⟨e, v, h1, h2, h3⟩ | ⟨h1, h2, h3⟩
    · refine ⟨some e.val, ?_, .inl ⟨e.val, v.v K, rfl, ?_, h3⟩⟩
      · rw [e1, h1]
      · rw [h2]; rfl
    · refine ⟨none, ?_, .inr ⟨rfl, ?_⟩⟩
      · rw [e1, h1, h2]
        rfl
      · rw [h3]; rfl
  · cases h
theorem pi_zipA' {X : Cx} {K : PySem.W.Frag} (hK : X.K = K) {e e2 : Expr} {ta : TA} {p pos tpos : Pos} {elts : List Expr} {kk : Nat} (hg : Gl X "zip") (hm : X.mg "zip" = none) (ha : PA X [e, e2] ta)
    (hs : starEach [e, e2] X.env = (false, eval e X.env) :: starEach [e2] X.env := by rfl) (hpl : (backTo pos (starEach [e2] X.env)).any (·.1) = false := by rfl) :
    PI X (.Tuple elts kk tpos) (.Call (.Name "zip" p) [e, e2] [] pos) (RZ.iZipA K ta) := hK ▸ RZ.pi_zipA hg hm ha hs hpl
/-! ### what raises -/
section
variable {Γ : Ga} {δ : De} {μ μ1 μ2 : Mu} {ta tb te : TE} {tl : TA} {ds es : List PD} {K : PySem.W.Frag} {vs : List Nat} {s : Sv}
theorem ex_cb1 {r : List V → Hp → VK → Prop} (h : EvX Γ te δ μ) : EvX Γ (tCB r (tCons te tl)) δ μ := fun σ W A Q => h σ W A _
theorem ex_op1 {r : R2} (h : EvX Γ ta δ μ) : EvX Γ (tOp r ta tb) δ μ := fun σ W A Q => h σ W A _
theorem ex_op2 {r : R2} (ha : Ev Γ ta δ μ s μ1) (h : EvX Γ tb δ μ1) : EvX Γ (tOp r ta tb) δ μ := fun σ W A Q => ha σ W A _ fun v W1 A1 l1 h1 => h σ W1 A1 _
theorem ex_lc {α : Type} {wi : TI} {g : TG} {tt : TT} {te : TE} (L : List α) (F : α → Sv) (y : α → PD) (n : Nat) (hn : n < L.length) (hw : EvW Γ wi δ μ (L.map F) μ1)
    (hb : ∀ i a, L[i]? = some a → i ≤ n → ∀ gh o, ∃ δ2, GW { Γ with gh := gh } g vs (wipeD δ vs) (o :: μ1) (F a) δ2 ∧ EvT { Γ with gh := gh } tt δ2 (o :: μ1) true (o :: μ1) ∧ (i < n → Ev { Γ with gh := gh } te δ2 (o :: μ1) (.d (y a)) (o :: μ1)) ∧ (i = n → EvX { Γ with gh := gh } te δ2 (o :: μ1)))
    (hlen : L.length ≤ 100000) : EvX Γ (tLc wi g tt te vs) δ μ := fun σ W A Q =>
  hw.o σ W A _ fun J gs W1 A1 l1 hg Y => by
    have A1' := A1.ghosts hg
    intro D hD
    obtain ⟨f1, f2, f3⟩ := A1'.fresh hD
    have A2 := A1'.new (o := .lst []) (u := .lst []) hD ⟨[], upd_same, .nil⟩
    have lenL : (L.map F).length = L.length := List.length_map _
    refine ⟨fun i m H' => m = L.length - i ∧ i ≤ n ∧ ∃ W', Wd.h W' = H' ∧ Same W1.i W'.i ∧ Ast { Γ with gh := gs ++ Γ.gh } σ W' δ ((D, .lst ((L.take i).map y)) :: μ1), ⟨L.length, by simp, Nat.zero_le _, W1.wr D (.lst []) (Wd.none_of hD), rfl, (Same.rfl' : Same W1.i W1.i), A2⟩, ?_⟩
    rintro i m H' ⟨rfl, hi, W2, rfl, l2, A3⟩
    have hg2 : Gh Γ.K gs W2 := fun g hm => A3.gh g (List.mem_append_left _ hm)
    have hw2 : Ow Γ.K [] W2 := fun e he => nomatch he
    have hlt : i < L.length := by omega
    refine .inr ⟨Y.go i W2 (by rw [lenL]; exact hlt) hg2 hw2, fun H4 => i + 1 ≤ n ∧ ∃ W', Wd.h W' = H4 ∧ Same W1.i W'.i ∧ Ast { Γ with gh := gs ++ Γ.gh } σ W' δ ((D, .lst ((L.take (i + 1)).map y)) :: μ1), fun H4 h4 => ⟨L.length - (i + 1), by omega, rfl, h4.1, h4.2⟩, fun x H3 yl => ?_⟩
    obtain ⟨W3, s, rfl, l3, e3, e4⟩ := Y.yld i W2 x H3 (by rw [lenL]; exact hlt) hg2 hw2 yl
    obtain ⟨a, ea, es⟩ : ∃ a, L[i]? = some a ∧ s = F a := by
      rw [List.getElem?_map] at e3
      cases q1 : L[i]? with
      | none => rw [q1] at e3; cases e3
      | some a =>
        rw [q1] at e3
        cases e3
        exact ⟨a, rfl, rfl⟩
    subst es
    obtain ⟨δ2, h5, h6, h7, h8⟩ := hb i a ea hi (gs ++ Γ.gh) (D, .lst ((L.take i).map y))
    have A4 := A3.le l3
    refine h5 x (wipe σ vs) W3 (A4.wipe vs) e4 _ fun σ5 A5 e5 => ⟨?_, ?_⟩
    · rw [e5]
      refine List.ext_getElem? fun j => ?_
      by_cases m : j ∈ vs
      · rw [wipe_in m, wipe_in m, wipe_length]
      · simp only [wipe_get m]
    refine h6 σ5 W3 A5 _ fun W6 A6 l6 => ?_
    have tk := take_succ_get ea
    rw [if_pos rfl]
    rcases Nat.lt_or_ge i n with hin | hin
    · refine h7 hin σ5 W6 A6 _ fun v W7 A7 l7 e7 => ?_
      obtain ⟨ws, k1, k2⟩ := A7.ow.ok _ List.mem_cons_self
      have hsz : ws.length < sizeLine := by
        rw [k2.length]
        refine Nat.lt_of_lt_of_le ?_ (show 100001 ≤ sizeLine by decide)
        rw [List.length_map, List.length_take]
        omega
      refine ⟨ws, k1, hsz, hin, ?_⟩
      have A8 := A4.back A7 (l6.trans l7)
      have hDi : W7.i D = none := (A8.ow.fr _ List.mem_cons_self).1
      have A9 := A8.wr (o' := .lst ((L.take i).map y ++ [y a])) (u := .lst (ws ++ [v])) (.inr f2) hDi ⟨_, upd_same, k2.app (.cons e7 .nil)⟩
      refine ⟨W7.wr D (.lst (ws ++ [v])) hDi, rfl, ((l2.trans l3.i).trans l6).trans l7, ?_⟩
      rw [tk, List.map_append]
      exact A9
    · exact h8 (by omega) σ5 W6 A6 _
/-- tuple(xs) -/
theorem e_tupL (hK : Γ.K = K) (h : Ev Γ te δ μ (dL ds) μ1) : Ev Γ (tCB (fun xs H Q => ∃ p ys, xs = [.ref p] ∧ ((SqL K H p ys ∧ ∀ l, H l = none → Q (.ref l) (upd H l (.tup ys))) ∨ (SqT K H p ys ∧ Q (.ref p) H))) (tCons te tNil)) δ μ (dU ds) μ1 := fun σ W A Q q =>
  a_cons h a_nil σ W A _ fun vs W1 A1 l1 hs => by
    subst hK
    obtain ⟨v, rfl, h1⟩ := sv1 hs
    obtain ⟨p, ws, rfl, h3, h4⟩ := svL h1
    refine ⟨p, ws, rfl, .inl ⟨sf_sqL W1.s h3, fun l hl => ?_⟩⟩
    have l2 := le_put (o := .tup ws) hl
    exact q _ (W1.put l (.tup ws) hl) (A1.le l2) (l1.trans l2.i) (.tup (SqT.of upd_same) (h4.ex l2.i))
end
end Sf
namespace Sf
open PySem PySem.Spec PyProof.Rows L2
/-! ### the nine words -/
def wordL : List Str := ["come", "go", "move", "hold", "let", "take", "shift", "counted", "wish"]
def wd7 (i : Nat) : Str := wordL.getD i ""
def markL : List Str := ["pwm", "pwm", "ppwm", "pwm", "n", "n", "np", "pwc", "wm"]
def mk7 (i : Nat) : Str := markL.getD i ""
def partsKV : List (Str × He.Dv) := [("come", .int 4), ("go", .int 4), ("move", .int 5), ("hold", .int 4), ("let", .int 2), ("take", .int 2), ("shift", .int 3), ("counted", .int 4), ("wish", .int 3)]
def marksKV : List (Str × He.Dv) := [("come", .str "pwm"), ("go", .str "pwm"), ("move", .str "ppwm"), ("hold", .str "pwm"), ("let", .str "n"), ("take", .str "n"), ("shift", .str "np"), ("counted", .str "pwc"), ("wish", .str "wm")]
/-- where a word stands among the nine -/
def wordAt (z : Str) : Option Nat := (List.range 9).find? fun i => decide (wd7 i = z)
theorem parts_at (z : Str) : ∀ {K : PySem.W.Frag}, (dvAt partsKV z).map (He.Dv.v K) = ((wordAt z).map fun i => ((mk7 i).length + 1 : Int)).map V.int := by
  intro K
  unfold dvAt partsKV wordAt
  simp only [show List.range 9 = [0, 1, 2, 3, 4, 5, 6, 7, 8] from rfl, List.find?_cons, List.find?_nil, show wd7 0 = "come" from rfl, show wd7 1 = "go" from rfl, show wd7 2 = "move" from rfl, show wd7 3 = "hold" from rfl, show wd7 4 = "let" from rfl, show wd7 5 = "take" from rfl, show wd7 6 = "shift" from rfl, show wd7 7 = "counted" from rfl, show wd7 8 = "wish" from rfl]
  cases decide (("come" : Str) = z) <;> cases decide (("go" : Str) = z) <;> cases decide (("move" : Str) = z) <;> cases decide (("hold" : Str) = z) <;> cases decide (("let" : Str) = z) <;> cases decide (("take" : Str) = z) <;> cases decide (("shift" : Str) = z) <;> cases decide (("counted" : Str) = z) <;> cases decide (("wish" : Str) = z) <;> rfl
theorem marks_at (z : Str) : ∀ {K : PySem.W.Frag}, (dvAt marksKV z).map (He.Dv.v K) = ((wordAt z).map mk7).map V.str := by
  intro K
  unfold dvAt marksKV wordAt
  simp only [show List.range 9 = [0, 1, 2, 3, 4, 5, 6, 7, 8] from rfl, List.find?_cons, List.find?_nil, show wd7 0 = "come" from rfl, show wd7 1 = "go" from rfl, show wd7 2 = "move" from rfl, show wd7 3 = "hold" from rfl, show wd7 4 = "let" from rfl, show wd7 5 = "take" from rfl, show wd7 6 = "shift" from rfl, show wd7 7 = "counted" from rfl, show wd7 8 = "wish" from rfl]
  cases decide (("come" : Str) = z) <;> cases decide (("go" : Str) = z) <;> cases decide (("move" : Str) = z) <;> cases decide (("hold" : Str) = z) <;> cases decide (("let" : Str) = z) <;> cases decide (("take" : Str) = z) <;> cases decide (("shift" : Str) = z) <;> cases decide (("counted" : Str) = z) <;> cases decide (("wish" : Str) = z) <;> rfl
theorem wordAt_wd : ∀ i, i < 9 → wordAt (wd7 i) = some i := by decide +kernel
theorem wordAt_some {z : Str} {i : Nat} (h : wordAt z = some i) : i < 9 ∧ z = wd7 i := by
  unfold wordAt at h
  exact ⟨List.mem_range.mp (List.mem_of_find?_eq_some h), (of_decide_eq_true (List.find?_some (p := fun i => decide (wd7 i = z)) h)).symm⟩
/-! ### numbers as texts -/
def dig (c : Nat) : Bool := decide (48 ≤ c) && decide (c ≤ 57)
theorem dig_ok {c : Nat} : dig c = true ↔ 48 ≤ c ∧ c ≤ 57 := by unfold dig; simp
def digits10 : Str := "0123456789"
theorem dig_mem {c : Nat} : c ∈ digits10.cps.toList ↔ 48 ≤ c ∧ c ≤ 57 := by
  have e : digits10.cps.toList = [48, 49, 50, 51, 52, 53, 54, 55, 56, 57] := by decide +kernel
  rw [e]
  simp
  omega
theorem dig_at {j : Nat} (h : j < 10) : digits10.cps.toList[j]? = some (48 + j) := by
  have : ∀ j, j < 10 → digits10.cps.toList[j]? = some (48 + j) := by decide +kernel
  exact this j h
/-- the number that a text writes -/
def numOf (x : Str) : Option Int := match x.cps.toList with
  | [] => none
  | k :: r => if 31 < r.length + 1 ∨ (k = 48 ∧ 0 < r.length) then none else if (k :: r).all dig then some ((NumText.digitsVal (k :: r) : Nat) : Int) else none
def numIn (x : Str) (lo hi : Int) : Option Int := (numOf x).bind fun n => if isWh (.int n) lo hi then some n else none
/-- the part that a word writes -/
def partOf (x : Str) (c : Nat) : Option PD :=
  if c = 119 then (if isWareB (.str x) then some (.str x) else none)
  else if c = 112 then (numIn x 0 9999).map .int
  else if c = 99 then (numIn x 0 (10 ^ 30)).map .int
  else (numIn x 1 (10 ^ 30)).map .int
theorem num_tl {n : Int} (h : 0 ≤ n) : (txtD (.int n)).cps.toList = TL.numL n.toNat := by
  obtain ⟨m, rfl⟩ := Int.eq_ofNat_of_zero_le h
  exact TL.tl_num m
theorem numL_head : ∀ {n : Nat}, 0 < n → (TL.numL n).head? ≠ some 48 := by
  intro n
  induction n using Nat.strongRecOn with
  | _ n ih =>
    intro h0
    by_cases h : n < 10
    · rw [TL.numL_lt h]
      simp
      omega
    · rw [TL.numL_step (by omega)]
      have := ih (n / 10) (by omega) (by omega)
      cases q : TL.numL (n / 10) with
      | nil => exact absurd q (TL.numL_ne _)
      | cons a r =>
        rw [q] at this
        exact this
theorem ten30 : (10 : Int) ^ 30 = ((10 ^ 30 : Nat) : Int) := by decide
theorem numL_31 {n : Nat} (h : n ≤ 10 ^ 30) : (TL.numL n).length ≤ 31 := TL.numL_len (by decide) (Nat.lt_of_le_of_lt h (by decide))
theorem numOf_num {n : Int} (h0 : 0 ≤ n) (h1 : n ≤ 10 ^ 30) : numOf (txtD (.int n)) = some n := by
  have hn : n.toNat ≤ 10 ^ 30 := by rw [ten30] at h1; omega
  have hl := numL_31 hn
  have ha := TL.numL_digits n.toNat
  have hv := TL.numL_val n.toNat
  unfold numOf
  rw [num_tl h0]
  cases q : TL.numL n.toNat with
  | nil => exact absurd q (TL.numL_ne _)
  | cons k r =>
    rw [q] at hl ha hv
    have e1 : ¬ (31 < r.length + 1 ∨ (k = 48 ∧ 0 < r.length)) := by
      rintro (y | ⟨y1, y2⟩)
      · rw [List.length_cons] at hl; omega
      · by_cases hz : n.toNat = 0
        · rw [hz, TL.numL_lt (by decide)] at q
          cases q
          exact absurd y2 (by decide)
        · have := numL_head (n := n.toNat) (by omega)
          rw [q, y1] at this
          exact this rfl
    have e2 : (k :: r).all dig = true := List.all_eq_true.mpr fun c hc => dig_ok.mpr (ha c hc)
    show (if 31 < r.length + 1 ∨ (k = 48 ∧ 0 < r.length) then none else if (k :: r).all dig then some ((NumText.digitsVal (k :: r) : Nat) : Int) else none) = _
    rw [if_neg e1, if_pos e2, hv]
    congr 1
    omega
theorem numIn_num {n lo hi : Int} (h0 : 0 ≤ lo) (h1 : lo ≤ n) (h2 : n ≤ hi) (h3 : hi ≤ 10 ^ 30) : numIn (txtD (.int n)) lo hi = some n := by
  unfold numIn
  rw [numOf_num (by omega) (by omega)]
  show (if isWh (.int n) lo hi then some n else none) = _
  rw [if_pos (isWh_ok.mpr ⟨n, rfl, h1, h2⟩)]
/-- the reading of a text of digits -/
theorem numOf_int {x : Str} {n : Int} (h : numOf x = some n) : PySem.intText? x = some n ∧ x.length ≤ 640 := by
  have hl : x.cps.toList.length = x.length := Array.length_toList
  unfold numOf at h
  split at h
  · cases h
  · rename_i k r e
    split at h
    · cases h
    · rename_i h1
      split at h
      · rename_i h2
        cases h
        have hx : x.length = r.length + 1 := by rw [← hl, e]; rfl
        have hz : ¬ 31 < r.length + 1 := fun y => h1 (.inl y)
        refine ⟨?_, by omega⟩
        have := PySem.intText_digits (x := x) (by rw [e]; intro c hc; exact dig_ok.mp (List.all_eq_true.mp h2 c hc)) (by rw [e]; simp) (by omega)
        rw [this, e]
      · cases h
/-! ### entries -/
def fits (c : Nat) : PD → Bool
  | .str w => decide (c = 119) && isWareB (.str w)
  | .int n => (decide (c = 112) && isWh (.int n) 0 9999) || (decide (c = 99) && isWh (.int n) 0 (10 ^ 30)) || ((decide (c = 109) || decide (c = 110)) && isWh (.int n) 1 (10 ^ 30))
  | _ => false
theorem fits_part {c : Nat} {d : PD} (h : fits c d = true) : partOf (txtD d) c = some d := by
  unfold partOf
  cases d with
  | str w =>
    unfold fits at h
    simp at h
    rw [if_pos h.1]
    show (if isWareB (.str w) then some (PyData.str w) else none) = _
    rw [if_pos h.2]
  | int n =>
    unfold fits at h
    simp only [Bool.or_eq_true, Bool.and_eq_true, decide_eq_true_eq] at h
    have a30 : (9999 : Int) ≤ 10 ^ 30 := by decide
    rcases h with (⟨rfl, h⟩ | ⟨rfl, h⟩) | ⟨hc, h⟩
    · obtain ⟨_, e, h1, h2⟩ := isWh_ok.mp h
      cases e
      rw [if_neg (by decide), if_pos rfl, numIn_num (Int.le_refl _) h1 h2 a30]
      rfl
    · obtain ⟨_, e, h1, h2⟩ := isWh_ok.mp h
      cases e
      rw [if_neg (by decide), if_neg (by decide), if_pos rfl, numIn_num (Int.le_refl _) h1 h2 (Int.le_refl _)]
      rfl
    · obtain ⟨_, e, h1, h2⟩ := isWh_ok.mp h
      cases e
      rw [if_neg (by omega), if_neg (by omega), if_neg (by omega), numIn_num (by decide) h1 h2 (Int.le_refl _)]
      rfl
  | _ => cases h
/-- a kind of part is text or a number -/
theorem fits_kind {c : Nat} {d : PD} (h : fits c d = true) : (∃ n, d = .int n ∧ 0 ≤ n ∧ n ≤ 10 ^ 30) ∨ ∃ w, d = .str w ∧ WareOk w := by
  cases d with
  | str w =>
    unfold fits at h
    simp at h
    obtain ⟨w', e, hw⟩ := isWareB_ok.mp h.2
    exact .inr ⟨w, rfl, by cases e; exact hw⟩
  | int n =>
    unfold fits at h
    simp only [Bool.or_eq_true, Bool.and_eq_true, decide_eq_true_eq] at h
    have a30 : (9999 : Int) ≤ 10 ^ 30 := by decide
    rcases h with (⟨rfl, h⟩ | ⟨rfl, h⟩) | ⟨hc, h⟩ <;> (obtain ⟨_, e, h1, h2⟩ := isWh_ok.mp h; cases e; exact .inl ⟨n, rfl, by omega, by omega⟩)
  | _ => cases h
theorem fits_txt {c : Nat} {d : PD} (h : fits c d = true) : (txtD d).length ≤ 31 ∧ 32 ∉ (txtD d).cps.toList := by
  have hl : ∀ x : Str, x.cps.toList.length = x.length := fun x => Array.length_toList
  rcases fits_kind h with ⟨n, rfl, h0, h1⟩ | ⟨w, rfl, hw⟩
  · have hn : n.toNat ≤ 10 ^ 30 := by rw [ten30] at h1; omega
    refine ⟨?_, ?_⟩
    · rw [← hl, num_tl h0]
      exact numL_31 hn
    · rw [num_tl h0]
      exact TL.numL_free (.inl (by decide))
  · refine ⟨?_, fun y => ?_⟩
    · have := hw.2.1
      show w.length ≤ 31
      omega
    · have := hw.2.2 32 y
      exact absurd this.1 (by decide)
def fitsAll : List Nat → List PD → Bool
  | [], [] => true
  | c :: r, d :: s => fits c d && fitsAll r s
  | _, _ => false
theorem fitsAll_len : ∀ {cs : List Nat} {ds : List PD}, fitsAll cs ds = true → cs.length = ds.length
  | [], [], _ => rfl
  | c :: r, d :: s, h => by
    have := fitsAll_len (cs := r) (ds := s) (He.ba (show (fits c d && fitsAll r s) = true from h)).2
    simp [this]
  | [], _ :: _, h => by cases h
  | _ :: _, [], h => by cases h
theorem fitsAll_get : ∀ {cs : List Nat} {ds : List PD}, fitsAll cs ds = true → ∀ d ∈ ds, ∃ c, fits c d = true
  | [], [], _, d, hd => nomatch hd
  | c :: r, e :: s, h, d, hd => by
    obtain ⟨h1, h2⟩ := He.ba (show (fits c e && fitsAll r s) = true from h)
    rcases List.mem_cons.mp hd with rfl | hd
    · exact ⟨c, h1⟩
    · exact fitsAll_get h2 d hd
  | [], _ :: _, h, _, _ => by cases h
  | _ :: _, [], h, _, _ => by cases h
/-- the parts that words write -/
def partsOf : List (Str × Nat) → Option (List PD)
  | [] => some []
  | p :: r => (partOf p.1 p.2).bind fun d => (partsOf r).map fun ds => d :: ds
theorem partsOf_fits : ∀ {cs : List Nat} {ds : List PD}, fitsAll cs ds = true → partsOf ((ds.map txtD).zip cs) = some ds
  | [], [], _ => rfl
  | c :: r, d :: s, h => by
    obtain ⟨h1, h2⟩ := He.ba (show (fits c d && fitsAll r s) = true from h)
    show ((partOf (txtD d) c).bind fun d => (partsOf ((s.map txtD).zip r)).map fun ds => d :: ds) = _
    rw [fits_part h1, partsOf_fits h2]
    rfl
  | [], _ :: _, h => by cases h
  | _ :: _, [], h => by cases h
theorem partsOf_some : ∀ {l : List (Str × Nat)} {ds : List PD}, partsOf l = some ds → ds = l.map (fun p => (partOf p.1 p.2).getD .none) ∧ ∀ p ∈ l, (partOf p.1 p.2).isSome = true
  | [], ds, h => by cases h; exact ⟨rfl, fun _ y => nomatch y⟩
  | p :: r, ds, h => by
    have h : ((partOf p.1 p.2).bind fun d => (partsOf r).map fun ds => d :: ds) = some ds := h
    cases q : partOf p.1 p.2 with
    | none => rw [q] at h; cases h
    | some d =>
      rw [q] at h
      have h : ((partsOf r).map fun ds => d :: ds) = some ds := h
      cases q2 : partsOf r with
      | none => rw [q2] at h; cases h
      | some es =>
        rw [q2] at h
        cases h
        obtain ⟨h1, h2⟩ := partsOf_some q2
        refine ⟨?_, ?_⟩
        · rw [List.map_cons, q, ← h1]
          rfl
        · intro z hz
          rcases List.mem_cons.mp hz with rfl | hz
          · rw [q]; rfl
          · exact h2 z hz
/-- .. and the first that writes none -/
theorem partsOf_none : ∀ {l : List (Str × Nat)}, partsOf l = none → ∃ n, n < l.length ∧ (∀ i p, l[i]? = some p → i < n → (partOf p.1 p.2).isSome = true) ∧ ∀ p, l[n]? = some p → partOf p.1 p.2 = none
  | [], h => by cases h
  | p :: r, h => by
    have h : ((partOf p.1 p.2).bind fun d => (partsOf r).map fun ds => d :: ds) = none := h
    cases q : partOf p.1 p.2 with
    | none => exact ⟨0, by simp, fun i p _ y => absurd y (by omega), fun z hz => by cases hz; exact q⟩
    | some d =>
      rw [q] at h
      have h : ((partsOf r).map fun ds => d :: ds) = none := h
      have h : partsOf r = none := by
        cases q2 : partsOf r with
        | none => rfl
        | some es => rw [q2] at h; cases h
      obtain ⟨n, h1, h2, h3⟩ := partsOf_none h
      refine ⟨n + 1, by simpa using h1, fun i z hz hi => ?_, fun z hz => h3 z (by simpa using hz)⟩
      cases i with
      | zero => cases hz; rw [q]; rfl
      | succ i => exact h2 i z (by simpa using hz) (by omega)
def blank : Str := " "
/-- what a line is read to -/
def readOf (x : Str) : Option (List PD) := match Txt.split x blank with
  | [] => none
  | w :: ws => (wordAt w).bind fun i => if (mk7 i).length = ws.length then (partsOf (ws.zip (mk7 i).cps.toList)).map fun ds => .str w :: ds else none
/-- a line: the parts with blanks between -/
def lineOf (ds : List PD) : Str := Txt.join blank (ds.map txtD)
structure EntOk (i : Nat) (ps : List PD) : Prop where
  hi : i < 9
  fit : fitsAll (mk7 i).cps.toList ps = true
theorem wd7_ok : ∀ i, i < 9 → (wd7 i).length ≤ 7 ∧ 32 ∉ (wd7 i).cps.toList ∧ PyData.strOk (wd7 i) = true := by decide +kernel
theorem mk7_len : ∀ i, i < 9 → (mk7 i).length ≤ 4 ∧ (mk7 i).cps.toList.length = (mk7 i).length := by decide +kernel
theorem EntOk.len {i : Nat} {ps : List PD} (h : EntOk i ps) : ps.length ≤ 4 := by
  have := fitsAll_len h.fit
  have := mk7_len i h.hi
  omega
theorem split_line {i : Nat} {ps : List PD} (h : EntOk i ps) : Txt.split (lineOf (.str (wd7 i) :: ps)) blank = wd7 i :: ps.map txtD := by
  refine (TL.split_join (s := 32) (S := []) (by decide +kernel) (by decide +kernel) (by simp) ?_).trans rfl
  intro p hp
  rcases List.mem_cons.mp hp with rfl | hp
  · exact (wd7_ok i h.hi).2.1
  · obtain ⟨d, hd, rfl⟩ := List.mem_map.mp hp
    obtain ⟨c, hc⟩ := fitsAll_get h.fit d hd
    exact (fits_txt hc).2
theorem read_back {i : Nat} {ps : List PD} (h : EntOk i ps) : readOf (lineOf (.str (wd7 i) :: ps)) = some (.str (wd7 i) :: ps) := by
  unfold readOf
  rw [split_line h]
  have e1 := fitsAll_len h.fit
  have e2 := (mk7_len i h.hi).2
  show ((wordAt (wd7 i)).bind fun j => if (mk7 j).length = (ps.map txtD).length then (partsOf ((ps.map txtD).zip (mk7 j).cps.toList)).map fun ds => PyData.str (wd7 i) :: ds else none) = some (PyData.str (wd7 i) :: ps)
  rw [wordAt_wd i h.hi]
  show (if (mk7 i).length = (ps.map txtD).length then (partsOf ((ps.map txtD).zip (mk7 i).cps.toList)).map fun ds => .str (wd7 i) :: ds else none) = _
  rw [if_pos (by rw [List.length_map]; omega), partsOf_fits h.fit]
  rfl
/-! ### a line part by part -/
theorem join_snoc : ∀ (l : List Str) (a x : Str), Txt.join blank (a :: l ++ [x]) = Txt.join blank (a :: l) ++ blank ++ x := by
  intro l a x
  rw [show Txt.join blank (a :: l ++ [x]) = Str.join blank (a :: l ++ [x]) from PySem.StrLaws.glued_eq_join _ _, show Txt.join blank (a :: l) = Str.join blank (a :: l) from PySem.StrLaws.glued_eq_join _ _]
  induction l generalizing a with
  | nil => rfl
  | cons b r ih =>
    have e1 : Str.join blank (a :: b :: r ++ [x]) = a ++ blank ++ Str.join blank (b :: r ++ [x]) := rfl
    have e2 : Str.join blank (a :: b :: r) = a ++ blank ++ Str.join blank (b :: r) := rfl
    have as : ∀ x y z : Str, x ++ y ++ z = x ++ (y ++ z) := fun x y z => by
      show Str.append (Str.append x y) z = Str.append x (Str.append y z)
      simp [Str.append]
    rw [e1, e2, ih b]
    simp only [as]
theorem lineOf_one (d : PD) : lineOf [d] = txtD d := by
  unfold lineOf
  rw [show Txt.join blank ([d].map txtD) = Str.join blank ([d].map txtD) from PySem.StrLaws.glued_eq_join _ _]
  rfl
theorem lineOf_snoc (l : List PD) (a d : PD) : lineOf (a :: l ++ [d]) = lineOf (a :: l) ++ blank ++ txtD d := by
  unfold lineOf
  rw [List.map_append, List.map_cons, List.map_cons, List.map_nil]
  exact join_snoc (l.map txtD) (txtD a) (txtD d)
theorem slen (a b : Str) : (a ++ b).length = a.length + b.length := by
  show (a.cps ++ b.cps).size = a.cps.size + b.cps.size
  simp
theorem lineOf_len {i : Nat} {ps : List PD} (h : EntOk i ps) : ∀ k, (lineOf (.str (wd7 i) :: ps.take k)).length ≤ 7 + 32 * k := by
  intro k
  induction k with
  | zero =>
    rw [List.take_zero, lineOf_one]
    exact (wd7_ok i h.hi).1
  | succ k ih =>
    cases q : ps[k]? with
    | none =>
      have := List.getElem?_eq_none_iff.mp q
      rw [List.take_of_length_le (by omega)]
      rw [List.take_of_length_le (by omega)] at ih
      omega
    | some d =>
      rw [take_succ_get q]
      show (lineOf (.str (wd7 i) :: ps.take k ++ [d])).length ≤ _
      rw [lineOf_snoc, slen, slen]
      obtain ⟨c, hc⟩ := fitsAll_get h.fit d (List.mem_of_getElem? q)
      have := (fits_txt hc).1
      have : blank.length = 1 := rfl
      omega
/-! ### what the law builds -/
def nb7 (c lo : Int) : Int := if c % 3 = 0 then lo + c / 3 % 20 else if c % 3 = 1 then 10 ^ 30 - c / 3 % 20 else lo + c / 3 % (10 ^ 30 - lo + 1)
theorem nb7_ok {c lo : Int} (h0 : 0 ≤ lo) (h1 : lo ≤ 1) : lo ≤ nb7 c lo ∧ nb7 c lo ≤ 10 ^ 30 := by
  have a : (100 : Int) ≤ 10 ^ 30 := by decide
  generalize hz : (10 : Int) ^ 30 = z at a
  unfold nb7
  rw [hz]
  have h2 : 0 ≤ c / 3 % (z - lo + 1) := Int.emod_nonneg _ (by omega)
  have h3 : c / 3 % (z - lo + 1) < z - lo + 1 := Int.emod_lt_of_pos _ (by omega)
  split
  · omega
  · split
    · omega
    · omega
def ps7 (a b c d : Int) : List PD :=
  let p : PD := .int (b % 10000); let g : PD := .int (a / 9 % 10000); let w : PD := .str (wr c (b / 10000 % 3).toNat); let n : PD := .int (nb7 d 1)
  match (a % 9).toNat with
  | 2 => [p, g, w, n]
  | 4 => [n]
  | 5 => [n]
  | 6 => [n, p]
  | 7 => [p, w, .int (nb7 d 0)]
  | 8 => [w, n]
  | _ => [p, w, n]
theorem ent7_ok (a b c d : Int) : EntOk (a % 9).toNat (ps7 a b c d) := by
  have hn1 : isWh (.int (nb7 d 1)) 1 (10 ^ 30) = true := isWh_ok.mpr ⟨_, rfl, nb7_ok (by decide) (by decide)⟩
  have hn0 : isWh (.int (nb7 d 0)) 0 (10 ^ 30) = true := isWh_ok.mpr ⟨_, rfl, nb7_ok (by decide) (by decide)⟩
  have hp : isWh (.int (b % 10000)) 0 9999 = true := isWh_ok.mpr ⟨_, rfl, by omega, by omega⟩
  have hg : isWh (.int (a / 9 % 10000)) 0 9999 = true := isWh_ok.mpr ⟨_, rfl, by omega, by omega⟩
  have hw : isWareB (.str (wr c (b / 10000 % 3).toNat)) = true := isWareB_ok.mpr ⟨_, rfl, wr_ok _ _⟩
  refine ⟨by omega, ?_⟩
  have hi : (a % 9).toNat < 9 := by omega
  unfold ps7
  generalize (a % 9).toNat = i at hi
  have hh : i = 0 ∨ i = 1 ∨ i = 2 ∨ i = 3 ∨ i = 4 ∨ i = 5 ∨ i = 6 ∨ i = 7 ∨ i = 8 := by omega
  have m1 : ("pwm" : Str).cps.toList = [112, 119, 109] := by decide
  have m2 : ("ppwm" : Str).cps.toList = [112, 112, 119, 109] := by decide
  have m3 : ("n" : Str).cps.toList = [110] := by decide
  have m4 : ("np" : Str).cps.toList = [110, 112] := by decide
  have m5 : ("pwc" : Str).cps.toList = [112, 119, 99] := by decide
  have m6 : ("wm" : Str).cps.toList = [119, 109] := by decide
  rcases hh with rfl | rfl | rfl | rfl | rfl | rfl | rfl | rfl | rfl
  · show fitsAll ("pwm" : Str).cps.toList _ = true
    rw [m1]; simp [fitsAll, fits, hn1, hn0, hp, hg, hw, -Int.reducePow]
  · show fitsAll ("pwm" : Str).cps.toList _ = true
    rw [m1]; simp [fitsAll, fits, hn1, hn0, hp, hg, hw, -Int.reducePow]
  · show fitsAll ("ppwm" : Str).cps.toList _ = true
    rw [m2]; simp [fitsAll, fits, hn1, hn0, hp, hg, hw, -Int.reducePow]
  · show fitsAll ("pwm" : Str).cps.toList _ = true
    rw [m1]; simp [fitsAll, fits, hn1, hn0, hp, hg, hw, -Int.reducePow]
  · show fitsAll ("n" : Str).cps.toList _ = true
    rw [m3]; simp [fitsAll, fits, hn1, hn0, hp, hg, hw, -Int.reducePow]
  · show fitsAll ("n" : Str).cps.toList _ = true
    rw [m3]; simp [fitsAll, fits, hn1, hn0, hp, hg, hw, -Int.reducePow]
  · show fitsAll ("np" : Str).cps.toList _ = true
    rw [m4]; simp [fitsAll, fits, hn1, hn0, hp, hg, hw, -Int.reducePow]
  · show fitsAll ("pwc" : Str).cps.toList _ = true
    rw [m5]; simp [fitsAll, fits, hn1, hn0, hp, hg, hw, -Int.reducePow]
  · show fitsAll ("wm" : Str).cps.toList _ = true
    rw [m6]; simp [fitsAll, fits, hn1, hn0, hp, hg, hw, -Int.reducePow]
/-! ### small things of the walk -/
theorem sg_eq {c k : Nat} : (⟨#[c]⟩ : Str) = ⟨#[k]⟩ ↔ c = k := by
  have := tx_inj (a := [c]) (b := [k])
  rw [show (tx [c] : Str) = ⟨#[c]⟩ from rfl, show (tx [k] : Str) = ⟨#[k]⟩ from rfl] at this
  rw [this]
  simp
theorem str_nil : ("" : Str) = tx [] := by decide
theorem str_0 : ("0" : Str) = ⟨#[48]⟩ := by decide
theorem str_w : ("w" : Str) = ⟨#[119]⟩ := by decide
theorem str_p : ("p" : Str) = ⟨#[112]⟩ := by decide
theorem str_c : ("c" : Str) = ⟨#[99]⟩ := by decide
theorem numOf_bad {x : Str} {k : Nat} {r : List Nat} (hc : x.cps.toList = k :: r) (hb : (decide (x = "") || (decide ((x.length : Int) > 31) || (decide ((⟨#[k]⟩ : Str) = "0") && decide ((x.length : Int) > 1)))) = true) : numOf x = none := by
  have hl : x.cps.toList.length = x.length := Array.length_toList
  rw [hc, List.length_cons] at hl
  unfold numOf
  rw [hc]
  refine if_pos ?_
  rw [str_nil, str_0] at hb
  simp only [Bool.or_eq_true, Bool.and_eq_true, decide_eq_true_eq, sg_eq] at hb
  rcases hb with h | h | ⟨h1, h2⟩
  · rw [h] at hc
    cases hc
  · exact .inl (by omega)
  · exact .inr ⟨h1, by omega⟩
theorem numOf_good {x : Str} {k : Nat} {r : List Nat} (hc : x.cps.toList = k :: r) (hb : (decide (x = "") || (decide ((x.length : Int) > 31) || (decide ((⟨#[k]⟩ : Str) = "0") && decide ((x.length : Int) > 1)))) = false) : numOf x = if x.cps.toList.all dig then some ((NumText.digitsVal x.cps.toList : Nat) : Int) else none := by
  have hl : x.cps.toList.length = x.length := Array.length_toList
  rw [hc, List.length_cons] at hl
  unfold numOf
  rw [hc]
  refine if_neg ?_
  rw [str_nil, str_0] at hb
  simp only [Bool.or_eq_false_iff, Bool.and_eq_false_iff, decide_eq_false_iff_not, sg_eq] at hb
  rintro (h | ⟨h1, h2⟩)
  · exact hb.2.1 (by omega)
  · rcases hb.2.2 with h3 | h3
    · exact h3 h1
    · exact h3 (by omega)
theorem log2_30 {n : Int} (h0 : 0 ≤ n) (h : n ≤ 10 ^ 30) : n.natAbs.log2 < 1920 := by
  by_cases hz : n.natAbs = 0
  · rw [hz]; decide
  · refine (Nat.log2_lt hz).mpr ?_
    have h2 : n.natAbs ≤ 10 ^ 30 := by rw [ten30] at h; omega
    have h3 : (10 : Nat) ^ 30 < 2 ^ 100 := by decide
    have h4 : (2 : Nat) ^ 100 ≤ 2 ^ 1920 := Nat.pow_le_pow_right (by decide) (by decide)
    omega
theorem eqv_refl_part {d : PD} (h : (∃ n, d = .int n) ∨ ∃ w, d = .str w) : PyData.eqv d d = true := by
  rcases h with ⟨n, rfl⟩ | ⟨w, rfl⟩ <;> simp [PyData.eqv]
theorem eqvAll_refl_parts : ∀ {ds : List PD}, (∀ d ∈ ds, (∃ n, d = .int n) ∨ ∃ w, d = .str w) → PyData.eqvAll ds ds = true
  | [], _ => by simp [PyData.eqvAll]
  | d :: r, h => by
    rw [PyData.eqvAll, eqv_refl_part (h d List.mem_cons_self), eqvAll_refl_parts fun z hz => h z (List.mem_cons_of_mem _ hz)]
    rfl
def EntPart (d : PD) : Prop := ((∃ n, d = .int n ∧ 0 ≤ n ∧ n ≤ 10 ^ 30) ∨ ∃ w, d = .str w ∧ w.length ≤ 31 ∧ PyData.strOk w = true) ∧ (txtD d).length ≤ 31
theorem EntOk.parts {i : Nat} {ps : List PD} (h : EntOk i ps) : ∀ d ∈ (PyData.str (wd7 i) :: ps), EntPart d := by
  intro d hd
  rcases List.mem_cons.mp hd with rfl | hd
  · have := wd7_ok i h.hi
    exact ⟨.inr ⟨_, rfl, by omega, this.2.2⟩, by show (wd7 i).length ≤ 31; omega⟩
  · obtain ⟨c, hc⟩ := fitsAll_get h.fit d hd
    refine ⟨?_, (fits_txt hc).1⟩
    rcases fits_kind hc with h | ⟨w, rfl, hw⟩
    · exact .inl h
    · exact .inr ⟨w, rfl, by have := hw.2.1; omega, strOk_let hw.2.2⟩
theorem EntPart.shp {d : PD} (h : EntPart d) : Shp 0 d := by
  rcases h.1 with ⟨n, rfl, _⟩ | ⟨w, rfl, _, hw⟩
  · exact shp_int
  · exact shp_str hw
theorem EntPart.kind {d : PD} (h : EntPart d) : (∃ n, d = .int n) ∨ ∃ w, d = .str w := by
  rcases h.1 with ⟨n, rfl, _⟩ | ⟨w, rfl, _, _⟩
  · exact .inl ⟨n, rfl⟩
  · exact .inr ⟨w, rfl⟩
theorem sum_le {l : List Nat} {b : Nat} (h : ∀ x ∈ l, x ≤ b) : l.sum ≤ l.length * b := by
  induction l with
  | nil => simp
  | cons a r ih =>
    have h1 := h a List.mem_cons_self
    have h2 := ih fun x hx => h x (List.mem_cons_of_mem _ hx)
    rw [List.sum_cons, List.length_cons, Nat.add_mul, Nat.one_mul]
    omega
theorem cut1 {d : PD} {ds : List PD} : cutD (d :: ds) (some 1) none = ds := by
  have := cutD_fr (ds := d :: ds) (n := 1) (by simp)
  exact this
end Sf
namespace Sf
open PySem PySem.Spec PyProof.Rows L2
/-! ### a list comprehension whose element may raise -/
/-- the context of a block that lets errors out -/
abbrev bx (X : Cx) (s : Shared) (H : Hp) (scope : Scope) (ce : Env) (fp : List Addr) (xe : Value → Shared → Prop) : Cx := { X.blk s H scope ce fp with xe := xe }
theorem toBx {X : Cx} {s0 : Shared} {H0 : Hp} {scope : Scope} {ce : Env} {fp : List Addr} {pins : List (Addr × Obj)} {σ : L2.St} {H : Hp} {s : Shared} (I : L2.Inv (X.blk s0 H0 scope ce fp) pins σ H s) (xe : Value → Shared → Prop) : L2.Inv (bx X s0 H0 scope ce fp xe) pins σ H s :=
  ⟨⟨I.ok.mod, I.ok.kind, I.ok.glob, I.ok.blt, I.ok.above, I.ok.inj, I.ok.has, I.ok.cab, I.ok.hd, I.ok.frames, I.ok.stk, I.ok.exf, I.ok.bs, I.ok.bsz, I.ok.noex, I.ok.exfs, I.ok.funs, I.ok.frf⟩, I.os, I.bare, I.base, I.loc, I.cell, I.free, I.freeC, I.pin, I.hok, I.len⟩
/-- an error flies out of a call, the block's own object C left on the ground -/
theorem fly_out {X : Cx} {pins : List (Addr × Obj)} {σ : L2.St} {H : Hp} {s s' : Shared} {E : XK} {u : Value} {C : Addr} (I : L2.Inv X pins σ H s) (fc : FpOk X pins H C) (hCf : C ∉ frs X.stack) {oC : Obj} (hC : s.heap.get? C = some oC) (c : L2.CX X.prog X.w X.stack H s E u s') :
    ∃ (a : Addr) (B : Heap) (sI : Shared) (H' : Hp) (cls : Value) (d : Option Addr), u = .ref a ∧ L2.Inv X pins σ H' sI ∧ (∀ b o, sI.heap.get? b = some o → b ∉ frs X.stack → B.get? b = some o) ∧ sI.heap.UpToSlots s'.heap ∧ sI.heap.get? C = none ∧
      HandSPX.FlyingZ B X.stack a (Zc cls d) s'.heap ∧ B.get? C = none ∧ H' a = none ∧ s'.os = sI.os ∧ AllBare s'.gens ∧ E cls d H' ∧ s'.heap.get? C = some oC := by
  obtain ⟨a, B, H', cls, d, rfl, ⟨f1, f2, f3, f4⟩, hok, ub, na, os, ag, hE⟩ := c
  have hCB : B.get? C = some oC := ub.keep C oC hC fc.1 hCf
  have hC' : H' C = none := ub.free C oC hC fc.1
  obtain ⟨B2, p1, p2⟩ := restrict B fun b => !decide (b = C)
  obtain ⟨G, q1, q2⟩ := restrict s'.heap fun b => ((B.get? b).isSome || decide (b ∈ frs X.stack)) && !decide (b = C)
  have b2 : ∀ b o, B2.get? b = some o → B.get? b = some o ∧ b ≠ C := fun b o e => by
    by_cases z : b = C
    · rw [p2 b (by simp [z])] at e
      cases e
    · rw [p1 b (by simp [z])] at e
      exact ⟨e, z⟩
  have b2n : ∀ b, B.get? b = none → B2.get? b = none := fun b n => by
    cases q : B2.get? b with
    | none => rfl
    | some o =>
      rw [(b2 b o q).1] at n
      cases n
  have gB : ∀ b o, B.get? b = some o → b ≠ C → G.get? b = some o := fun b o e z => by
    rw [q1 b (by simp [e, z])]
    exact f1 b o e
  have gF : ∀ b, b ∈ frs X.stack → G.get? b = s'.heap.get? b := fun b hb => q1 b (by
    have z : b ≠ C := fun y => hCf (y ▸ hb)
    simp [hb, z])
  have og : ∀ b o, G.get? b = some o → s'.heap.get? b = some o ∧ b ≠ C ∧ ((B.get? b).isSome = true ∨ b ∈ frs X.stack) := fun b o e => by
    cases q : (((B.get? b).isSome || decide (b ∈ frs X.stack)) && !decide (b = C)) with
    | false =>
      rw [q2 b q] at e
      cases e
    | true =>
      rw [q1 b q] at e
      simp only [Bool.and_eq_true, Bool.or_eq_true, Bool.not_eq_true', decide_eq_true_eq, decide_eq_false_iff_not] at q
      exact ⟨e, q.2, q.1⟩
  have nC : ∀ b u, H' b = some u → b ≠ C := fun b u e z => by
    rw [z, hC'] at e
    cases e
  refine ⟨a, B2, { s with heap := G, gens := s'.gens, drawn := s'.drawn, toks := s'.toks }, H', cls, d, rfl, ?_, fun b o e hb => ?_, Heap.UpToSlots.of_keeps fun b o e => (og b o e).1, q2 C (by simp), ⟨fun b o e => f1 b o (b2 b o e).1, b2n a f2, funFrames_none f3 fun L hL => b2n L (f3.mem hL).1, ?_⟩, p2 C (by simp), na, os, ag, hE, f1 C oC hCB⟩
  · have kp : ∀ b, b ∉ [C] → b ≠ C := fun b h z => h (by rw [z]; exact List.mem_cons_self)
    refine I.call (ch := [C]) (H' := H') ⟨fun b o e n hb hc => gB b o (ub.keep b o e n hb) (kp b hc), fun b o e n hb hc => ?_, fun b o e n hc => ub.free b o e n, fun b o e hc => ?_, ub.tups, ub.frzs, ub.tbls⟩ (fun b v e => (hok b v e).stay (fun x y hx q => gB x y q ?_) (fun _ q => q) fun _ _ q => q) ag fun b hb => ?_
    · obtain ⟨sl, q⟩ := ub.slot b o e hb
      exact ⟨sl, (gF b hb).trans q⟩
    · by_cases hb : b ∈ frs X.stack
      · obtain ⟨sl, q⟩ := ub.slot b o e hb
        exact ⟨_, (gF b hb).trans q⟩
      · obtain ⟨o', q⟩ := ub.there b o e hb
        exact ⟨o', gB b o' q (kp b hc)⟩
    · rcases hx with z | z
      · rw [z]
        exact nC b v e
      · exact nC x _ z
    · rw [List.mem_singleton.mp hb]
      exact ⟨fc.2.2.2.1, fc.2.1, fc.2.2.2.2.1, fc.2.2.2.2.2⟩
  · obtain ⟨e', hne, h⟩ := og b o e
    rcases h with h | h
    · obtain ⟨o', q⟩ := Option.isSome_iff_exists.mp h
      have z := f1 b o' q
      rw [e'] at z
      cases z
      rw [p1 b (by simp [hne])]
      exact q
    · exact absurd h hb
  · obtain ⟨oe, vs, T, oT, ts, he, hz, hd, h1, hnT, r⟩ := f4
    exact ⟨oe, vs, T, oT, ts, he, hz, hd, h1, b2n T hnT, r⟩
theorem out_fails {X : Cx} {W : WX} {pins : List (Addr × Obj)} {σ : L2.St} {H : Hp} {s s' : Shared} {E : XK} {u : Value} {ce : Env} (tk : Takes X W) (hE : ∀ cls d σ H, E cls d H → W cls d σ H) (hst : X.stack = X.env :: X.outer) (hfr : X.env.frame = some X.env.locals) (hcf : ce.frame = X.env.frame)
    (I : L2.Inv X pins σ H s) (fc : FpOk X pins H ce.locals) (hCf : ce.locals ∉ frs X.stack) {m : Str → Option Value} (hn : s.heap.Ns ce.locals m) (c : L2.CX X.prog X.w X.stack H s E u s') : notedBy (model X.prog X.w) X.A ce (CompFails (model X.prog X.w) X.A X.xe ce) u s' := by
  obtain ⟨oC, es, ep, hC, hdC, hns⟩ := hn
  obtain ⟨a, B, sI, H', cls, d, rfl, J, nb, up, nC, fl, bC, na, os, ag, w, hC'⟩ := fly_out I fc hCf hC c
  have hA : X.A.frames = some (X.env :: X.outer) := by rw [J.ok.frames, hst]
  rw [hst] at fl
  show wpAny (model X.prog X.w) X.A (noteFrame (.ref a) ce) _ _ s'
  rw [noteFrame_env _ hcf]
  refine HandSPX.looks_onZ Zc.steady hA hfr fl fun h1 hh up1 => ?_
  have nf : ∀ vs, oC.data ≠ .fields vs := fun vs z => by
    rw [hdC] at z
    cases z
  obtain ⟨sl1, hC1⟩ := up1 _ _ hC' nf
  refine ⟨m, ⟨_, es, ep, hC1, hdC, hns⟩, fun h2 m2 hn2 hs2 => ?_⟩
  obtain ⟨k1, k2, k3, oe, vs, T, oT, ts, he, hz, hd, h1', hnT, hTe, hT, hdT, h3⟩ := hh
  have other : ∀ b o, h1.get? b = some o → (∃ vs, o.data = .fields vs) → b ≠ ce.locals := fun b o e ⟨vs, q⟩ z => by
    rw [z, hC1] at e
    cases e
    exact nf vs q
  have hac := other a oe he ⟨_, hd⟩
  have hTc := other T oT hT ⟨_, hdT⟩
  have held : HandSPX.HeldZ B (X.env :: X.outer) a (Zc cls d) X.env.locals h2 := by
    refine ⟨fun b o e => (hs2.2 b fun z => ?_).trans (k1 b o e), k2, Heap.FunFrames.sameBut hs2 hn2 k3, oe, vs, T, oT, ts, (hs2.2 a hac).trans he, hz, hd, h1', hnT, hTe, (hs2.2 T hTc).trans hT, hdT, h3⟩
    rw [z, bC] at e
    cases e
  unfold PySem.passOn
  refine wpAny_bind (wpAny_field ((hs2.2 a hac).trans he) hd h1' ?_)
  rw [if_neg (show ¬ ((Value.ref T == Value.none) = true) from by simp), hcf, hfr]
  refine wpAny_bind (HandSPX.setFlight_onZ (s := { s' with heap := h2 }) held fun h4 hh4 up4 => wpAny_throw (tk _ _ ⟨a, B, sI, pins, σ, H', cls, d, rfl, J, nb, fun b o e n => ?_, .inr (.inr (by rw [hst]; exact hh4)), na, os, ag, hE _ _ _ _ w⟩))
  have hbC : b ≠ ce.locals := fun z => by
    rw [z, nC] at e
    cases e
  obtain ⟨s1, e1⟩ := up b o e n
  obtain ⟨s2, e2⟩ := up1 b _ e1 n
  obtain ⟨s3, e3⟩ := up4 b _ ((hs2.2 b hbC).trans e2) n
  exact ⟨s3, e3⟩
section
variable {X : Cx}
/-- [elt for target in iter if ..], calls in the element may raise what the def takes -/
theorem pe_lcX {W : WX} {E : XK} {elt tg iter : Expr} {ifs : List Expr} {scope : Scope} {own : List (Str × Nat)} {pos : Pos} {wi : TI} {g : TG} {tt : TT} {te : TE} (hst : X.stack = X.env :: X.outer) (hfr : X.env.frame = some X.env.locals) (tk : Takes X W) (hE : ∀ cls d σ H, E cls d H → W cls d σ H)
    (hc : X.calm = true) (hN : X.N.Nodup) (hi : PI X tg iter wi) (ok : BlkOk X.N X.env.scope scope own)
    (hg : ∀ (s : Shared) (H : Hp) (C : Addr) (cl : List (Str × Addr)) (fp : List Addr) (xe : Value → Shared → Prop), PG (bx X s H scope (compEnvC scope cl C X.env) fp xe) tg g)
    (ht : ∀ (s : Shared) (H : Hp) (C : Addr) (cl : List (Str × Addr)) (fp : List Addr) (xe : Value → Shared → Prop), PTs (bx X s H scope (compEnvC scope cl C X.env) fp xe) ifs tt)
    (he : ∀ (s : Shared) (H : Hp) (C : Addr) (cl : List (Str × Addr)) (fp : List Addr) (xe : Value → Shared → Prop), Passes (L2.CX X.prog X.w) (bx X s H scope (compEnvC scope cl C X.env) fp xe) E → PE (bx X s H scope (compEnvC scope cl C X.env) fp xe) elt te)
    (hs : ∀ x, foldedSetIterable iter X.env x = pure x := by intro _; rfl) : PE X (.ListComp elt [⟨tg, iter, ifs, 0⟩] scope pos) (tLc wi g tt te (own.map (·.2))) := by
  refine ⟨fun pins s σ H Q I h => ?_⟩
  rw [eval_ListComp]
  have frees : ∀ y ∈ scope.names, y.2 = .free → ∃ c, X.env.cells.lookup y.1 = some c := fun y hy e => (ok.free y hy e).elim (fun k => I.ok.has _ (.inl k)) fun k => I.ok.has _ (.inr k)
  refine comprehension_at (use := none) rfl hs (closure_ok frees) ok.kind (fun y hy z => by rw [ok.uniq y hy, z]) (thn (hi.run pins s σ H _ I h) fun v1 t1 k1 => thn k1 fun v2 t2 k2 => ?_)
  obtain ⟨it, fp, tn, J, H2, rfl, I2, T, st2, f2, q⟩ := k2
  refine wpAny_newObj_type (newEnv_comp ?_) (by show 0 ≤ sizeLine; decide)
  obtain ⟨D, hD⟩ : ∃ D, t2.heap.objs.size = D := ⟨_, rfl⟩
  rw [hD]
  have hDn : H2 D = none := I2.hok.fresh (Nat.le_of_eq hD)
  obtain ⟨Wd, ⟨m0, w0⟩, turn⟩ := q D hDn
  generalize hs3 : ({ t2 with heap := t2.heap.push { cls := .type "list", data := .seq ([] : List Value).toArray } } : Shared) = s3
  have I3 : L2.Inv X pins σ (upd H2 D (.lst [])) s3 := by
    rw [← hs3]
    refine I2.laid (t' := t2.toks) (fun b o e => Heap.get?_push_of_some _ e) (Nat.le_of_eq hD) ⟨Nat.zero_le _, [], 0, .nil, ?_⟩
    rw [← hD]
    exact Heap.get?_push_size _ rfl
  have h3 : s3.heap = t2.heap.push { cls := .type "list", data := .seq ([] : List Value).toArray } := by rw [← hs3]
  have f3 : ∀ b ∈ fp, FpOk X pins (upd H2 D (.lst [])) b ∧ b < s3.heap.objs.size := fun b hb => by
    obtain ⟨o, e, _⟩ := T.obj _ _ st2 b hb
    have lt := Heap.lt_size e
    refine ⟨⟨?_, (f2 b hb).2⟩, by rw [h3, Heap.size_push]; exact Nat.lt_succ_of_lt lt⟩
    rw [upd_ne (by rw [← hD]; exact Nat.ne_of_lt lt)]
    exact (f2 b hb).1
  have st3 : tn 0 s3.heap := T.keep _ _ _ st2 fun b _ o e => by
    rw [h3]
    exact Heap.get?_push_of_some _ e
  have I4 := block_start I3 ok hN f3
  have pg := hg s3 (upd H2 D (.lst [])) s3.heap.objs.size (cellsFrom (s3.heap.objs.size + 1) scope.names (cloFrom X.env.cells scope.names [])) fp
  have pt := ht s3 (upd H2 D (.lst [])) s3.heap.objs.size (cellsFrom (s3.heap.objs.size + 1) scope.names (cloFrom X.env.cells scope.names [])) fp
  have pe := he s3 (upd H2 D (.lst [])) s3.heap.objs.size (cellsFrom (s3.heap.objs.size + 1) scope.names (cloFrom X.env.cells scope.names [])) fp
  show codeAny _ _ (.compStart (.ListComp elt [⟨tg, iter, ifs, 0⟩] scope pos) 0 (.ref it) (.ref D) (compEnvC scope (cellsFrom (s3.heap.objs.size + 1) scope.names (cloFrom X.env.cells scope.names [])) s3.heap.objs.size X.env)) (compEnds (model X.prog X.w) X.A X.xe none _ (.ref D) (compEnvC scope (cellsFrom (s3.heap.objs.size + 1) scope.names (cloFrom X.env.cells scope.names [])) s3.heap.objs.size X.env)) { s3 with heap := pushCells (s3.heap.push { cls := .type "dict", data := .dict #[] }) scope.names }
  have hce : ∃ ce, compEnvC scope (cellsFrom (s3.heap.objs.size + 1) scope.names (cloFrom X.env.cells scope.names [])) s3.heap.objs.size X.env = ce := ⟨_, rfl⟩
  obtain ⟨ce, hce⟩ := hce
  have cL : ce.locals = s3.heap.objs.size := by rw [← hce]; rfl
  have cF : ce.frame = X.env.frame := by rw [← hce]; rfl
  rw [hce] at I4 pg pt pe ⊢
  generalize upd H2 D (.lst []) = H3 at I3 I4 pg pt pe w0 f3
  generalize hs4 : ({ s3 with heap := pushCells (s3.heap.push { cls := .type "dict", data := .dict #[] }) scope.names } : Shared) = s4 at I4 ⊢
  have st4 : tn 0 s4.heap := T.keep _ _ _ st3 fun b _ o e => by
    rw [← hs4]
    exact pushCells_keeps _ _ _ _ (Heap.get?_push_of_some _ e)
  -- the errors' end
  generalize hXB : (notedBy (model X.prog X.w) X.A ce fun e s' => compEnds (model X.prog X.w) X.A X.xe none (EP X pins σ Q) (.ref D) ce (.error e) s') = XB
  have I5 := toBx I4 XB
  have back : ∀ {p' : List (Addr × Obj)} {σ' : L2.St} {H' : Hp} {s' : Shared}, L2.Inv (bx X s3 H3 scope ce fp XB) p' σ' H' s' → L2.Inv X pins σ H' s' := fun {p' σ' H' s'} I' => I3.call' (ch := fp) I'.os I'.base I'.hok I'.bare fun b hb => ⟨(f3 b hb).1.2.2.2.1, (f3 b hb).1.2.1, (f3 b hb).1.2.2.2.2.1, (f3 b hb).1.2.2.2.2.2⟩
  have fC : ∀ {p' : List (Addr × Obj)} {σ' : L2.St} {H' : Hp} {s' : Shared}, L2.Inv (bx X s3 H3 scope ce fp XB) p' σ' H' s' → FpOk X pins H' ce.locals := fun {p' σ' H' s'} I' => by
    have z : H' ce.locals = none := I'.free
    rw [cL] at z ⊢
    exact I3.fpOk (Nat.le_refl _) z
  have pass : Passes (L2.CX X.prog X.w) (bx X s3 H3 scope ce fp XB) E := fun p' σ' H' s' e s'' I' c => by
    obtain ⟨m, hn, _⟩ := I'.loc
    have r := out_fails tk hE hst hfr cF (back I') (fC I') (fun z => by
      have a1 := I3.stkSub ce.locals z
      rw [cL] at a1
      have a3 : X.env.locals < s3.heap.objs.size := I3.lt
      rcases List.mem_cons.mp a1 with y | y
      · exact absurd a3 (by rw [y]; exact Nat.lt_irrefl _)
      · exact (fC I').2.2.1 (cL ▸ y)) hn c
    show XB e s''
    rw [← hXB]
    exact r
  have stat : ∀ {σ' : L2.St} {H' : Hp} {s' : Shared}, L2.Inv (bx X s3 H3 scope ce fp XB) [] σ' H' s' → (∀ b ∈ fp, H' b = none) → ∀ b ∈ fp, FpOk (bx X s3 H3 scope ce fp XB) [] H' b := fun {σ' H' s'} I' hn b hb => ⟨hn b hb, (I'.ok.exf b hb).1, I'.ok.exfs b hb, .inl hb, fun x c e => (I'.ok.exf b hb).2 x c e, fun p hp => by cases hp⟩
  have loop : codeAny (model X.prog X.w) X.A (.compLoop (.ListComp elt [⟨tg, iter, ifs, 0⟩] scope pos) 0 (.ref it) (.ref D) ce) (compEnds (model X.prog X.w) X.A X.xe none (EP X pins σ Q) (.ref D) ce) s4 := by
    refine compLoop_any (fun n s' => ∃ i H', L2.Inv (bx X s3 H3 scope ce fp XB) [] (wipe σ (own.map (·.2))) H' s' ∧ tn i s'.heap ∧ (∀ b ∈ fp, H' b = none) ∧ Wd i n H') ?_ m0 ⟨0, H3, I5, st4, fun b hb => (f3 b hb).1.1, w0⟩
    rw [hXB]
    rintro n s5 ⟨i, H5, I5, st5, n5, w5⟩
    rcases turn i n H5 w5 with ⟨stop, qq⟩ | ⟨go, Nx, hNx, step⟩
    · refine thnF (T.done (bx X s3 H3 scope ce fp XB) rfl rfl rfl hc i [] s5 _ H5 (fun _ _ => False) I5 (stat I5 n5) st5 stop) fun r s6 ⟨hr, I6⟩ => ?_
      subst hr
      obtain ⟨m, hn, _⟩ := I6.loc
      obtain ⟨z0, z1, z2, z3, z4, z5⟩ := fC I6
      exact ⟨m, hn, fun h'' sb => ⟨.ref D, H5, (back I6).turned (t' := s6.toks) (fun b o hb e => (sb.2 b hb).trans e) z0 z1 z3 z4 z5, rfl, qq⟩⟩
    · refine thnF (T.item (bx X s3 H3 scope ce fp XB) rfl rfl rfl hc i [] s5 _ H5 (fun _ _ => False) I5 (stat I5 n5) st5 go) fun r s6 ⟨u, hr, h6⟩ => ?_
      subst hr
      refine thnF h6 fun _ s7 ⟨x, H7, I7, r7, y7, st7, n7⟩ => ?_
      have J7 := I7.pinned (stat I7 n7) (T.obj _ _ st7)
      refine thn ((pg XB).run _ s7 _ H7 x u _ J7 r7 (step x H7 y7)) fun _ s8 ⟨σ8, H8, I8, hw8, q8⟩ => ?_
      refine thn ((pt XB).run _ s8 σ8 H8 _ I8 q8) fun b s9 ⟨H9, I9, q9⟩ => ?_
      have fin : ∀ {s' : Shared} {H' : Hp}, L2.Inv (bx X s3 H3 scope ce fp XB) ([] ++ pinsAt fp s7.heap) σ8 H' s' → Nx H' → ∃ m, m < n ∧ ∃ i H', L2.Inv (bx X s3 H3 scope ce fp XB) [] (wipe σ (own.map (·.2))) H' s' ∧ tn i s'.heap ∧ (∀ b ∈ fp, H' b = none) ∧ Wd i m H' := fun {s' H'} I' nx => by
        obtain ⟨m', hm, w'⟩ := hNx H' nx
        have kept : ∀ b ∈ fp, ∀ o, s7.heap.get? b = some o → s'.heap.get? b = some o ∧ H' b = none := fun b hb o e => ⟨(I'.pin (b, o) (List.mem_append_right _ (List.mem_append_right _ (mem_pinsAt hb e)))).1, (I'.pin (b, o) (List.mem_append_right _ (List.mem_append_right _ (mem_pinsAt hb e)))).2.1⟩
        refine ⟨m', hm, i + 1, H', (I'.unpinned (pins := [])).weak (by rw [← hw8, wipe_length]) (fun j v e => ?_), T.keep _ _ _ st7 fun b hb o e => (kept b hb o e).1, fun b hb => ?_, w'⟩
        · rw [← hw8] at e
          exact (wipe_some e).1
        · obtain ⟨o, e, _⟩ := T.obj _ _ st7 b hb
          exact (kept b hb o e).2
      cases b with
      | false =>
        rw [if_neg Bool.false_ne_true] at q9 ⊢
        exact fin I9 q9
      | true =>
        rw [if_pos rfl] at q9 ⊢
        refine thn ((pe XB pass).run _ s9 σ8 H9 _ I9 q9) fun z s10 ⟨yv, H10, I10, r10, acc, hD10, hz10, nx⟩ => ?_
        exact app_ok (X := bx X s3 H3 scope ce fp XB) I10 hD10 hz10 r10 fun s11 I11 => fin I11 nx
  exact codeAny_compStart_list loop (T.self X.A 0 _ _ _ st4 loop)
end
end Sf
namespace Sf
open PySem PySem.Spec PyProof.Rows L2
/-! ### zip(text, list) -/
def ItzT (K : PySem.W.Frag) (y : Str) (a : Addr) : It :=
  ⟨fun i H => ∃ (xs : List V) (x : V) (c : Nat), SqL K H a xs ∧ xs[i]? = some x ∧ y.cps[i]? = some c,
    fun i H v H' => ∃ T x c, v = .ref T ∧ H T = none ∧ H' = upd H T (.tup [.str ⟨#[c]⟩, x]) ∧ (∀ xs, SqL K H a xs → xs[i]? = some x) ∧ y.cps[i]? = some c,
    fun i H => ∃ xs : List V, SqL K H a xs ∧ i ≤ xs.length ∧ i ≤ y.cps.size ∧ (xs.length = i ∨ y.cps.size = i)⟩
structure ZApartT (z TI TO i1 i2 a : Addr) : Prop where
  TIz : TI ≠ z
  TOz : TO ≠ z
  TITO : TI ≠ TO
  TIi1 : TI ≠ i1
  TIi2 : TI ≠ i2
  zi1 : z ≠ i1
  zi2 : z ≠ i2
  za : z ≠ a
  Ti1 : TO ≠ i1
  Ti2 : TO ≠ i2
  Ta : TO ≠ a
  i12 : i1 ≠ i2
  ai1 : a ≠ i1
  ai2 : a ≠ i2
theorem ZApartT.sep {z TI TO i1 i2 a : Addr} (D : ZApartT z TI TO i1 i2 a) : ZipSep2 z TI TO i1 i2 [i1] [i2, a] :=
  ⟨D.TIz, D.TOz, D.TITO, D.TIi1, by simp, by simp [D.zi1], by simp [D.Ti1], D.TIi2, by simp, by simp [D.zi2, D.za], by simp [D.Ti2, D.Ta], by simp [D.i12, Ne.symm D.ai1], by simp [D.i12.symm]⟩
theorem turn_zipSL {P : Program} {w : World} {K : PySem.W.Frag} {elts : List Expr} {kk : Nat} {tpos : Pos} {a z TI TO i1 i2 : Addr} {y : Str} {t : Tok} (D : ZApartT z TI TO i1 i2 a) :
    Turn P w K (.Tuple elts kk tpos) (ItzT K y a) [z, TI, TO, i1, i2] z (fun i h => IsZip h z TI TO .none ∧ IsTupOf2 h TI (.ref i1) (.ref i2) ∧ (∃ x y, IsTupOf2 h TO x y) ∧ h.IsStrIter i1 (strIterType y) y t i ∧ h.IsListIter i2 a i) where
  mem := by simp
  obj := fun i h st c hc => by
    obtain ⟨hz, hTI, ⟨x, y, hTO⟩, ⟨o2, e2, _, d2⟩, ⟨o1, e1, _, d1⟩⟩ := st
    have e' : c = z ∨ c = TI ∨ c = TO ∨ c = i1 ∨ c = i2 := by simpa using hc
    rcases e' with q | q | q | q | q
    · rw [q]; exact ⟨_, hz, fun v q => nomatch q⟩
    · rw [q]; exact ⟨_, hTI, fun v q => nomatch q⟩
    · rw [q]; exact ⟨_, hTO, fun v q => nomatch q⟩
    · rw [q]; exact ⟨o2, e2, fun v q => by
        first
          | (rw [d2] at q; cases q)
          | (obtain ⟨u, d2⟩ := d2; rw [d2] at q; cases q)⟩
    · rw [q]; exact ⟨o1, e1, fun v q => by rw [d1] at q; cases q⟩
  keep := fun i h h' st k => by
    obtain ⟨hz, hTI, ⟨x, y, hTO⟩, ⟨o, ho, r⟩, h1⟩ := st
    exact ⟨k z (by simp) _ hz, k TI (by simp) _ hTI, ⟨x, y, k TO (by simp) _ hTO⟩, ⟨o, k i1 (by simp) o ho, r⟩, h1.at fun o q => k i2 (by simp) o q⟩
  item := by
    intro X hP hw hK hc i pins s σ H E I hf st hg
    subst hP hw hK
    obtain ⟨hz, hTI, ⟨x0, y0, hTO⟩, h2, h1⟩ := st
    obtain ⟨xs, x, c, hqx, hx, hy⟩ := hg
    obtain ⟨its, rv, p, _⟩ := I.list hqx
    obtain ⟨u, hu, ru⟩ := rv.get hx
    have hl1 : i < its.toArray.size := by
      have := (List.getElem?_eq_some_iff.mp hu).1
      simpa using this
    have hl2 : i < y.cps.size := (Array.getElem?_eq_some_iff.mp hy).1
    have hzl : z < s.heap.objs.size := Heap.lt_size hz
    have hh : X.A.in1.handled = none := I.ok.hd hc
    refine wpAny_pyNext_zipD2_item (i := i) D.sep (.text hh i1 y t) (.list hh i2 a D.ai2 its.toArray) hz hTI hTO h2 ⟨h1, p.isList⟩ hl2 hl1 fun x2 x1 h' tk y2 y1 z' TO' s2' s1' hT hsz hk => ?_
    obtain ⟨c', u', hc', rfl⟩ := y2
    rw [hy] at hc'
    cases hc'
    have y1 : its.toArray[i]? = some x1 := y1
    have hx1 : x1 = u := by
      have : its.toArray[i]? = some u := by simpa using hu
      rw [this] at y1
      exact (Option.some.inj y1).symm
    subst hx1
    refine ⟨_, rfl, wpAny_letOwnedTupleGo_zip (s := { s with heap := h', toks := tk }) z' fun h'' z'' sb => ?_⟩
    have hT2 : h''.get? s.heap.objs.size = some { cls := .type "tuple", data := .seq #[.str ⟨#[c]⟩ u', x1] } := (sb.2 _ (Nat.ne_of_gt hzl)).trans hT
    have new : ObjOk X.prog X.w (upd H s.heap.objs.size (.tup [.str ⟨#[c]⟩, x])) h'' s.heap.objs.size (.tup [.str ⟨#[c]⟩, x]) :=
      ⟨by show 2 ≤ sizeLine; decide, [.str ⟨#[c]⟩ u', x1], .cons ⟨_, rfl⟩ (.cons ru .nil), ⟨_, hT2, rfl, _, rfl⟩⟩
    have I1 : Inv X pins σ (upd H s.heap.objs.size (.tup [.str ⟨#[c]⟩, x])) { s with heap := h'', toks := tk } :=
      I.turnedNew (t' := tk) (ch := [z, TI, TO, i1, i2]) (fun c o hb q => (sb.2 c (fun q' => hb (by simp [q']))).trans (hk c o (fun q' => hb (by simp [q'])) (fun q' => hb (by simp [q'])) (fun q' => hb (by simp [q'])) (fun q' => hb (by simp [q'])) q)) hf (Nat.le_refl _) new
    refine ⟨.ref s.heap.objs.size, _, I1, rfl, ⟨_, x, c, rfl, I.hok.fresh (Nat.le_refl _), rfl, fun l hl => by rw [I.list_inj hl hqx]; exact hx, hy⟩, ⟨z'', ?_, ⟨.str ⟨#[c]⟩ u', x1, ?_⟩, ?_, ?_⟩, fun c hcm => ?_⟩
    · exact (sb.2 _ D.TIz).trans (hk _ _ D.TIz D.TITO D.TIi1 D.TIi2 hTI)
    · exact (sb.2 _ D.TOz).trans TO'
    · obtain ⟨o, ho, r⟩ := s2'
      exact ⟨o, (sb.2 _ D.zi1.symm).trans ho, r⟩
    · exact s1'.1.at fun o q => (sb.2 _ D.zi2.symm).trans q
    · have hlt : c < s.heap.objs.size := by
        have e' : c = z ∨ c = TI ∨ c = TO ∨ c = i1 ∨ c = i2 := by simpa using hcm
        rcases e' with q | q | q | q | q
        · rw [q]; exact hzl
        · rw [q]; exact Heap.lt_size hTI
        · rw [q]; exact Heap.lt_size hTO
        · rw [q]; obtain ⟨_, e2, _⟩ := h2; exact Heap.lt_size e2
        · rw [q]; obtain ⟨_, e1, _⟩ := h1; exact Heap.lt_size e1
      rw [upd_ne (Nat.ne_of_lt hlt)]
      exact (hf c hcm).1
  done := by
    intro X hP hw hK hc i pins s σ H E I hf st hg
    subst hP hw hK
    obtain ⟨hz, hTI, ⟨x0, y0, hTO⟩, h2, h1⟩ := st
    obtain ⟨xs, hqx, hi1, hi2, hend⟩ := hg
    obtain ⟨its, rv, p, _⟩ := I.list hqx
    have l1 := rv.length
    have hsz : its.toArray.size = xs.length := by simp [l1]
    have hh : X.A.in1.handled = none := I.ok.hd hc
    refine wpAny_pyNext_zipD2_end (i := i) D.sep (.text hh i1 y t) (.list hh i2 a D.ai2 its.toArray) hz hTI hTO h2 ⟨h1, p.isList⟩ hi2 (by rw [hsz]; exact hi1) (by rw [hsz]; exact hend.symm.imp Eq.symm Eq.symm) fun h' tk hk => ⟨rfl, I.turnedL (t' := tk) (ch := [z, TI, TO, i1, i2]) (fun c o hb q =>
      hk c o (fun q' => hb (by simp [q'])) (fun q' => hb (by simp [q'])) (fun q' => hb (by simp [q'])) (fun q' => hb (by simp [q'])) q) hf⟩
  self := fun A i s Q E st h => wpAny_pyIter_zip st.1 h
def iZipT (K : PySem.W.Frag) (ta : TA) : TI := fun σ H R => ta σ H fun vs H1 => ∃ a xs y, vs = [.str y, .ref a] ∧ SqL K H1 a xs ∧ R (ItzT K y a) H1
theorem pi_zipT {X : Cx} {K : PySem.W.Frag} (hK : X.K = K) {e e2 : Expr} {ta : TA} {p pos tpos : Pos} {elts : List Expr} {kk : Nat} (hg : Gl X "zip") (hm : X.mg "zip" = none) (ha : PA X [e, e2] ta)
    (hs : starEach [e, e2] X.env = (false, eval e X.env) :: starEach [e2] X.env := by rfl) (hpl : (backTo pos (starEach [e2] X.env)).any (·.1) = false := by rfl) :
    PI X (.Tuple elts kk tpos) (.Call (.Name "zip" p) [e, e2] [] pos) (iZipT K ta) := by
  subst hK
  refine ⟨fun pins s σ H R I h => ?_⟩
  refine Call_ (ld_blt I hg hm PyProof.Rows.boot_zip (PyProof.Rows.callWith_type1 (thn (ha.run pos pins s σ H _ I h) fun us s1 ⟨vs, H1, I1, r1, q1⟩ => ?_) hs hpl))
  obtain ⟨a, xs, y, ex, hqx, q⟩ := q1
  subst ex
  cases r1 with
  | cons r rr =>
    cases rr with
    | cons r' rr =>
      cases rr
      cases r'
      obtain ⟨t, rfl⟩ := r
      have fresh5 : ∀ c, c ∈ [s1.heap.objs.size + 4, s1.heap.objs.size + 2, s1.heap.objs.size + 3, s1.heap.objs.size, s1.heap.objs.size + 1] → FpOk X pins H1 c := fun c hcm => by
        have e' : c = s1.heap.objs.size + 4 ∨ c = s1.heap.objs.size + 2 ∨ c = s1.heap.objs.size + 3 ∨ c = s1.heap.objs.size ∨ c = s1.heap.objs.size + 1 := by simpa using hcm
        have hle : s1.heap.objs.size ≤ c := by
          rcases e' with z | z | z | z | z
          · rw [z]; exact Nat.le_add_right _ _
          · rw [z]; exact Nat.le_add_right _ _
          · rw [z]; exact Nat.le_add_right _ _
          · rw [z]; exact Nat.le_refl _
          · rw [z]; exact Nat.le_add_right _ _
        exact I1.fpOk hle (I1.hok.fresh hle)
      obtain ⟨its, rv, p1, _⟩ := I1.list hqx
      have hal : a < s1.heap.objs.size := p1.lt
      refine zip_begins2 (begins_text y t) (begins_list a its.toArray) trivial p1.isList fun h' hz hTI hTO h1 h2 hsz hk => wpAny_pyIter_zip hz ?_
      have I2 : Inv X pins σ H1 { s1 with heap := h' } := I1.kept (t' := s1.toks) hk
      refine ⟨s1.heap.objs.size + 4, [s1.heap.objs.size + 4, s1.heap.objs.size + 2, s1.heap.objs.size + 3, s1.heap.objs.size, s1.heap.objs.size + 1], _, _, H1, rfl, I2, turn_zipSL (t := t) ⟨?_, ?_, ?_, ?_, ?_, ?_, ?_, ?_, ?_, ?_, ?_, ?_, ?_, ?_⟩, ⟨hz, hTI, ⟨_, _, hTO⟩, ?_, ⟨_, h2, rfl, rfl⟩⟩, fresh5, q⟩
      all_goals first
        | (show (_ : Nat) ≠ _; omega)
        | exact Nat.ne_of_lt hal
        | exact Nat.ne_of_lt (Nat.lt_of_lt_of_le hal (Nat.le_add_right _ _))
        | exact Nat.ne_of_gt (Nat.lt_of_lt_of_le hal (Nat.le_add_right _ _))
        | exact ⟨_, h1, rfl, rfl⟩
        | exact ⟨_, h1, rfl, _, rfl⟩
section
variable {Γ : Ga} {δ δ' : De} {μ μ1 μ2 μ3 : Mu} {ta tb te to td : TE} {K : PySem.W.Frag} {D : Ends} {p : Addr}
def zsT (y : Str) (ds : List PD) : List Sv := (y.cps.toList.zip ds).map fun p => dU [.str ⟨#[p.1]⟩, p.2]
theorem w_zipTO {ds : List PD} {y : Str} (hK : Γ.K = K) (h' : Ev Γ ta δ μ (dS y) μ1) (h : Ev Γ tb δ μ1 (.r (.ref p)) μ2) (hp : (p, OO.lst ds) ∈ μ2) : EvWo Γ (iZipT K (tCons ta (tCons tb tNil))) δ μ (zsT y ds) [(p, .lst ds)] μ2 := fun σ W A R r =>
  (a_cons h' (a_cons h a_nil)) σ W A _ fun vs W1 A1 l1 hs => by
    subst hK
    obtain ⟨v', v, rfl, h1', h1⟩ := sv2 hs
    cases h1
    cases svS h1'
    obtain ⟨vs, h3, h4⟩ := A1.ow.ok _ hp
    have hlen : (zsT y ds).length = min y.cps.size ds.length := by simp [zsT]
    refine ⟨p, vs, y, rfl, SqL.of h3, r _ [] W1 A1 l1 gh_nil ⟨fun i W hi _ hw => ?_, fun W _ hw => ?_, fun i W x H' hi _ hw yy => ?_⟩⟩
    all_goals obtain ⟨ws, h5, h6⟩ := hw _ List.mem_cons_self
    all_goals have hwl := h6.length
    · rw [hlen] at hi
      have i1 : i < ws.length := by omega
      have i2 : i < y.cps.size := by omega
      exact ⟨ws, ws[i], y.cps[i], SqL.of h5, List.getElem?_eq_getElem i1, Array.getElem?_eq_getElem i2⟩
    · rw [hlen]
      exact ⟨ws, SqL.of h5, by omega, by omega, by omega⟩
    · obtain ⟨T, b, c, e1, e2, e3, e4, e5⟩ := yy
      obtain ⟨d, e6, e7⟩ := h6.getV (e4 ws (SqL.of h5))
      have l := le_put (o := .tup [.str ⟨#[c]⟩, b]) e2
      refine ⟨W.put T _ e2, dU [.str ⟨#[c]⟩, d], e3.symm, l, ?_, ?_⟩
      · have e8 : y.cps.toList[i]? = some c := by rw [Array.getElem?_toList]; exact e5
        simp [zsT, List.getElem?_zip_eq_some, e6, e8]
      · rw [e1]
        exact .tup (SqT.of upd_same) (.cons (.str _) (.cons (Dp.ex l.i e7) .nil))
/-! ### data list + owned list -/
theorem e_catDO {ds es : List PD} (hK : Γ.K = K) (ha : Ev Γ ta δ μ (dL ds) μ1) (hb : Ev Γ tb δ μ1 (.r (.ref p)) μ2) (hp : (p, OO.lst es) ∈ μ2) (hz : ds.length + es.length ≤ 1000000) : Ev Γ (tOp (rCatL K) ta tb) δ μ (dL (ds ++ es)) μ2 := fun σ W A Q q =>
  e_two ha hb A fun v w W' A' l h1 h2 => by
    subst hK
    obtain ⟨q1, vs, rfl, h3, h4⟩ := svL h1
    cases h2
    obtain ⟨ws, h5, h6⟩ := A'.ow.ok _ hp
    refine ⟨q1, p, vs, ws, rfl, rfl, sf_sqL W'.s h3, SqL.of h5, ?_, fun a ha => ?_⟩
    · rw [h4.length, h6.length]
      exact Nat.le_trans hz (by decide)
    · have l2 := le_put (o := .lst (vs ++ ws)) ha
      exact q _ (W'.put a _ ha) (A'.le l2) (l.trans l2.i) (.lst (SqL.of upd_same) ((h4.app h6).ex l2.i))
/-! ### x.replace("..", "..") -/
theorem e_replC {x y z : Str} (ha : Ev Γ to δ μ (dS x) μ1) (hz : x.length + (x.length + 1) * z.length ≤ 16777216) : Ev Γ (CwR.tReplC to y z) δ μ (dS (Txt.replace x y z)) μ1 := fun σ W A Q q =>
  ha σ W A _ fun v W1 A1 l1 h1 => by
    cases svS h1
    exact ⟨x, rfl, hz, q _ W1 A1 l1 (.str _)⟩
/-! ### a slot forgotten -/
theorem Nx.forget (k : Nat) (h : Nx Γ D (δ.set k none) μ) : Nx Γ D δ μ := fun σ W A => h σ W (A.weak (by rw [List.length_set]) fun j s e => by
  by_cases hk : j = k
  · subst hk
    by_cases hl : j < δ.length
    · rw [List.getElem?_set_self hl] at e
      cases e
    · rw [List.getElem?_eq_none (by rw [List.length_set]; omega)] at e
      cases e
  · rwa [List.getElem?_set_ne (Ne.symm hk)] at e)
end
/-! ### a token is out behind x + ".." -/
section
variable {X : Cx} {e a : Expr} {es : List Expr} {te ta : TE} {tl : TA} {st : Stmt} {rest : List Stmt} {t u : TS} {pos : Pos}
def PE1 (X : Cx) (e : Expr) (te : TE) : Prop := ∀ (pins : List (Addr × Obj)) (s : Shared) (σ : L2.St) (H : Hp) (Q : VK), L2.Inv X pins σ H s → te σ H Q → wpAny (model X.prog X.w) X.A (eval e X.env) (fun v s' => 1 ≤ s'.toks ∧ EP X pins σ Q v s') X.xe s
theorem pe1_op {op : Operator} {r : R2} {x : Str} {j : Nat} {c : Pos} (ho : OpR X (binaryOp op) r) (ha : PE X a ta) : PE1 X (.BinOp a op (.Constant (.str x) j c) pos) (tOp r ta (tC (.str x))) := fun pins s σ H Q I h =>
  wpAny_BinOp (thn (ha.run pins s σ H _ I h) fun v s1 ⟨y, H1, I1, r1, q1⟩ => Calls.Constant_str (wpAny_mono (PySem.wpAny_toks_of (n := 1) (by show 1 ≤ s1.toks + 1; omega) (ho pins { s1 with toks := s1.toks + 1 } σ H1 y (.str x) v (.str x s1.toks) Q (I1.tok _) r1 ⟨_, rfl⟩ q1)) (fun _ _ z => z) fun _ _ z => z.2))
theorem pe1_lst (ha : PE1 X e te) (hr : PA X es tl) (hs : starEach (e :: es) X.env = (false, eval e X.env) :: starEach es X.env := by rfl) : PE1 X (.List (e :: es) pos) (tLst (tCons te tl)) := fun pins s σ H Q I hq => by
  refine wpAny_List_spliced ?_
  rw [hs]
  show wpAny _ _ (spliced ((false, eval e X.env) :: backTo pos (starEach es X.env))) _ _ s
  refine Calls.spliced_cons (thn (ha pins s σ H _ I hq) fun v s1 ⟨k1, x, H1, I1, r1, q1⟩ => ?_)
  refine wpAny_mono (PySem.wpAny_toks_of (n := 1) k1 (hr.run pos pins s1 σ H1 _ I1 q1)) (fun us s2 ⟨k2, xs, H2, I2, r2, z, q2⟩ => ⟨by rw [List.length_cons, ← r2.length]; exact z, ?_⟩) fun _ _ z => z.2
  have hf : H2 s2.heap.objs.size = none := I2.hok.fresh (Nat.le_refl _)
  exact ⟨k2, .ref s2.heap.objs.size, upd H2 s2.heap.objs.size (.lst (x :: xs)), I2.laid (t' := s2.toks) (fun b u e => Heap.get?_push_of_some _ e) (Nat.le_refl _) ⟨z, v :: us, 0, .cons r1 r2, Heap.get?_push_size _ rfl⟩, rfl, q2 _ hf⟩
theorem pss1_set {i : Nat} {x : Str} {pos' : Pos} (hN : X.N.Nodup) (hi : X.N[i]? = some x) (hx : Loc X.env.scope x) (he : PE1 X e te) (h2 : PSsT X rest u) (hs : swapsWith e (some (.Name x pos')) pos.line X.env = pure false := by rfl) (hf : X.fn x = true ∨ X.env.scope.names.lookup x = some .local := by first | exact .inl rfl | exact .inr rfl | assumption) :
    PSs X (.Assign [.Name x pos'] e pos :: rest) (tSeq (tAsg te (gName i)) u) := by
  refine ⟨fun pins s σ H D I h => ?_⟩
  refine wpAny_execs_cons (wpAny_Assign_Name (thn (he pins s σ H _ I h) fun v s1 ⟨k1, y, H1, I1, r1, q1⟩ => ?_) hs)
  refine wpAny_mono (PySem.wpAny_toks_of (n := 1) k1 (store_ok (v := y) (u := v) (Q := fun _ s2 => L2.Inv X pins (σ.set i (some y)) H1 s2) I1 hN hi hx r1 (fun _ I2 => I2) hf)) (fun _ s2 q => ?_) fun _ _ z => z.2
  exact h2 pins s2 _ H1 D q.1 q.2 q1
theorem pst_set {i : Nat} {x : Str} {pos' : Pos} (hN : X.N.Nodup) (hi : X.N[i]? = some x) (hx : Loc X.env.scope x) (he : PET X e te) (hs : swapsWith e (some (.Name x pos')) pos.line X.env = pure false := by rfl) (hf : X.fn x = true ∨ X.env.scope.names.lookup x = some .local := by first | exact .inl rfl | exact .inr rfl | assumption) :
    PST X (.Assign [.Name x pos'] e pos) (tAsg te (gName i)) := fun pins s σ H D h0 I h =>
  wpAny_Assign_Name (thn (he pins s σ H _ h0 I h) fun v s1 ⟨y, H1, I1, r1, q1⟩ => store_ok I1 hN hi hx r1 (fun s2 I2 => ⟨_, H1, I2, q1⟩) hf) hs
end
end Sf
namespace Sf
open PySem PySem.Spec PyProof.Rows L2
theorem Nx.less {Γ : Ga} {D : Ends} {δ : De} {μ μ0 : Mu} (h : Nx Γ D δ μ) (p : μ.Sublist μ0) : Nx Γ D δ μ0 := fun σ W A => h σ W (A.less p)
theorem clsV_ref {K : PySem.W.Frag} {y : Str} (h : y ≠ "ValueError") {u : Value} (hu : RelV (.ref (He.ga K y)) u) : u = clsV K y := by
  unfold clsV
  rw [if_neg h]
  exact hu
theorem clsV_val {K : PySem.W.Frag} {u : Value} (hu : RelV (.ty "ValueError") u) : u = clsV K "ValueError" := by
  unfold clsV
  rw [if_pos rfl]
  exact hu
theorem ne_BadWare : ("BadWare" : Str) ≠ "ValueError" := by decide +kernel
theorem ne_BadPlace : ("BadPlace" : Str) ≠ "ValueError" := by decide +kernel
theorem ne_BadMany : ("BadMany" : Str) ≠ "ValueError" := by decide +kernel
theorem ne_TooFew : ("TooFew" : Str) ≠ "ValueError" := by decide +kernel
theorem ne_SamePlace : ("SamePlace" : Str) ≠ "ValueError" := by decide +kernel
theorem ne_NoHold : ("NoHold" : Str) ≠ "ValueError" := by decide +kernel
theorem ne_NoEntry : ("NoEntry" : Str) ≠ "ValueError" := by decide +kernel
theorem ne_NoLine : ("NoLine" : Str) ≠ "ValueError" := by decide +kernel
theorem ne_StockError : ("StockError" : Str) ≠ "ValueError" := by decide +kernel
end Sf
namespace Sf
open PySem PySem.Spec PyProof.Rows L2
/-! ### text * int(a test) -/
theorem mul_ok01 {a : Str} (b : Bool) : MulOk a (if b then 1 else 0) := by
  cases b with
  | true =>
    refine ⟨by decide, fun _ h => ?_, fun _ h => ?_⟩ <;> exact absurd h (by simp)
  | false =>
    refine ⟨by decide, fun h => ?_, fun h => ?_⟩ <;> exact absurd (show ((0 : Int) < 1) by decide) h
theorem mul_val01 {a : Str} (b : Bool) : Txt.mul a (if b then 1 else 0) = if b then a else Str.empty := by
  cases b with
  | true =>
    show (if (1 : Int) < 1 then Str.empty else if ((1 : Int) == 1 || a.length == 0) = true then a else _) = a
    rw [if_neg (by decide), if_pos (by simp)]
  | false =>
    show (if (0 : Int) < 1 then Str.empty else _) = Str.empty
    rw [if_pos (by decide)]
section
variable {Γ : Ga} {δ : De} {μ μ1 μ2 : Mu} {ta tb : TE} {K : PySem.W.Frag}
theorem e_mulB {a : Str} {b : Bool} (ha : Ev Γ ta δ μ (dS a) μ1) (hb : Ev Γ tb δ μ1 (dB b) μ2) : Ev Γ (tOp rMulS ta (tCB (fun xs H Q => (∃ i, xs = [.int i] ∧ Q (.int i) H) ∨ ∃ k, xs = [.bl k] ∧ Q (.int (if k then 1 else 0)) H) (tCons tb tNil))) δ μ (dS (if b then a else Str.empty)) μ2 := Ev.to (e_mulS ha (e_intB hb) (mul_ok01 b)) (congrArg dS (mul_val01 b))
end
end Sf
namespace Sf
open PySem PySem.Spec PyProof.Rows L2
/-! ### a def called in an except suite with the caught error as its argument -/
structure FnE (P : Program) (w : World) (K : PySem.W.Frag) (mg : Str → Option Value) (base : Heap) (k : Nat) (f : Addr) (fd : FuncData) (ps : List Str) (sp : Addr → Addr → Sp) : Prop where
  size : ∀ a C vs H Q E, sp a C vs H Q E → vs.length = ps.length
  go : ∀ (a : Addr) (oe : Obj) (C : Addr) (A : Around) (out : List Env) (s : Shared) (H : Hp) (ar : Args) (us : List Value) (vs : List V) (Q : VK) (E : XK), L2H.RoomH k A → L2H.PinOk out H s (a, oe) → Zc (.ref C) none oe → (∃ l, oe.data = .fields l) → ExcC K C →
    Env0 P w K mg base A out s H → BindsTo s fd ar (ps.zip us) → Vals vs us → sp a C vs H Q E → codeAny (model P w) A (.call (.ref f) ar) (CR (L2.CX P w) out P w H s Q E) s
section
variable {P : Program} {w : World} {K : PySem.W.Frag} {mg : Str → Option Value} {base : Heap} {x qual : Str} {params : Arguments} {body : List Stmt} {scope : Scope} {f : Addr} {fd : FuncData}
theorem fnE_of {N ps : List Str} {k : Nat} {sp : Addr → Addr → Sp} (F : FunD K x qual params body scope [] [] f fd) (S : FnScope N ps scope) (size : ∀ a C vs H Q E, sp a C vs H Q E → vs.length = ps.length)
    (hb : ∀ (a : Addr) (oe : Obj) (C : Addr) (cdv : Value) (A : Around) (out : List Env) (s : Shared) (H : Hp) (vs : List V) (Q : VK) (E : XK), Zc (.ref C) none oe → (∃ l, oe.data = .fields l) → ExcC K C → L2H.RoomH k (A.deeper (envOfC qual scope s.heap.objs.size f cdv)) → sp a C vs H Q E →
      ∃ t, PSs (L2H.cxH (L2.CX P w) P w K mg base N qual scope f cdv A out s H E (a, oe)) body t ∧ t { nx := fun _ H' => Q .non H', rt := Q } (L2.start N vs) H) : FnE P w K mg base (k + 1) f fd ps sp := by
  obtain ⟨oc, od, dV, kV, doc, pm, an, cv, ct, osl, rfl, lk, hcv, _, _⟩ := F.ex
  refine ⟨size, ?_⟩
  intro a oe C A out s H ar us vs Q E room pin hz hf hC e0 bnd rel want
  have es := fun b o e => (e0.bs b o e).1
  have KX : K.In s.heap := e0.mod.kin.keeps es
  have kinds : ∀ y ∈ ps.zip us, scope.names.lookup y.1 = some .local ∨ (scope.names.lookup y.1 = some .cell ∧ ((cellsFrom (s.heap.objs.size + 1) scope.names []).lookup y.1).isSome = true) := by
    rintro ⟨n, v⟩ hy
    exact (S.par n (List.of_mem_zip hy).1).imp id fun q => ⟨q, PySem.W.cellsFrom_some _ _ _ (.inl q)⟩
  refine codeAny_call_function room.depth (KX _ _ lk) rfl S.co S.gen rfl (PySem.W.codeRec_of KX hcv) (bnd _ _ _ _ ?_)
  refine wpAny_newFunctionEnv_cells S.kind kinds fun env he s1 y => ?_
  cases he
  refine ⟨(e0.mod.nolimit.keeps es).keeps y.toInCall.keep, codeAny_func ?_⟩
  obtain ⟨t, ht, hq⟩ := hb a oe C cv A out s H vs Q E hz hf hC (room.deeper _) want
  have I := L2H.inv_startH (CX := L2.CX P w) (E := E) S pin e0 (size _ _ _ _ _ _ want) rel y
  refine wpAny_mono (ht.run [] s1 (L2.start N vs) H _ I hq) ?_ (fun _ _ z => z)
  intro fl s' out'
  cases fl with
  | ret u =>
    obtain ⟨v, σ', H', J, rv, q⟩ := out'
    exact ⟨v, H', J.os, J.bare, J.base, J.hok, rv, q⟩
  | next =>
    obtain ⟨σ', H', J, q⟩ := out'
    exact ⟨V.non, H', J.os, J.bare, J.base, J.hok, rfl, q⟩
  | brk => obtain ⟨_, _, _, q⟩ := out'; cases q
  | cont => obtain ⟨_, _, _, q⟩ := out'; cases q
/-- the def's body by the calculus -/
theorem fnE_ok {N ps : List Str} {k n : Nat} {G : Addr → Addr → List Sv → Mu → Oc → Prop} (F : FunD K x qual params body scope [] [] f fd) (S : FnScope N ps scope) (hn : ps.length = n)
    (hb : ∀ (a : Addr) (oe : Obj) (C : Addr) (cdv : Value) (A : Around) (out : List Env) (s : Shared) (H : Hp) (E : XK), Zc (.ref C) none oe → (∃ l, oe.data = .fields l) → ExcC K C → L2H.RoomH k (A.deeper (envOfC qual scope s.heap.objs.size f cdv)) →
      ∃ t, PSs (L2H.cxH (L2.CX P w) P w K mg base N qual scope f cdv A out s H E (a, oe)) body t ∧ ∀ (Γ : Ga) (as : List Sv) (m : Mu) (o : Oc) (D : Ends), Γ.K = K → Γ.F = foot true m → Γ.O = m.map (·.1) → as.length = n → G a C as m o → (∀ σ H, D.rt .non H → D.nx σ H) →
        OcOk Γ.K Γ.W0 Γ.F D.rt E o → Sx Γ t D (as.map some ++ List.replicate (N.length - n) none) m) : FnE P w K mg base (k + 1) f fd ps (fun a C => spG K n true (G a C)) := by
  refine fnE_of F S ?_ ?_
  · rintro a C vs H Q E ⟨W, as, m, o, _, h1, _, h2, _⟩
    rw [paired_len h1, h2, hn]
  · rintro a oe C cdv A out s H vs Q E hz hf hC hr ⟨W, as, m, o, rfl, h1, h2, h3, h4, h5⟩
    obtain ⟨t, ht, hx⟩ := hb a oe C cdv A out s W.h E hz hf hC hr
    refine ⟨t, ht, ?_⟩
    have A0 := Ast.start (N := N) (ro := true) h1 h2
    rw [h3] at A0
    exact hx ⟨K, W, foot true m, m.map (·.1), []⟩ as m o _ rfl rfl rfl h3 h4 (fun _ _ z => z) h5 _ W A0
end
theorem ecls_zc {K : PySem.W.Frag} {cls : Value} {d : Option Addr} {oe : Obj} (hE : ECls K cls d) (hz : Zc cls d oe) : Zc (.ref (adr cls)) none oe := by
  obtain ⟨h1, h2, _⟩ := hE
  rw [← h1, ← h2]
  exact hz
def tCallE (sp : Sp) (t : TA) : TE := fun σ H Q => t σ H fun vs H1 => sp vs H1 Q fun _ _ _ => False
theorem roomH_mark {k : Nat} {A : Around} {v : Option Value} (r : Room k A) : L2H.RoomH k (A.mark v) := ⟨r.dp, r.un⟩
section
variable {X : Cx} {k : Nat} {f a C : Addr} {oe : Obj} {fd : FuncData} {ps : List Str} {sp : Addr → Addr → Sp} {x : Str} {q pos : Pos} {e : Expr} {t : TA}
theorem pe_callE (F : FnE X.prog X.w X.K X.mg X.base k f fd ps sp) (hr : L2H.RoomH k X.A) (hp : (a, oe) ∈ X.pn) (hz : Zc (.ref C) none oe) (hf : ∃ l, oe.data = .fields l) (hC : ExcC X.K C) (hg : Gl X x) (hm : X.mg x = some (.ref f)) (hk : PySem.W.keepIn X.K (.ref f) = true) (hb : Binds X.K fd ps [])
    (ha : PA X [e] t) (hdb : (x == ("__debug__" : Str)) = false := by decide) (he : starEach [e] X.env = (false, eval e X.env) :: starEach [] X.env := by rfl) (hpl : (backTo pos (starEach [] X.env)).any (·.1) = false := by rfl) :
    PE X (.Call (.Name x q) [e] [] pos) (tCallE (sp a C) t) := by
  constructor
  intro pins s σ H Q I h
  refine wpAny_Call_Name_kw (ld_glob I hg hm ?_ hdb)
  refine PySem.W.callWith_K (h₀ := X.base) I.ok.mod.kin hk (thn (ha.run pos pins s σ H _ I h) ?_) he hpl
  rintro us s1 ⟨vs, H1, I1, rv, want⟩
  refine ⟨I1.kIn, ?_⟩
  have n1 : us.length = ps.length := by rw [← rv.length]; exact F.size _ _ _ _ _ _ want
  have bd := hb s1 us I1.kIn (by rw [List.append_nil]; exact n1)
  rw [List.append_nil] at bd
  have pk := I1.pin (a, oe) (List.mem_append_left _ hp)
  have po : L2H.PinOk X.stack H1 s1 (a, oe) := ⟨pk.1, pk.2.1, fun hh => (List.mem_cons.mp (I1.stkSub a hh)).elim pk.2.2.1 pk.2.2.2.1, pk.2.2.2.2⟩
  refine wpAny_call (codeAny_mono (F.go a oe C X.A X.stack s1 H1 ⟨us, []⟩ us vs Q _ hr po hz hf hC I1.env0 bd rv want) ?_)
  intro r s' out
  match r, out with
  | .error e, z =>
    obtain ⟨_, _, _, _, _, _, _, _, _, _, _, _, z⟩ := z
    exact z.elim
  | .ok (.ret u), z => exact I1.after z
/-- isinstance of the error that is pinned -/
theorem call_isP {K : PySem.W.Frag} (hK : X.K = K) (hp : (a, oe) ∈ X.pn) (hC : ExcC K C) (hz : Zc (.ref C) none oe) (hf : ∃ l, oe.data = .fields l) : CallR X (.builtin "isinstance") (rIsE K C a) := by
  subst hK
  rintro pins s σ H xs us Q I rel ⟨c, cv, b, rfl, hcv, ek, want⟩
  match us, rel with
  | [u1, u2], .cons r1 (.cons r2 .nil) =>
    cases r1
    cases hcv _ r2
    have got := (I.pin (a, oe) (List.mem_append_left _ hp)).1
    have J : PySem.W.InstAt s.heap a oe C none := by
      obtain ⟨l, hl⟩ := hf
      obtain ⟨z1, z2⟩ := hz
      cases oe with
      | mk oc od oda osl =>
        dsimp only at z1 z2 hl
        cases z1
        cases z2
        cases hl
        exact ⟨got, rfl, rfl, trivial⟩
    refine PySem.W.kia_one (PySem.W.handS_kitx_exc hC.hg hC.hk hC.hs hC.hd hC.ha hC.hn hC.ht hC.hm) I.kIn J ek (fun z => nomatch z) fun tk => ?_
    exact ⟨.bl b, H, I.kept (t' := tk) (fun _ _ z => z), rfl, want⟩
end
section
variable {Γ : Ga} {δ : De} {μ μ1 : Mu} {ta : TA} {as : List Sv} {m : Mu} {n : Nat} {G : List Sv → Mu → Oc → Prop} {s : Sv} {K : PySem.W.Frag}
theorem e_callE (hK : Γ.K = K) (ha : EvA Γ ta δ μ as μ1) (hG : G as m (.ret s [])) (hm : m.Sublist μ1) (hn : as.length = n := by rfl) : Ev Γ (tCallE (spG K n true G) ta) δ μ s μ1 := fun σ W A Q q =>
  ha σ W A _ fun vs W1 A1 l1 h1 => sp_ro hK A1 hm hn h1 hG fun v W' A' l' h' => q v W' A' (l1.trans l') h'
end
end Sf
namespace Sf
open PySem PySem.Spec PyProof.Rows L2
/-! ### lists with a tuple ({}, 1) in them -/
abbrev xS : Option PD → Sv
  | some d => .d d
  | none => .raw
theorem xok_sv {K : PySem.W.Frag} {I : Hp} {v : V} {o : Option PD} : SvOk K I v (xS o) ↔ XOk K I v o := by
  cases o <;> exact Iff.rfl
theorem xall_sv {K : PySem.W.Frag} {I : Hp} : ∀ {vs : List V} {os : List (Option PD)}, SvAll K I vs (os.map xS) → XAll K I vs os
  | _, [], .nil => .nil
  | _, o :: r, .cons h t => .cons (xok_sv.mp h) (xall_sv t)
theorem xall_dp {K : PySem.W.Frag} {I : Hp} : ∀ {vs : List V} {ds : List PD}, DpAll K I vs ds → XAll K I vs (ds.map some)
  | _, [], .nil => .nil
  | _, d :: r, .cons h t => .cons h (xall_dp t)
theorem xall_app {K : PySem.W.Frag} {I : Hp} : ∀ {vs ws : List V} {os ps : List (Option PD)}, XAll K I vs os → XAll K I ws ps → XAll K I (vs ++ ws) (os ++ ps)
  | _, _, [], _, .nil, s => s
  | _, _, _ :: _, _, .cons h t, s => .cons h (xall_app t s)
theorem xall_get {K : PySem.W.Frag} {I : Hp} : ∀ {vs : List V} {os : List (Option PD)} {j : Nat} {v : V}, XAll K I vs os → vs[j]? = some v → ∃ o, os[j]? = some o ∧ XOk K I v o
  | _, _, _, _, .nil, e => by simp at e
  | _, _, 0, v, .cons h _, e => by
    simp at e
    subst e
    exact ⟨_, rfl, h⟩
  | _, _, j + 1, v, .cons _ t, e => by
    obtain ⟨o, h1, h2⟩ := xall_get (j := j) t (by simpa using e)
    exact ⟨o, by simpa using h1, h2⟩
/-! ### == and != that ask no data -/
def plainV : V → Prop
  | .non => True
  | .bl _ => True
  | .int _ => True
  | .str _ => True
  | .ref _ => True
  | _ => False
theorem plain_x {K : PySem.W.Frag} {I : Hp} {v : V} {o : Option PD} (h : XOk K I v o) : plainV v := by
  cases o with
  | some d =>
    have h : Dp K I v d := h
    cases h <;> trivial
  | none =>
    obtain ⟨p, q, rfl, _⟩ := h
    trivial
theorem plain_all {K : PySem.W.Frag} {I : Hp} : ∀ {vs : List V} {os : List (Option PD)}, XAll K I vs os → ∀ v ∈ vs, plainV v
  | _, _, .nil, _, h => nomatch h
  | _, _, .cons h t, v, hv => by
    rcases List.mem_cons.mp hv with rfl | hv
    · exact plain_x h
    · exact plain_all t v hv
theorem plain_eq {A : Around} {s : Shared} {v : V} {u1 u2 : Value} (hp : plainV v) (r1 : RelV v u1) (r2 : RelV v u2) : SeqAt.EqAt A s u1 u2 true := by
  match v, hp with
  | .non, _ => cases r1; cases r2; exact SeqAt.EqAt.same _
  | .bl b, _ => cases r1; cases r2; exact SeqAt.EqAt.same _
  | .int i, _ =>
    obtain ⟨t1, rfl⟩ := r1
    obtain ⟨t2, rfl⟩ := r2
    have := SeqAt.EqAt.int_int (A := A) (s := s) i t1 i t2
    rwa [beq_self_eq_true] at this
  | .str x, _ =>
    obtain ⟨t1, rfl⟩ := r1
    obtain ⟨t2, rfl⟩ := r2
    have := SeqAt.EqAt.str_str (A := A) (s := s) x t1 x t2
    rwa [beq_self_eq_true] at this
  | .ref p, _ => cases r1; cases r2; exact SeqAt.EqAt.same _
def rEqX (K : PySem.W.Frag) : R2 := fun x y H Q => rEqD K x y H Q ∨ ∃ p q xs, x = .ref p ∧ y = .ref q ∧ SqT K H p xs ∧ SqT K H q [] ∧ xs ≠ [] ∧ Q (.bl false) H
def rNeX (K : PySem.W.Frag) : R2 := fun x y H Q => ∃ p q xs, x = .ref p ∧ y = .ref q ∧ SqL K H p xs ∧ SqL K H q xs ∧ (∀ v ∈ xs, plainV v) ∧ Q (.bl false) H
theorem op_eqX {X : Cx} {K : PySem.W.Frag} (hK : X.K = K) (hu : X.A.units + 64 < cLine) : OpR X (compareOp .Eq) (rEqX K) := by
  subst hK
  rintro pins s σ H x y v u Q I rx ry (h | ⟨p, q, xs, rfl, rfl, h1, h2, hne, want⟩)
  · exact op_eqD hu pins s σ H x y v u Q I rx ry h
  cases rx
  cases ry
  obtain ⟨its, rv, ⟨o1, g1, c1, n1, d1⟩, _⟩ := I.tuple h1
  obtain ⟨its2, rv2, ⟨o2, g2, c2, n2, d2⟩, _⟩ := I.tuple h2
  have l1 := rv.length
  have l2 := rv2.length
  have e2 : its2 = [] := List.eq_nil_of_length_eq_zero l2.symm
  have e1 : its ≠ [] := fun z => hne (List.eq_nil_of_length_eq_zero (by rw [l1, z]; rfl))
  subst e2
  refine SeqAt.eq_tupleAt (e := fun _ => true) (items := its.toArray) (items2 := (#[] : Array Value)) ⟨o1, g1, c1, n1, d1⟩ ⟨o2, g2, c2, n2, d2⟩ (by omega) (fun j _ h => absurd h (Nat.not_lt_zero _)) ?_
  have e3 : ((List.range (min its.toArray.size (#[] : Array Value).size)).all (fun _ => true) && its.toArray.size == (#[] : Array Value).size) = false := by
    cases its with
    | nil => exact absurd rfl e1
    | cons a r => simp
  rw [e3]
  exact ⟨.bl false, H, I, rfl, want⟩
theorem op_neX {X : Cx} {K : PySem.W.Frag} (hK : X.K = K) (hu : X.A.units + 64 < cLine) : OpR X (compareOp .NotEq) (rNeX K) := by
  subst hK
  rintro pins s σ H x y v u Q I rx ry ⟨p, q, xs, rfl, rfl, h1, h2, hpl, want⟩
  cases rx
  cases ry
  obtain ⟨its, rv, pl1, _⟩ := I.list h1
  obtain ⟨its2, rv2, pl2, _⟩ := I.list h2
  have l1 := rv.length
  have l2 := rv2.length
  refine SeqAt.RcNeAt.lists (e := fun _ => true) pl1.isList pl2.isList (by rw [List.size_toArray, List.size_toArray]; omega) (by omega) (fun j j1 j2 => ?_) X.prog X.w _ _ ?_
  · rw [List.size_toArray] at j1 j2
    have hj : j < xs.length := by omega
    obtain ⟨u1, e1, r1⟩ := rv.get (List.getElem?_eq_getElem hj)
    obtain ⟨u2, e2, r2⟩ := rv2.get (List.getElem?_eq_getElem hj)
    have f1 : its.toArray[j] = u1 := by
      rw [List.getElem?_eq_getElem j1] at e1
      simpa using e1
    have f2 : its2.toArray[j] = u2 := by
      rw [List.getElem?_eq_getElem j2] at e2
      simpa using e2
    rw [f1, f2]
    exact plain_eq (hpl _ (List.getElem_mem hj)) r1 r2
  · have e3 : (!(List.range its.toArray.size).all fun _ => true) = false := by simp
    rw [e3]
    exact ⟨.bl false, H, I, rfl, want⟩
section
variable {Γ : Ga} {δ : De} {μ μ1 μ2 : Mu} {ta tb te : TE} {tl : TA} {d : PD} {ds : List PD} {os ps : List (Option PD)} {K : PySem.W.Frag} {i : Int} {o : Option PD}
theorem Ev.dx (h : Ev Γ te δ μ (dL ds) μ1) : Ev Γ te δ μ (.xl (ds.map some)) μ1 := fun σ W A Q q => h σ W A Q fun v W' A' l h1 => q v W' A' l (by
  obtain ⟨p, vs, rfl, h3, h4⟩ := svL h1
  exact ⟨p, vs, rfl, h3, xall_dp h4⟩)
theorem Ev.vx {vs : List V} (h : Ev Γ te δ μ (.xv vs os) μ1) : Ev Γ te δ μ (.xl os) μ1 := fun σ W A Q q => h σ W A Q fun v W' A' l h1 => q v W' A' l (by
  obtain ⟨p, rfl, h3, h4⟩ := h1
  exact ⟨p, vs, rfl, h3, h4⟩)
theorem Ev.x (h : Ev Γ te δ μ (.d d) μ1) : Ev Γ te δ μ (xS (some d)) μ1 := h
theorem e_lstX (h : EvA Γ tl δ μ (os.map xS) μ1) (hl : Nat.ble os.length 100000 = true := by rfl) : Ev Γ (tLst tl) δ μ (.xl os) μ1 := fun σ W A Q q =>
  h σ W A _ fun vs W1 A1 l1 h1 => by
    have h2 := xall_sv h1
    refine ⟨by rw [paired_len h2]; exact Nat.le_trans (Nat.le_of_ble_eq_true hl) (by decide), fun p hp => ?_⟩
    have l2 := le_put (o := .lst vs) hp
    exact q _ (W1.put p (.lst vs) hp) (A1.le l2) (l1.trans l2.i) ⟨p, vs, rfl, SqL.of upd_same, h2.ex l2.i⟩
theorem e_rawT (h : Ev Γ te δ μ (dI 1) μ) : Ev Γ (tTup (tCons tDNewK (tCons te tNil))) δ μ .raw μ := fun σ W A Q q => fun p hp => by
  have l1 := le_put (o := .dK []) hp
  refine h σ (W.put p (.dK []) hp) (A.le l1) _ fun v W2 A2 l2 h2 => ?_
  cases svI h2
  refine ⟨show 2 ≤ sizeLine by decide, fun t ht => ?_⟩
  have l3 := le_put (o := .tup [.ref p, .int 1]) ht
  refine q _ (W2.put t _ ht) (A2.le l3) ((l1.i.trans l2).trans l3.i) ⟨t, p, rfl, SqT.of upd_same, l3.i _ _ (l2 _ _ upd_same)⟩
theorem e_catX (hK : Γ.K = K) (ha : Ev Γ ta δ μ (.xl os) μ1) (hb : Ev Γ tb δ μ1 (.xl ps) μ2) (hz : os.length + ps.length ≤ 1000000) : Ev Γ (tOp (rCatL K) ta tb) δ μ (.xl (os ++ ps)) μ2 := fun σ W A Q q =>
  e_two ha hb A fun v w W' A' l h1 h2 => by
    subst hK
    obtain ⟨p, vs, rfl, h3, h4⟩ := h1
    obtain ⟨p2, ws, rfl, h5, h6⟩ := h2
    refine ⟨p, p2, vs, ws, rfl, rfl, sf_sqL W'.s h3, sf_sqL W'.s h5, ?_, fun a ha => ?_⟩
    · rw [paired_len h4, paired_len h6]
      exact Nat.le_trans hz (by decide)
    · have l2 := le_put (o := .lst (vs ++ ws)) ha
      exact q _ (W'.put a _ ha) (A'.le l2) (l.trans l2.i) ⟨a, _, rfl, SqL.of upd_same, (xall_app h4 h6).ex l2.i⟩
theorem e_ixX (hK : Γ.K = K) (ha : Ev Γ ta δ μ (.xl os) μ1) (hb : Ev Γ tb δ μ1 (dI i) μ2) (h : atI os i = some o) : Ev Γ (tOp (rIxL K) ta tb) δ μ (xS o) μ2 := fun σ W A Q q =>
  e_two ha hb A fun v w W' A' l h1 h2 => by
    subst hK
    obtain ⟨p, vs, rfl, h3, h4⟩ := h1
    cases svI h2
    unfold atI at h
    cases e : ixN os.length i with
    | none => rw [e] at h; cases h
    | some j =>
      rw [e] at h
      obtain ⟨z, h5, h6⟩ := paired_get (j := j) h4 h
      refine ⟨p, vs, i, z, rfl, rfl, sf_sqL W'.s h3, ?_, q _ W' A' l (xok_sv.mpr h6)⟩
      unfold atI
      rw [paired_len h4, e]
      exact h5
/-- list(xs) of such a list, its values known -/
theorem e_listV {vs : List V} (hK : Γ.K = K) (h : Ev Γ te δ μ (.xv vs os) μ1) : Ev Γ (tCB (fun xs H Q => ∃ p ys, xs = [.ref p] ∧ (SqL K H p ys ∨ SqT K H p ys) ∧ ∀ l, H l = none → Q (.ref l) (upd H l (.lst ys))) (tCons te tNil)) δ μ (.xv vs os) μ1 := fun σ W A Q q =>
  (a_cons h a_nil) σ W A _ fun us W1 A1 l1 hs => by
    subst hK
    obtain ⟨v, rfl, h1⟩ := sv1 hs
    obtain ⟨p, rfl, h3, h4⟩ := h1
    refine ⟨p, vs, rfl, .inl (sf_sqL W1.s h3), fun a ha => ?_⟩
    have l2 := le_put (o := .lst vs) ha
    exact q _ (W1.put a _ ha) (A1.le l2) (l1.trans l2.i) ⟨a, rfl, SqL.of upd_same, h4.ex l2.i⟩
theorem e_neV {vs : List V} (hK : Γ.K = K) (ha : Ev Γ ta δ μ (.xv vs os) μ1) (hb : Ev Γ tb δ μ1 (.xv vs ps) μ2) : Ev Γ (tOp (rNeX K) ta tb) δ μ (dB false) μ2 := fun σ W A Q q =>
  e_two ha hb A fun v w W' A' l h1 h2 => by
    subst hK
    obtain ⟨p, rfl, h3, h4⟩ := h1
    obtain ⟨p2, rfl, h5, h6⟩ := h2
    exact ⟨p, p2, vs, rfl, rfl, sf_sqL W'.s h3, sf_sqL W'.s h5, plain_all h4, q _ W' A' l (.bl _)⟩
/-- a list in a slot: its values named -/
theorem x_letV {k : Nat} {u : TS} {D : Ends} (h : Ev Γ te δ μ (.xl os) μ1) (n : ∀ vs, Sx Γ u D (δ.set k (some (.xv vs os))) μ1) : Sx Γ (tSeq (tAsg te (gName k)) u) D δ μ := fun σ W A =>
  h σ W A _ fun v W1 A1 l1 h1 => by
    obtain ⟨p, vs, rfl, h3, h4⟩ := h1
    exact n vs _ W1 (A1.set k ⟨p, rfl, h3, h4⟩)
/-! ### the tuple ({}, 1) asked -/
theorem e_isi_raw (hK : Γ.K = K) (ha : Ev Γ ta δ μ .raw μ1) : Ev Γ (tCB (rIsi K) (tCons ta (tCons (tC (.ty "tuple")) tNil))) δ μ (dB true) μ1 :=
  e_cb (a_cons ha (a_cons e_raw a_nil)) fun σ W vs A hs Q q => by
    subst hK
    obtain ⟨v, w, rfl, h1, h2⟩ := sv2 hs
    cases h2
    obtain ⟨p, z, rfl, h3, h4⟩ := h1
    have ty : TyX Γ.K W.h (.ref p) (.type "tuple") := by
      rcases sf_sqT W.s h3 with (h5 | ⟨o, h5⟩) | ⟨o, its, n, h5, h6, _⟩
      · exact .base (.tup h5)
      · exact .fTuple h5
      · exact .kTuple h5 h6
    exact ⟨.ref p, .ty "tuple", _, _, _, rfl, .ty "tuple", ty, kit_isA "tuple" (by simp) (.tuple []), q _ W (LeX.refl _ W) (.bl _)⟩
theorem e_isi_raw0 (hK : Γ.K = K) (ha : Ev Γ ta δ μ .raw μ1) (hb : Ev Γ tb δ μ1 (dI 0) μ2) : Ev Γ (tCB (rIsi K) (tCons (tOp (rIxT K) ta tb) (tCons (tC (.ty "str")) tNil))) δ μ (dB false) μ2 := by
  have h0 : ∀ σ W, Ast Γ σ W δ μ → ∀ Q : VK, (∀ (p : Addr) W', Ast Γ σ W' δ μ2 → Same W.i W'.i → W'.h p = some (.dK []) → Q (.ref p) W'.h) → tOp (rIxT K) ta tb σ W.h Q := fun σ W A Q q =>
    e_two ha hb A fun v w W' A' l h1 h2 => by
      subst hK
      obtain ⟨p, z, rfl, h3, h4⟩ := h1
      cases svI h2
      exact ⟨p, _, 0, .ref z, rfl, rfl, sf_sqT W'.s h3, rfl, q z W' A' l (W'.s _ _ h4)⟩
  intro σ W A Q q
  refine h0 σ W A _ fun p W1 A1 l1 h1 => ?_
  exact ⟨.ref p, .ty "str", _, _, _, rfl, .ty "str", .base (.dK h1), kit_isA "str" (by simp) (.dict []), q _ W1 A1 l1 (.bl _)⟩
theorem e_eqEmptyD (hK : Γ.K = K) (ha : Ev Γ ta δ μ (dU ds) μ1) (hb : Ev Γ tb δ μ1 (dU []) μ2) : Ev Γ (tOp (rEqX K) ta tb) δ μ (dB (decide (ds = []))) μ2 := fun σ W A Q q =>
  e_two ha hb A fun v w W' A' l h1 h2 => by
    subst hK
    cases ds with
    | nil => exact .inl ⟨.tuple [], .tuple [], Dp.ex W'.s h1, Dp.ex W'.s h2, rfl, rfl, q _ W' A' l (.bl _)⟩
    | cons d r =>
      obtain ⟨p, vs, rfl, h3, h4⟩ := svU h1
      obtain ⟨p2, ws, rfl, h5, h6⟩ := svU h2
      cases h6
      refine .inr ⟨p, p2, vs, rfl, rfl, sf_sqT W'.s h3, sf_sqT W'.s h5, fun z => ?_, q _ W' A' l (.bl _)⟩
      have := h4.length
      rw [z] at this
      cases this
theorem e_eqEmptyR (hK : Γ.K = K) (ha : Ev Γ ta δ μ .raw μ1) (hb : Ev Γ tb δ μ1 (dU []) μ2) : Ev Γ (tOp (rEqX K) ta tb) δ μ (dB false) μ2 := fun σ W A Q q =>
  e_two ha hb A fun v w W' A' l h1 h2 => by
    subst hK
    obtain ⟨p, z, rfl, h3, h4⟩ := h1
    obtain ⟨p2, ws, rfl, h5, h6⟩ := svU h2
    cases h6
    exact .inr ⟨p, p2, _, rfl, rfl, sf_sqT W'.s h3, sf_sqT W'.s h5, (fun z => nomatch z), q _ W' A' l (.bl _)⟩
/-! ### walks and targets -/
theorem gh_X {W : Wd} {p : Addr} (h : SvOk K W.i (.ref p) (.xl os)) : ∃ ws, SqL K W.h p ws ∧ XAll K W.i ws os := by
  obtain ⟨p', ws, e, h5, h6⟩ := h
  cases e
  exact ⟨ws, sf_sqL W.s h5, h6⟩
theorem w_listX (hK : Γ.K = K) (h : Ev Γ te δ μ (.xl os) μ1) : EvW Γ (iList K te) δ μ (os.map xS) μ1 := fun σ W A R r =>
  h σ W A _ fun v W1 A1 l1 h1 => by
    subst hK
    obtain ⟨p, vs, rfl, h3, h4⟩ := id h1
    refine ⟨p, rfl, ⟨vs, sf_sqL W1.s h3⟩, r _ [(.ref p, .xl os)] W1 A1 l1 (gh_one h1) ⟨fun i W hi hg => ?_, fun W hg => ?_, fun i W x H' hi hg y => ?_⟩⟩
    all_goals obtain ⟨ws, h5, h6⟩ := gh_X (hg _ List.mem_cons_self)
    · have : i < ws.length := by rw [paired_len h6]; simpa using hi
      exact (walk_list (K := Γ.K) (a := p) (xs := ws)).goes i W.h this h5
    · have := (walk_list (K := Γ.K) (a := p) (xs := ws)).stops W.h h5
      rw [paired_len h6] at this
      simpa using this
    · have hlt : i < ws.length := by rw [paired_len h6]; simpa using hi
      obtain ⟨e3, e4⟩ := (walk_list (K := Γ.K) (a := p) (xs := ws)).yields i W.h x H' hlt h5 y
      obtain ⟨o, e6, e7⟩ := xall_get h6 e4
      exact ⟨W, xS o, e3.symm, LeX.refl _ W, by rw [List.getElem?_map, e6]; rfl, xok_sv.mpr e7⟩
def enumX (os : List (Option PD)) : List Sv := os.zipIdx.map fun p => .xt [some (.int (p.2 : Nat)), p.1]
theorem enumX_get {j : Nat} {o : Option PD} (h : os[j]? = some o) : (enumX os)[j]? = some (.xt [some (.int (j : Nat)), o]) := by
  simp [enumX, List.getElem?_zipIdx, h]
theorem enumX_len : (enumX os).length = os.length := by simp [enumX]
theorem w_enumX (hK : Γ.K = K) (h : Ev Γ te δ μ (.xl os) μ1) : EvW Γ (iEnum K (tCons te tNil)) δ μ (enumX os) μ1 := fun σ W A R r =>
  (a_cons h a_nil) σ W A _ fun vs W1 A1 l1 hs => by
    subst hK
    obtain ⟨v, rfl, h1⟩ := sv1 hs
    obtain ⟨p, vs, rfl, h3, h4⟩ := id h1
    refine ⟨p, vs, rfl, sf_sqL W1.s h3, r _ [(.ref p, .xl os)] W1 A1 l1 (gh_one h1) ⟨fun i W hi hg => ?_, fun W hg => ?_, fun i W x H' hi hg y => ?_⟩⟩
    all_goals obtain ⟨ws, h5, h6⟩ := gh_X (hg _ List.mem_cons_self)
    · have : i < ws.length := by rw [paired_len h6]; simpa [enumX_len] using hi
      exact (walk_enum (K := Γ.K) (a := p) (xs := ws)).goes i W.h this h5
    · have := (walk_enum (K := Γ.K) (a := p) (xs := ws)).stops W.h h5
      rw [paired_len h6] at this
      simpa [enumX_len] using this
    · have hlt : i < ws.length := by rw [paired_len h6]; simpa [enumX_len] using hi
      obtain ⟨T, a, b, e1, e2, e3, e4, e5⟩ := (walk_enum (K := Γ.K) (a := p) (xs := ws)).yields i W.h x H' hlt h5 y
      obtain ⟨o, e6, e7⟩ := xall_get h6 e5
      cases e4
      have l := le_put (o := .tup [.int (i : Nat), b]) e2
      exact ⟨W.put T _ e2, _, e3.symm, l, enumX_get e6, by
        rw [e1]
        exact ⟨T, _, rfl, SqT.of upd_same, .cons (Dp.int _) (.cons (e7.ex l.i) .nil)⟩⟩
theorem two_X {I : Hp} {vs : List V} {o p : Option PD} (h : XAll K I vs [o, p]) : ∃ v1 v2, vs = [v1, v2] ∧ SvOk K I v1 (xS o) ∧ SvOk K I v2 (xS p) := by
  cases h with
  | cons r1 t =>
    cases t with
    | cons r2 t =>
      cases t
      exact ⟨_, _, rfl, xok_sv.mpr r1, xok_sv.mpr r2⟩
theorem gs_two {σ : L2.St} {W : Wd} {v1 v2 : V} {s1 s2 : Sv} {j k : Nat} (A : Ast Γ σ W δ μ) (h1 : SvOk Γ.K W.i v1 s1) (h2 : SvOk Γ.K W.i v2 s2) {Q : L2.St → Hp → Prop} (q : ∀ σ', Ast Γ σ' W ((δ.set j (some s1)).set k (some s2)) μ → Q σ' W.h) : gCons (gName j) (gCons (gName k) gNil) [v1, v2] σ W.h Q := by
  have A2 := (A.set j h1).set k h2
  have q2 := q _ A2
  unfold gCons
  refine ⟨v1, [v2], rfl, ?_⟩
  unfold gName
  refine ⟨v2, [], rfl, ?_⟩
  unfold gNil
  exact ⟨rfl, q2⟩
theorem gt_tupX {j k : Nat} {o p : Option PD} (hK : Γ.K = K) : GT Γ (gTup K 2 (gCons (gName j) (gCons (gName k) gNil))) δ μ (.xt [o, p]) ((δ.set j (some (xS o))).set k (some (xS p))) := fun v σ W A h1 Q q => by
  subst hK
  obtain ⟨a, vs, rfl, h3, h4⟩ := h1
  obtain ⟨v1, v2, rfl, r1, r2⟩ := two_X h4
  exact ⟨a, [v1, v2], rfl, sf_sqT W.s h3, rfl, gs_two A r1 r2 q⟩
theorem gt_unlX {j k : Nat} {o p : Option PD} (hK : Γ.K = K) : GT Γ (gUnl K 2 (gCons (gName j) (gCons (gName k) gNil))) δ μ (.xl [o, p]) ((δ.set j (some (xS o))).set k (some (xS p))) := fun v σ W A h1 Q q => by
  subst hK
  obtain ⟨a, vs, rfl, h3, h4⟩ := h1
  obtain ⟨v1, v2, rfl, r1, r2⟩ := two_X h4
  exact ⟨a, [v1, v2], rfl, sf_sqL W.s h3, rfl, gs_two A r1 r2 q⟩
end
end Sf
namespace Sf
open PySem PySem.Spec PyProof.Rows L2
/-! ### a book is done again -/
inductive Run : FM → List Deed → List PD → FM → Prop
  | nil (M : FM) : Run M [] [] M
  | cons {M M1 M' : FM} {e : Deed} {es : List Deed} {d : PD} {ds : List PD} : Step M e d M1 → Run M1 es ds M' → Run M (e :: es) (d :: ds) M'
theorem Run.snoc {M1 M' : FM} {e : Deed} {d : PD} (s : Step M1 e d M') : ∀ {M : FM} {es : List Deed} {ds : List PD}, Run M es ds M1 → Run M (es ++ [e]) (ds ++ [d]) M'
  | _, [], _, .nil _ => .cons s (.nil _)
  | _, _ :: _, _, .cons h r => .cons h (Run.snoc s r)
theorem Run.len : ∀ {M M' : FM} {es : List Deed} {ds : List PD}, Run M es ds M' → es.length = ds.length
  | _, _, [], _, .nil _ => rfl
  | _, _, _ :: _, _, .cons _ r => congrArg (· + 1) r.len
theorem Run.cut : ∀ (n : Nat) {M M' : FM} {es : List Deed} {ds : List PD}, Run M es ds M' → ∃ M1, Run M (es.take n) (ds.take n) M1 ∧ Run M1 (es.drop n) (ds.drop n) M'
  | 0, M, _, es, ds, r => ⟨M, .nil M, r⟩
  | n + 1, M, _, [], _, .nil _ => ⟨M, .nil M, .nil M⟩
  | n + 1, _, _, _ :: _, _, .cons h r => let ⟨M1, h1, h2⟩ := Run.cut n r; ⟨M1, .cons h h1, h2⟩
theorem Run.at {M M' : FM} {es : List Deed} {ds : List PD} {i : Nat} (r : Run M (es.drop i) (ds.drop i) M') (hi : i < es.length) : ∃ e d M1, es[i]? = some e ∧ ds[i]? = some d ∧ Step M e d M1 ∧ Run M1 (es.drop (i + 1)) (ds.drop (i + 1)) M' := by
  rw [List.drop_eq_getElem_cons hi] at r
  generalize hq : ds.drop i = l at r
  cases r with
  | @cons _ M1 _ _ _ d ds' h t =>
    have h0 : ds[i]? = some d := by
      have := List.getElem?_drop (xs := ds) (i := i) (j := 0)
      rw [hq] at this
      exact this.symm
    have h1 : ds.drop (i + 1) = ds' := by
      rw [← List.drop_drop, hq]
      rfl
    rw [← h1] at t
    exact ⟨_, d, M1, List.getElem?_eq_getElem hi, h0, h, t⟩
theorem Run.done {M M' : FM} {es : List Deed} {ds : List PD} {i : Nat} (r : Run M (es.drop i) (ds.drop i) M') (hi : es.length ≤ i) : M = M' := by
  rw [List.drop_eq_nil_of_le hi] at r
  generalize ds.drop i = l at r
  cases r
  rfl
theorem lost_keep (M : FM) (p : Int) (w : Str) (x : Int) : (M.lost p w x).1.de = M.de ∧ (M.lost p w x).1.last = M.last :=
  FM.lose_keeps' (p := p) (w := w) (fun M' => M'.de = M.de ∧ M'.last = M.last) (fun M' k _ h _ _ _ => h) (fun M' k _ n h _ _ _ _ _ => h) _ M x ⟨rfl, rfl⟩
theorem step_de {M M' : FM} {e : Deed} {d : PD} (h : Step M e d M') : M'.de = M.de ++ [.tuple e.data] := by
  cases h with
  | counted p w n =>
    show ((M.tell w 0 0 (n - M.there p w)).lost p w (M.held p w - n)).1.de ++ _ = _
    rw [(lost_keep _ _ _ _).1]
    rfl
  | wish w n hf =>
    show (FM.beg w (M.parts w n) (M.note (.tuple [.str "wish", .str w, .int n]))).de = _
    rw [(FM.beg_same _ _).2.2]
    rfl
  | _ => rfl
theorem step_last {Pl : List Int} {Ws : List Str} {M M' : FM} {e : Deed} {d : PD} (hW : Wld Pl Ws) (hG : Good Pl Ws M) (h : Step M e d M') : M'.last ≤ M.last + (Pl.length + 1 : Nat) := by
  cases h with
  | counted p w n =>
    show ((M.tell w 0 0 (n - M.there p w)).lost p w (M.held p w - n)).1.last ≤ _
    rw [(lost_keep _ _ _ _).2]
    show M.last ≤ _
    omega
  | wish w n hf =>
    show (FM.beg w (M.parts w n) (M.note (.tuple [.str "wish", .str w, .int n]))).last ≤ _
    rw [FM.beg_last]
    show M.last + _ ≤ _
    have := hG.parts_len hW w n
    omega
  | hold p w n hf =>
    show M.last + 1 ≤ _
    omega
  | _ =>
    show M.last ≤ _
    omega
/-- a floor in the run, after n deeds -/
structure AtN (c0 c1 : Int) (n : Nat) (M : FM) : Prop where
  gd : Good (plL c1) (wrL c0) M
  sz : M.sz (8 * n)
  ls : M.last ≤ (8 * n : Nat)
theorem AtN.new {c0 c1 : Int} : AtN c0 c1 0 FM.new := ⟨Good.new, FM.sz_new, Int.le_refl _⟩
theorem AtN.step {c0 c1 : Int} {n : Nat} {M M' : FM} {e : Deed} {d : PD} (h : AtN c0 c1 n M) (ok : e.ok (plL c1) (wrL c0)) (s : Step M e d M') : AtN c0 c1 (n + 1) M' := by
  have hW := wld c0 c1
  refine ⟨h.gd.deed hW ok s, (deed_sz hW h.gd s h.sz).mono (by show 8 * n + (4 + 4) ≤ _; omega), ?_⟩
  have h1 := step_last hW h.gd s
  have h2 := h.ls
  have e4 : (plL c1).length = 4 := rfl
  rw [e4] at h1
  omega
/-- a book, what its deeds gave, the floor behind -/
structure Bk (c0 c1 : Int) (es : List Deed) (ds : List PD) (M : FM) : Prop where
  run : Run FM.new es ds M
  ok : ∀ e ∈ es, e.ok (plL c1) (wrL c0)
  at_ : AtN c0 c1 es.length M
  de : M.de = es.map fun e => PyData.tuple e.data
theorem Bk.new {c0 c1 : Int} : Bk c0 c1 [] [] FM.new := ⟨.nil _, fun _ h => (nomatch h), AtN.new, rfl⟩
theorem Bk.snoc {c0 c1 : Int} {es : List Deed} {ds : List PD} {M M' : FM} {e : Deed} {d : PD} (h : Bk c0 c1 es ds M) (ok : e.ok (plL c1) (wrL c0)) (s : Step M e d M') : Bk c0 c1 (es ++ [e]) (ds ++ [d]) M' := by
  refine ⟨h.run.snoc s, fun x hx => ?_, ?_, ?_⟩
  · rcases List.mem_append.mp hx with z | z
    · exact h.ok x z
    · rw [List.mem_singleton.mp z]; exact ok
  · rw [List.length_append]
    exact h.at_.step ok s
  · rw [step_de s, h.de, List.map_append]
    rfl
theorem run_at {c0 c1 : Int} : ∀ {es : List Deed} {ds : List PD} {n : Nat} {M M' : FM}, (∀ e ∈ es, e.ok (plL c1) (wrL c0)) → AtN c0 c1 n M → Run M es ds M' → AtN c0 c1 (n + es.length) M' ∧ M'.de = M.de ++ es.map fun e => PyData.tuple e.data
  | [], _, n, _, _, _, h, .nil _ => ⟨h, (List.append_nil _).symm⟩
  | e :: es, _, n, M, _, ok, h, .cons s r => by
    obtain ⟨h1, h2⟩ := run_at (fun x hx => ok x (List.mem_cons_of_mem _ hx)) (h.step (ok e List.mem_cons_self) s) r
    refine ⟨by rw [List.length_cons, show n + (es.length + 1) = n + 1 + es.length by omega]; exact h1, ?_⟩
    rw [h2, step_de s, List.append_assoc]
    rfl
theorem Bk.take {c0 c1 : Int} {es : List Deed} {ds : List PD} {M : FM} (h : Bk c0 c1 es ds M) (n : Nat) : ∃ M1, Bk c0 c1 (es.take n) (ds.take n) M1 := by
  obtain ⟨M1, r1, _⟩ := h.run.cut n
  have ok : ∀ e ∈ es.take n, e.ok (plL c1) (wrL c0) := fun e he => h.ok e (List.mem_of_mem_take he)
  obtain ⟨a1, a2⟩ := run_at ok AtN.new r1
  rw [Nat.zero_add] at a1
  exact ⟨M1, r1, ok, a1, a2⟩
abbrev dsB (es : List Deed) : List PD := es.map fun e => .tuple e.data
abbrev bkX (es : List Deed) : List (Option PD) := es.map fun e => some (.tuple e.data)
theorem dsB_x {es : List Deed} : (dsB es).map some = bkX es := by
  rw [List.map_map]
  rfl
/-! ### entries that are none, or that are refused -/
def entX : Option PD → Bool
  | some (.tuple (.str k :: r)) => decide (((wordAt k).map fun i => ((mk7 i).length + 1 : Int)).getD 0 = ((r.length + 1 : Nat) : Int))
  | _ => false
theorem wa_come : wordAt "come" = some 0 := by decide +kernel
theorem wa_go : wordAt "go" = some 1 := by decide +kernel
theorem wa_move : wordAt "move" = some 2 := by decide +kernel
theorem wa_hold : wordAt "hold" = some 3 := by decide +kernel
theorem wa_let : wordAt "let" = some 4 := by decide +kernel
theorem wa_take : wordAt "take" = some 5 := by decide +kernel
theorem wa_shift : wordAt "shift" = some 6 := by decide +kernel
theorem wa_counted : wordAt "counted" = some 7 := by decide +kernel
theorem wa_wish : wordAt "wish" = some 8 := by decide +kernel
theorem wa_fly : wordAt "fly" = none := by decide +kernel
theorem mk_len : (mk7 0).length = 3 ∧ (mk7 1).length = 3 ∧ (mk7 2).length = 4 ∧ (mk7 3).length = 3 ∧ (mk7 4).length = 1 ∧ (mk7 5).length = 1 ∧ (mk7 6).length = 2 ∧ (mk7 7).length = 3 ∧ (mk7 8).length = 2 := by decide +kernel
theorem ent_word {k : Str} {i : Nat} {r : List PD} (h : wordAt k = some i) (hl : (mk7 i).length = r.length) : entX (some (.tuple (.str k :: r))) = true := by
  show decide _ = true
  refine decide_eq_true ?_
  rw [h]
  show ((mk7 i).length : Int) + 1 = _
  omega
theorem ent_wordN {k : Str} {i : Nat} {r : List PD} (h : wordAt k = some i) (hl : (mk7 i).length ≠ r.length) : entX (some (.tuple (.str k :: r))) = false := by
  show decide _ = false
  refine decide_eq_false ?_
  rw [h]
  show ¬((mk7 i).length : Int) + 1 = _
  omega
theorem ent_deed (e : Deed) : entX (some (.tuple e.data)) = true := by
  obtain ⟨m0, m1, m2, m3, m4, m5, m6, m7, m8⟩ := mk_len
  cases e with
  | come p w n => exact ent_word wa_come m0
  | go p w n => exact ent_word wa_go m1
  | move p q w n => exact ent_word wa_move m2
  | hold p w n => exact ent_word wa_hold m3
  | let' k => exact ent_word wa_let m4
  | take k => exact ent_word wa_take m5
  | shift k q => exact ent_word wa_shift m6
  | counted p w n => exact ent_word wa_counted m7
  | wish w n => exact ent_word wa_wish m8
/-- an entry x at which a floor raises the class c, told as t -/
inductive Bad (w : Str) (M : FM) : Option PD → Str → Str → Prop
  | entry (x : Option PD) (h : entX x = false) : Bad w M x "NoEntry" "entry"
  | let9 (h : aget M.st (10 ^ 9) = none) : Bad w M (some (.tuple [.str "let", .int (10 ^ 9)])) "NoHold" "hold"
  | come4 : Bad w M (some (.tuple [.str "come", .int 10000, .str w, .int 1])) "BadPlace" "place"
  | wish7 : Bad w M (some (.tuple [.str "wish", .str (w ++ "7"), .int 1])) "BadWare" "ware"
  | shift9 (h : aget M.st (10 ^ 9) = none) : Bad w M (some (.tuple [.str "shift", .int (10 ^ 9), .int 3])) "NoHold" "hold"
  | go5 (h : ¬1 ≤ M.free 5 (w ++ "z")) : Bad w M (some (.tuple [.str "go", .int 5, .str (w ++ "z"), .int 1])) "TooFew" "few"
  | wishZ (h : free2 (M.rooms (w ++ "z")) < 2) : Bad w M (some (.tuple [.str "wish", .str (w ++ "z"), .int 2])) "TooFew" "few"
  | move3 : Bad w M (some (.tuple [.str "move", .int 3, .int 3, .str w, .int 1])) "SamePlace" "same"
  | come0 : Bad w M (some (.tuple [.str "come", .int 3, .str w, .int 0])) "BadMany" "many"
def noneL (w : Str) : List (Option PD) := [some .none, some (.str "come"), some (.tuple []), some (.tuple [.str "come"]), some (.tuple [.str "fly", .int 1]), some (.list [.str "let", .int 1]), some (.tuple [.str "come", .int 1, .str w]), some (.tuple [.str "wish", .str w, .int 1, .int 1]), some (.int 7),
  some (.tuple [.list [.int 1], .int 2]), none, some (.tuple [.tuple [.str "let"], .int 1]), some (.tuple [.none, .int 1])]
def someL (w : Str) : List (PD × Str) := [(.tuple [.str "let", .int (10 ^ 9)], "hold"), (.tuple [.str "come", .int 10000, .str w, .int 1], "place"), (.tuple [.str "wish", .str (w ++ "7"), .int 1], "ware"), (.tuple [.str "shift", .int (10 ^ 9), .int 3], "hold"), (.tuple [.str "go", .int 5, .str (w ++ "z"), .int 1], "few"),
  (.tuple [.str "wish", .str (w ++ "z"), .int 2], "few"), (.tuple [.str "move", .int 3, .int 3, .str w, .int 1], "same"), (.tuple [.str "come", .int 3, .str w, .int 0], "many")]
/-- the strange entry of a cell, and what is told of it -/
def strX (c : Int) (w : Str) : Option PD × Str := if c % 21 < 13 then ((noneL w).getD (c % 21).toNat none, "entry") else (((someL w).map fun e => (some e.1, e.2)).getD (c % 21 - 13).toNat (none, ""))
theorem noneL_no {w : Str} : ∀ x ∈ noneL w, entX x = false := by
  obtain ⟨m0, m1, m2, m3, m4, m5, m6, m7, m8⟩ := mk_len
  intro x hx
  simp only [noneL, List.mem_cons, List.not_mem_nil, or_false] at hx
  rcases hx with rfl | rfl | rfl | rfl | rfl | rfl | rfl | rfl | rfl | rfl | rfl | rfl | rfl
  · rfl
  · rfl
  · rfl
  · exact ent_wordN wa_come (by rw [m0]; simp)
  · show decide (((wordAt "fly").map fun i => ((mk7 i).length + 1 : Int)).getD 0 = ((1 + 1 : Nat) : Int)) = false
    rw [wa_fly]
    rfl
  · rfl
  · exact ent_wordN wa_come (by rw [m0]; simp)
  · exact ent_wordN wa_wish (by rw [m8]; simp)
  all_goals rfl
/-! a ware that is on no floor -/
theorem wz_tx (c : Int) : wr c 0 ++ "z" = tx (wBase c ++ [122]) := by
  show tx (wBase c) ++ tx [122] = _
  rw [tx_add]
theorem w7_tx (c : Int) : wr c 0 ++ "7" = tx (wBase c ++ [55]) := by
  show tx (wBase c) ++ tx [55] = _
  rw [tx_add]
theorem wz_ok (c : Int) : WareOk (wr c 0 ++ "z") := by
  have hb : 1 ≤ (wBase c).length ∧ (wBase c).length ≤ 19 := wareL_len1 (c % 494000)
  rw [wz_tx]
  refine ⟨by rw [tx_len, List.length_append]; omega, by rw [tx_len, List.length_append]; show _ + 1 ≤ 20; omega, ?_⟩
  rw [tx_cps]
  intro z hz
  rcases List.mem_append.mp hz with h | h
  · exact wBase_let c z h
  · cases List.mem_singleton.mp h
    exact ⟨by omega, by omega⟩
theorem w7_no (c : Int) : isWareB (.str (wr c 0 ++ "7")) = false := by
  rw [← Bool.not_eq_true]
  intro h
  obtain ⟨w, e, ho⟩ := isWareB_ok.mp h
  cases e
  have h3 := ho.2.2
  rw [w7_tx, tx_cps] at h3
  have := (h3 55 (List.mem_append_right _ List.mem_cons_self)).1
  omega
theorem w7_st (c : Int) : stOk (.str (wr c 0 ++ "7")) := fun s e => by
  have hb : 1 ≤ (wBase c).length ∧ (wBase c).length ≤ 19 := wareL_len1 (c % 494000)
  cases e
  rw [w7_tx, tx_len, List.length_append]
  show _ + 1 ≤ _
  omega
theorem wz_new (c : Int) : wr c 0 ++ "z" ∉ wrL c := by
  intro h
  have h2 : wr c 0 ++ "z" = tx (wBase c) ∨ wr c 0 ++ "z" = tx (wBase c ++ [97]) ∨ wr c 0 ++ "z" = tx (wThird c) := by
    simp only [wrL, List.mem_cons, List.not_mem_nil, or_false] at h
    exact h
  rw [wz_tx] at h2
  rcases h2 with h2 | h2 | h2
  · have := congrArg List.length (tx_inj.mp h2)
    simp at this
  · have := List.append_cancel_left (tx_inj.mp h2)
    cases this
  · have := congrArg List.length (tx_inj.mp h2)
    rw [wThird_len, List.length_append] at this
    simp at this
theorem new_free {Pl : List Int} {Ws : List Str} {M : FM} (h : Good Pl Ws M) {w : Str} (hw : w ∉ Ws) (p : Int) : M.free p w = 0 := by
  have h1 : M.there p w = 0 := by
    unfold FM.there
    rw [aget_none.mpr fun hm => ?_]
    · rfl
    · obtain ⟨e, he, q⟩ := List.mem_map.mp hm
      have := (h.amIn e he).2
      rw [q] at this
      exact hw this
  have h2 : M.held p w = 0 := by
    unfold FM.held
    rw [List.filter_eq_nil_iff.mpr fun e he hh => ?_]
    · rfl
    · have := (h.stIn e he).2
      simp only [Bool.and_eq_true, decide_eq_true_eq] at hh
      rw [hh.2] at this
      exact hw this
  unfold FM.free
  omega
theorem new_rooms {Pl : List Int} {Ws : List Str} {M : FM} (h : Good Pl Ws M) {w : Str} (hw : w ∉ Ws) : M.rooms w = [] := by
  have : M.places w = [] := by
    unfold FM.places
    rw [List.filter_eq_nil_iff.mpr fun e he hh => ?_]
    · exact (srt_eq (ns := []) (ms := []) (List.Perm.refl _) List.Pairwise.nil).symm
    · have := (h.amIn e he).2
      simp only [Bool.and_eq_true, decide_eq_true_eq] at hh
      rw [hh.1] at this
      exact hw this
  unfold FM.rooms
  rw [this]
  rfl
theorem strange_bad {c0 c1 : Int} {n : Nat} {M : FM} (h : AtN c0 c1 n M) (hn : n ≤ 1000) (c : Int) : ∃ cl, Bad (wr c0 0) M (strX c (wr c0 0)).1 cl (strX c (wr c0 0)).2 := by
  have h9 : aget M.st (10 ^ 9) = none := aget_none.mpr fun hm => by
    obtain ⟨e, he, q⟩ := List.mem_map.mp hm
    have h1 := (h.gd.kS e he).2
    have h2 := h.ls
    rw [q] at h1
    have h3 : (10 : Int) ^ 9 = 1000000000 := by decide
    rw [h3] at h1
    omega
  have hz := wz_new c0
  unfold strX
  split
  · rename_i hc
    refine ⟨"NoEntry", .entry _ (noneL_no (w := wr c0 0) _ ?_)⟩
    have hj : (c % 21).toNat < (noneL (wr c0 0)).length := by show _ < 13; omega
    show (noneL (wr c0 0)).getD _ none ∈ _
    rw [List.getD_eq_getElem?_getD, List.getElem?_eq_getElem hj]
    exact List.getElem_mem hj
  · rename_i hc
    have hcase : (c % 21 - 13).toNat = 0 ∨ (c % 21 - 13).toNat = 1 ∨ (c % 21 - 13).toNat = 2 ∨ (c % 21 - 13).toNat = 3 ∨ (c % 21 - 13).toNat = 4 ∨ (c % 21 - 13).toNat = 5 ∨ (c % 21 - 13).toNat = 6 ∨ (c % 21 - 13).toNat = 7 := by omega
    rcases hcase with e | e | e | e | e | e | e | e <;> rw [e]
    · exact ⟨_, .let9 h9⟩
    · exact ⟨_, .come4⟩
    · exact ⟨_, .wish7⟩
    · exact ⟨_, .shift9 h9⟩
    · exact ⟨_, .go5 (by rw [new_free h.gd hz]; decide)⟩
    · exact ⟨_, .wishZ (by rw [new_rooms h.gd hz]; decide)⟩
    · exact ⟨_, .move3⟩
    · exact ⟨_, .come0⟩
/-- the classes, and how they are told -/
inductive Cl13 : Str → Str → Prop
  | ware : Cl13 "BadWare" "ware"
  | place : Cl13 "BadPlace" "place"
  | many : Cl13 "BadMany" "many"
  | few : Cl13 "TooFew" "few"
  | same : Cl13 "SamePlace" "same"
  | hold : Cl13 "NoHold" "hold"
  | entry : Cl13 "NoEntry" "entry"
theorem Bad.cls {w : Str} {M : FM} {x : Option PD} {c t : Str} (h : Bad w M x c t) : Cl13 c t := by
  cases h <;> constructor
/-! ### what is seen of a floor -/
def seenW (M : FM) (c0 c1 : Int) (k : Nat) : List PD := ((plL c1).map fun p => PyData.tuple [.int (M.there p (wr c0 k)), .int (M.held p (wr c0 k))]) ++ [.tuple [.int (M.total (wr c0 k)).1, .int (M.total (wr c0 k)).2.1, .int (M.total (wr c0 k)).2.2, .int (M.whole (wr c0 k))]]
def seenT (M : FM) (c0 c1 : Int) (n : Nat) : List PD := ((List.range n).map (seenW M c0 c1)).flatten
def seenD (M : FM) (c0 c1 : Int) : List PD := seenT M c0 c1 3 ++ (M.numbers.map fun k => M.holding (.int k)) ++ M.numbers.map .int ++ M.de
/-- data made of None, whole numbers, writable texts, tuples of them -/
inductive Pln : Nat → PD → Prop
  | non {n : Nat} : Pln n .none
  | int {n : Nat} (i : Int) : Pln n (.int i)
  | str {n : Nat} {x : Str} (h : PyData.strOk x = true) : Pln n (.str x)
  | tup {n : Nat} {ds : List PD} (h : ∀ d ∈ ds, Pln n d) : Pln (n + 1) (.tuple ds)
theorem Pln.shp : ∀ {n : Nat} {d : PD}, Pln n d → Shp n d
  | _, _, .non => ⟨rfl, Nat.zero_le _⟩
  | _, _, .int _ => ⟨rfl, Nat.zero_le _⟩
  | _, _, .str h => (shp_str h).mono (Nat.zero_le _)
  | _, _, .tup h => shp_tup fun d hd => (h d hd).shp
theorem eqvAll_of : ∀ {ds : List PD}, (∀ d ∈ ds, PyData.eqv d d = true) → PyData.eqvAll ds ds = true
  | [], _ => by rw [PyData.eqvAll]
  | d :: r, h => by
    rw [PyData.eqvAll, h d List.mem_cons_self, eqvAll_of fun z hz => h z (List.mem_cons_of_mem _ hz)]
    rfl
theorem Pln.refl : ∀ {n : Nat} {d : PD}, Pln n d → PyData.eqv d d = true
  | _, _, .non => by rw [PyData.eqv]
  | _, _, .int i => eqv_refl_part (.inl ⟨i, rfl⟩)
  | _, _, .str h => eqv_refl_part (.inr ⟨_, rfl⟩)
  | _, _, .tup h => by
    rw [PyData.eqv]
    exact eqvAll_of fun d hd => (h d hd).refl
theorem deed_pln {c0 c1 : Int} {e : Deed} (h : e.ok (plL c1) (wrL c0)) : Pln 1 (.tuple e.data) := by
  have hs := (wld c0 c1).st
  refine .tup fun d hd => ?_
  cases e <;> simp only [Deed.data, List.mem_cons, List.not_mem_nil, or_false] at hd
  case come => rcases hd with rfl | rfl | rfl | rfl <;> first | exact .int _ | exact .str (by decide +kernel) | exact .str (hs _ h.2.1)
  case go => rcases hd with rfl | rfl | rfl | rfl <;> first | exact .int _ | exact .str (by decide +kernel) | exact .str (hs _ h.2.1)
  case move => rcases hd with rfl | rfl | rfl | rfl | rfl <;> first | exact .int _ | exact .str (by decide +kernel) | exact .str (hs _ h.2.2.1)
  case hold => rcases hd with rfl | rfl | rfl | rfl <;> first | exact .int _ | exact .str (by decide +kernel) | exact .str (hs _ h.2.1)
  case let' => rcases hd with rfl | rfl <;> first | exact .int _ | exact .str (by decide +kernel)
  case take => rcases hd with rfl | rfl <;> first | exact .int _ | exact .str (by decide +kernel)
  case shift => rcases hd with rfl | rfl | rfl <;> first | exact .int _ | exact .str (by decide +kernel)
  case counted => rcases hd with rfl | rfl | rfl | rfl <;> first | exact .int _ | exact .str (by decide +kernel) | exact .str (hs _ h.2.1)
  case wish => rcases hd with rfl | rfl | rfl <;> first | exact .int _ | exact .str (by decide +kernel) | exact .str (hs _ h.1)
theorem Bk.pln {c0 c1 : Int} {es : List Deed} {ds : List PD} {M : FM} (h : Bk c0 c1 es ds M) : ∀ d ∈ dsB es, Pln 1 d := fun d hd => by
  obtain ⟨e, he, rfl⟩ := List.mem_map.mp hd
  exact deed_pln (h.ok e he)
theorem seen_pln {c0 c1 : Int} {es : List Deed} {ds : List PD} {M : FM} (h : Bk c0 c1 es ds M) : ∀ d ∈ seenD M c0 c1, Pln 1 d := fun d hd => by
  unfold seenD at hd
  rcases List.mem_append.mp hd with hd | hd
  · rcases List.mem_append.mp hd with hd | hd
    · rcases List.mem_append.mp hd with hd | hd
      · unfold seenT at hd
        obtain ⟨l, hl, hd⟩ := List.mem_flatten.mp hd
        obtain ⟨k, _, rfl⟩ := List.mem_map.mp hl
        unfold seenW at hd
        rcases List.mem_append.mp hd with hd | hd
        · obtain ⟨p, _, rfl⟩ := List.mem_map.mp hd
          refine .tup fun d hd => ?_
          simp only [List.mem_cons, List.not_mem_nil, or_false] at hd
          rcases hd with rfl | rfl <;> exact .int _
        · rw [List.mem_singleton.mp hd]
          refine .tup fun d hd => ?_
          simp only [List.mem_cons, List.not_mem_nil, or_false] at hd
          rcases hd with rfl | rfl | rfl | rfl <;> exact .int _
      · obtain ⟨k, _, rfl⟩ := List.mem_map.mp hd
        cases hg : aget M.st k with
        | none =>
          rw [FM.holding_none hg]
          exact .non
        | some g =>
          rw [FM.holding_some hg]
          have hw := (wld c0 c1).st _ (h.at_.gd.stIn _ (aget_mem hg)).2
          refine .tup fun d hd => ?_
          simp only [List.mem_cons, List.not_mem_nil, or_false] at hd
          rcases hd with rfl | rfl | rfl
          · exact .int _
          · exact .str hw
          · exact .int _
    · obtain ⟨k, _, rfl⟩ := List.mem_map.mp hd
      exact .int _
  · rw [h.de] at hd
    exact h.pln d hd
end Sf
namespace Sf
open PySem PySem.Spec PyProof.Rows L2
theorem pln_list {n : Nat} {ds : List PD} (h : ∀ d ∈ ds, Pln n d) (hn : n + 1 ≤ 64) : SeqAt.shaped (.list ds) = true ∧ PyData.eqv (.list ds) (.list ds) = true := by
  refine ⟨(shp_list fun d hd => (h d hd).shp).ok hn, ?_⟩
  rw [PyData.eqv]
  exact eqvAll_of fun d hd => (h d hd).refl
/-- what a deed gives is equal to itself -/
theorem step_res {M M' : FM} {e : Deed} {d : PD} (h : Step M e d M') : SeqAt.shaped d = true ∧ PyData.eqv d d = true := by
  cases h with
  | hold p w n hf => exact ⟨rfl, (Pln.int (n := 0) _).refl⟩
  | counted p w n =>
    refine pln_list (n := 1) (fun d hd => ?_) (by decide)
    obtain ⟨e, _, rfl⟩ := List.mem_map.mp hd
    refine .tup fun d hd => ?_
    simp only [List.mem_cons, List.not_mem_nil, or_false] at hd
    rcases hd with rfl | rfl <;> exact .int _
  | wish w n hf =>
    refine pln_list (n := 0) (fun d hd => ?_) (by decide)
    obtain ⟨e, _, rfl⟩ := List.mem_map.mp hd
    exact .int _
  | _ => exact ⟨rfl, (Pln.non (n := 0)).refl⟩
def hd13 : Deed → Str
  | .come _ _ _ => "come"
  | .go _ _ _ => "go"
  | .move _ _ _ _ => "move"
  | .hold _ _ _ => "hold"
  | .let' _ => "let"
  | .take _ => "take"
  | .shift _ _ => "shift"
  | .counted _ _ _ => "counted"
  | .wish _ _ => "wish"
theorem hd13_at (e : Deed) : atI e.data 0 = some (.str (hd13 e)) := by
  cases e <;> rfl
theorem told_shp {M M' : FM} {e : Deed} {d : PD} (h : Step M e d M') : SeqAt.shaped (.list [d]) = true := by
  have key : ∀ n, Shp n d → n + 1 ≤ 64 → SeqAt.shaped (.list [d]) = true := fun n hn h1 => (shp_list (n := n) fun z hz => by rw [List.mem_singleton.mp hz]; exact hn).ok h1
  cases h with
  | hold p w n hf => exact key 0 shp_int (by decide)
  | counted p w n => exact key 2 (shp_list fun z hz => by
      obtain ⟨e, _, rfl⟩ := List.mem_map.mp hz
      exact prD_shp e) (by decide)
  | wish w n hf => exact key 1 shp_ints (by decide)
  | _ => exact key 0 shp_none (by decide)
theorem told_ne {d : PD} : PyData.eqv (.list [d]) (.list []) = false := by
  rw [PyData.eqv, PyData.eqvAll]
  all_goals simp
theorem nil_eq : PyData.eqv (.list []) (.list []) = true := by
  rw [PyData.eqv, PyData.eqvAll]
/-! ### a long book -/
def mE (c0 c1 : Int) (i : Nat) : Deed := .come (pl c1 (i % 4)) (wr c0 (i % 3)) (1 + (i : Int))
def moreM (c0 c1 : Int) (M : FM) (n : Nat) : FM := (List.range n).foldl (fun M i => M.come (pl c1 (i % 4)) (wr c0 (i % 3)) (1 + (i : Int))) M
theorem moreM_succ (c0 c1 : Int) (M : FM) (n : Nat) : moreM c0 c1 M (n + 1) = (moreM c0 c1 M n).come (pl c1 (n % 4)) (wr c0 (n % 3)) (1 + (n : Int)) := by
  unfold moreM
  rw [List.range_succ, List.foldl_append]
  rfl
def mEs (c0 c1 : Int) (n : Nat) : List Deed := (List.range n).map (mE c0 c1)
theorem mEs_succ (c0 c1 : Int) (n : Nat) : mEs c0 c1 (n + 1) = mEs c0 c1 n ++ [mE c0 c1 n] := by
  unfold mEs
  rw [List.range_succ, List.map_append]
  rfl
theorem mEs_len (c0 c1 : Int) (n : Nat) : (mEs c0 c1 n).length = n := by simp [mEs]
theorem Bk.more {c0 c1 : Int} {es : List Deed} {ds : List PD} {M : FM} (h : Bk c0 c1 es ds M) : ∀ n, n ≤ 1000 → Bk c0 c1 (es ++ mEs c0 c1 n) (ds ++ List.replicate n .none) (moreM c0 c1 M n)
  | 0, _ => by
    show Bk c0 c1 (es ++ []) (ds ++ []) M
    rw [List.append_nil, List.append_nil]
    exact h
  | n + 1, hn => by
    have ih := Bk.more h n (by omega)
    rw [mEs_succ, moreM_succ, List.replicate_succ', ← List.append_assoc, ← List.append_assoc]
    refine ih.snoc ⟨List.mem_of_getElem? (plL_get (by omega)), wrL_mem (by omega), by omega, ?_⟩ (.come _ _ _)
    have h3 : (1001 : Int) ≤ 10 ^ 30 := by decide
    omega
def moreN (c : Int) : Nat := if c / 252 % 3 = 2 then (c / 756 % 200).toNat else 0
theorem moreN_le (c : Int) : moreN c ≤ 200 := by
  unfold moreN
  split
  · omega
  · omega
/-! ### come, hold, hold -/
theorem free_come (M : FM) (p n : Int) (w : Str) : (M.come p w n).free p w = M.free p w + n := by
  have h1 : (M.come p w n).there p w = M.there p w + n := by
    show (aget (aput M.am (p, w) (M.there p w + n)) (p, w)).getD 0 = _
    rw [aget_put, if_pos rfl]
    rfl
  show (M.come p w n).there p w - M.held p w = M.there p w - M.held p w + n
  rw [h1]
  omega
theorem free_hold {Pl : List Int} {Ws : List Str} {M : FM} (h : Good Pl Ws M) (p n : Int) (w : Str) : (M.hold p w n).free p w = M.free p w - n := by
  have h1 : (M.hold p w n).held p w = M.held p w + n := by
    have := FM.held_begun (M := M.note (.tuple [.str "hold", .int p, .str w, .int n])) (p := p) (p0 := p) (n := n) (w := w) (w0 := w) h.ndS h.fresh
    rw [if_pos ⟨rfl, rfl⟩] at this
    exact this
  show M.there p w - (M.hold p w n).held p w = M.there p w - M.held p w - n
  rw [h1]
  omega
def nextM (M : FM) (p : Int) (w : Str) : FM := ((M.come p w 2).hold p w 1).hold p w 1
theorem next_ok {c0 c1 : Int} {n : Nat} {M : FM} (h : AtN c0 c1 n M) : Step M (.come (pl c1 0) (wr c0 0) 2) .none (M.come (pl c1 0) (wr c0 0) 2) ∧ AtN c0 c1 (n + 1) (M.come (pl c1 0) (wr c0 0) 2) ∧ 1 ≤ (M.come (pl c1 0) (wr c0 0) 2).free (pl c1 0) (wr c0 0) ∧
    AtN c0 c1 (n + 2) ((M.come (pl c1 0) (wr c0 0) 2).hold (pl c1 0) (wr c0 0) 1) ∧ 1 ≤ ((M.come (pl c1 0) (wr c0 0) 2).hold (pl c1 0) (wr c0 0) 1).free (pl c1 0) (wr c0 0) := by
  have hp : pl c1 0 ∈ plL c1 := List.mem_of_getElem? (plL_get (by decide))
  have hw : wr c0 0 ∈ wrL c0 := wrL_mem (by decide)
  have b30 : (2 : Int) ≤ 10 ^ 30 := by decide
  have a1 := h.step (e := .come (pl c1 0) (wr c0 0) 2) ⟨hp, hw, by decide, b30⟩ (.come _ _ _)
  have f0 := h.gd.free0 (pl c1 0) (wr c0 0)
  have f1 := free_come M (pl c1 0) 2 (wr c0 0)
  have l1 : 1 ≤ (M.come (pl c1 0) (wr c0 0) 2).free (pl c1 0) (wr c0 0) := by omega
  have f2 := free_hold a1.gd (pl c1 0) 1 (wr c0 0)
  exact ⟨.come _ _ _, a1, l1, a1.step (e := .hold (pl c1 0) (wr c0 0) 1) ⟨hp, hw, by decide, by omega⟩ (.hold _ _ _ l1), by omega⟩
/-! ### a spoilt book -/
def spoilt (es : List Deed) (n : Nat) (x y : Option PD) : List (Option PD) := bkX (es.take n) ++ x :: (bkX (es.drop n) ++ [y])
theorem spoilt_eq {es : List Deed} {n : Nat} {x y : Option PD} : (((dsB es).take n).map some ++ [x] ++ ((dsB es).drop n).map some) ++ [y] = spoilt es n x y := by
  unfold spoilt
  rw [← List.map_take, ← List.map_drop, dsB_x, dsB_x, List.append_assoc, List.append_assoc]
  rfl
end Sf
namespace Sf
open PySem PySem.Spec PyProof.Rows L2
/-! ### the text by places -/
def top (i : Nat) : Stmt := PySem.Challenge.pw_stockfloor_k13_whole_books.main.body.getD i (.Pass ⟨0, 0, 0, 0⟩)
abbrev s_is_whole : Stmt := top 12
def d_is_whole : He.DefD := ⟨("is_whole", none), "is_whole", "is_whole", defArgs s_is_whole, defBody s_is_whole, defScope s_is_whole, [], []⟩
abbrev s_is_ware : Stmt := top 13
def d_is_ware : He.DefD := ⟨("is_ware", none), "is_ware", "is_ware", defArgs s_is_ware, defBody s_is_ware, defScope s_is_ware, [], []⟩
abbrev s_need_ware : Stmt := top 14
def d_need_ware : He.DefD := ⟨("need_ware", none), "need_ware", "need_ware", defArgs s_need_ware, defBody s_need_ware, defScope s_need_ware, [], []⟩
abbrev s_need_place : Stmt := top 15
def d_need_place : He.DefD := ⟨("need_place", none), "need_place", "need_place", defArgs s_need_place, defBody s_need_place, defScope s_need_place, [], []⟩
abbrev s_need_many : Stmt := top 16
def d_need_many : He.DefD := ⟨("need_many", none), "need_many", "need_many", defArgs s_need_many, defBody s_need_many, defScope s_need_many, [], []⟩
abbrev s_rank : Stmt := top 18
def d_rank : He.DefD := ⟨("rank", none), "rank", "rank", defArgs s_rank, defBody s_rank, defScope s_rank, [], []⟩
abbrev s_dealt : Stmt := top 19
def d_dealt : He.DefD := ⟨("dealt", none), "dealt", "dealt", defArgs s_dealt, defBody s_dealt, defScope s_dealt, [], []⟩
abbrev s_Floor___init__ : Stmt := inClass (top 21) 0
def d_Floor___init__ : He.DefD := ⟨("Floor", some "__init__"), "__init__", "Floor.__init__", defArgs s_Floor___init__, defBody s_Floor___init__, defScope s_Floor___init__, [], []⟩
abbrev s_Floor_there : Stmt := inClass (top 21) 1
def d_Floor_there : He.DefD := ⟨("Floor", some "there"), "there", "Floor.there", defArgs s_Floor_there, defBody s_Floor_there, defScope s_Floor_there, [], []⟩
abbrev s_Floor_held : Stmt := inClass (top 21) 2
def d_Floor_held : He.DefD := ⟨("Floor", some "held"), "held", "Floor.held", defArgs s_Floor_held, defBody s_Floor_held, defScope s_Floor_held, [], []⟩
abbrev s_Floor_free : Stmt := inClass (top 21) 3
def d_Floor_free : He.DefD := ⟨("Floor", some "free"), "free", "Floor.free", defArgs s_Floor_free, defBody s_Floor_free, defScope s_Floor_free, [], []⟩
abbrev s_Floor_whole : Stmt := inClass (top 21) 4
def d_Floor_whole : He.DefD := ⟨("Floor", some "whole"), "whole", "Floor.whole", defArgs s_Floor_whole, defBody s_Floor_whole, defScope s_Floor_whole, [], []⟩
abbrev s_Floor_total : Stmt := inClass (top 21) 5
def d_Floor_total : He.DefD := ⟨("Floor", some "total"), "total", "Floor.total", defArgs s_Floor_total, defBody s_Floor_total, defScope s_Floor_total, [], []⟩
abbrev s_Floor_came : Stmt := inClass (top 21) 6
def d_Floor_came : He.DefD := ⟨("Floor", some "came"), "came", "Floor.came", defArgs s_Floor_came, defBody s_Floor_came, defScope s_Floor_came, [], []⟩
abbrev s_Floor_went : Stmt := inClass (top 21) 7
def d_Floor_went : He.DefD := ⟨("Floor", some "went"), "went", "Floor.went", defArgs s_Floor_went, defBody s_Floor_went, defScope s_Floor_went, [], []⟩
abbrev s_Floor_righted : Stmt := inClass (top 21) 8
def d_Floor_righted : He.DefD := ⟨("Floor", some "righted"), "righted", "Floor.righted", defArgs s_Floor_righted, defBody s_Floor_righted, defScope s_Floor_righted, [], []⟩
abbrev s_Floor_places : Stmt := inClass (top 21) 9
def d_Floor_places : He.DefD := ⟨("Floor", some "places"), "places", "Floor.places", defArgs s_Floor_places, defBody s_Floor_places, defScope s_Floor_places, [], []⟩
abbrev s_Floor_numbers : Stmt := inClass (top 21) 10
def d_Floor_numbers : He.DefD := ⟨("Floor", some "numbers"), "numbers", "Floor.numbers", defArgs s_Floor_numbers, defBody s_Floor_numbers, defScope s_Floor_numbers, [], []⟩
abbrev s_Floor_holding : Stmt := inClass (top 21) 11
def d_Floor_holding : He.DefD := ⟨("Floor", some "holding"), "holding", "Floor.holding", defArgs s_Floor_holding, defBody s_Floor_holding, defScope s_Floor_holding, [], []⟩
abbrev s_Floor_book : Stmt := inClass (top 21) 12
def d_Floor_book : He.DefD := ⟨("Floor", some "book"), "book", "Floor.book", defArgs s_Floor_book, defBody s_Floor_book, defScope s_Floor_book, [], []⟩
abbrev s_Floor_change : Stmt := inClass (top 21) 13
def d_Floor_change : He.DefD := ⟨("Floor", some "change"), "change", "Floor.change", defArgs s_Floor_change, defBody s_Floor_change, defScope s_Floor_change, [], []⟩
abbrev s_Floor_tell : Stmt := inClass (top 21) 14
def d_Floor_tell : He.DefD := ⟨("Floor", some "tell"), "tell", "Floor.tell", defArgs s_Floor_tell, defBody s_Floor_tell, defScope s_Floor_tell, [], []⟩
abbrev s_Floor_need_hold : Stmt := inClass (top 21) 15
def d_Floor_need_hold : He.DefD := ⟨("Floor", some "need_hold"), "need_hold", "Floor.need_hold", defArgs s_Floor_need_hold, defBody s_Floor_need_hold, defScope s_Floor_need_hold, [], []⟩
abbrev s_Floor_need_free : Stmt := inClass (top 21) 16
def d_Floor_need_free : He.DefD := ⟨("Floor", some "need_free"), "need_free", "Floor.need_free", defArgs s_Floor_need_free, defBody s_Floor_need_free, defScope s_Floor_need_free, [], []⟩
abbrev s_Floor_begun : Stmt := inClass (top 21) 17
def d_Floor_begun : He.DefD := ⟨("Floor", some "begun"), "begun", "Floor.begun", defArgs s_Floor_begun, defBody s_Floor_begun, defScope s_Floor_begun, [], []⟩
abbrev s_Floor_ended : Stmt := inClass (top 21) 18
def d_Floor_ended : He.DefD := ⟨("Floor", some "ended"), "ended", "Floor.ended", defArgs s_Floor_ended, defBody s_Floor_ended, defScope s_Floor_ended, [], []⟩
abbrev s_Floor_come : Stmt := inClass (top 21) 19
def d_Floor_come : He.DefD := ⟨("Floor", some "come"), "come", "Floor.come", defArgs s_Floor_come, defBody s_Floor_come, defScope s_Floor_come, [], []⟩
abbrev s_Floor_go : Stmt := inClass (top 21) 20
def d_Floor_go : He.DefD := ⟨("Floor", some "go"), "go", "Floor.go", defArgs s_Floor_go, defBody s_Floor_go, defScope s_Floor_go, [], []⟩
abbrev s_Floor_move : Stmt := inClass (top 21) 21
def d_Floor_move : He.DefD := ⟨("Floor", some "move"), "move", "Floor.move", defArgs s_Floor_move, defBody s_Floor_move, defScope s_Floor_move, [], []⟩
abbrev s_Floor_hold : Stmt := inClass (top 21) 22
def d_Floor_hold : He.DefD := ⟨("Floor", some "hold"), "hold", "Floor.hold", defArgs s_Floor_hold, defBody s_Floor_hold, defScope s_Floor_hold, [], []⟩
abbrev s_Floor_let : Stmt := inClass (top 21) 23
def d_Floor_let : He.DefD := ⟨("Floor", some "let"), "let", "Floor.let", defArgs s_Floor_let, defBody s_Floor_let, defScope s_Floor_let, [], []⟩
abbrev s_Floor_take : Stmt := inClass (top 21) 24
def d_Floor_take : He.DefD := ⟨("Floor", some "take"), "take", "Floor.take", defArgs s_Floor_take, defBody s_Floor_take, defScope s_Floor_take, [], []⟩
abbrev s_Floor_shift : Stmt := inClass (top 21) 25
def d_Floor_shift : He.DefD := ⟨("Floor", some "shift"), "shift", "Floor.shift", defArgs s_Floor_shift, defBody s_Floor_shift, defScope s_Floor_shift, [], []⟩
abbrev s_Floor_lost : Stmt := inClass (top 21) 26
def d_Floor_lost : He.DefD := ⟨("Floor", some "lost"), "lost", "Floor.lost", defArgs s_Floor_lost, defBody s_Floor_lost, defScope s_Floor_lost, [], []⟩
abbrev s_Floor_counted : Stmt := inClass (top 21) 27
def d_Floor_counted : He.DefD := ⟨("Floor", some "counted"), "counted", "Floor.counted", defArgs s_Floor_counted, defBody s_Floor_counted, defScope s_Floor_counted, [], []⟩
abbrev s_Floor_wish : Stmt := inClass (top 21) 28
def d_Floor_wish : He.DefD := ⟨("Floor", some "wish"), "wish", "Floor.wish", defArgs s_Floor_wish, defBody s_Floor_wish, defScope s_Floor_wish, [], []⟩
abbrev s_need_entry : Stmt := top 24
def d_need_entry : He.DefD := ⟨("need_entry", none), "need_entry", "need_entry", defArgs s_need_entry, defBody s_need_entry, defScope s_need_entry, [], []⟩
abbrev s_done : Stmt := top 25
def d_done : He.DefD := ⟨("done", none), "done", "done", defArgs s_done, defBody s_done, defScope s_done, [], []⟩
abbrev s_replayed : Stmt := top 26
def d_replayed : He.DefD := ⟨("replayed", none), "replayed", "replayed", defArgs s_replayed, defBody s_replayed, defScope s_replayed, [], []⟩
abbrev s_fault : Stmt := top 27
def d_fault : He.DefD := ⟨("fault", none), "fault", "fault", defArgs s_fault, defBody s_fault, defScope s_fault, [], []⟩
abbrev s__law_whole : Stmt := top 29
def d__law_whole : He.DefD := ⟨("_law_whole", none), "_law_whole", "_law_whole", defArgs s__law_whole, defBody s__law_whole, defScope s__law_whole, [], []⟩
abbrev s__law_cell_at : Stmt := top 30
def d__law_cell_at : He.DefD := ⟨("_law_cell_at", none), "_law_cell_at", "_law_cell_at", defArgs s__law_cell_at, defBody s__law_cell_at, defScope s__law_cell_at, [], []⟩
abbrev s__law_ware_by : Stmt := top 31
def d__law_ware_by : He.DefD := ⟨("_law_ware_by", none), "_law_ware_by", "_law_ware_by", defArgs s__law_ware_by, defBody s__law_ware_by, defScope s__law_ware_by, [], []⟩
abbrev s__law_wares : Stmt := top 32
def d__law_wares : He.DefD := ⟨("_law_wares", none), "_law_wares", "_law_wares", defArgs s__law_wares, defBody s__law_wares, defScope s__law_wares, [], []⟩
abbrev s__law_places : Stmt := top 33
def d__law_places : He.DefD := ⟨("_law_places", none), "_law_places", "_law_places", defArgs s__law_places, defBody s__law_places, defScope s__law_places, [], []⟩
abbrev s__law_entry_by : Stmt := top 34
def d__law_entry_by : He.DefD := ⟨("_law_entry_by", none), "_law_entry_by", "_law_entry_by", defArgs s__law_entry_by, defBody s__law_entry_by, defScope s__law_entry_by, [], []⟩
abbrev s__law_do : Stmt := top 35
def d__law_do : He.DefD := ⟨("_law_do", none), "_law_do", "_law_do", defArgs s__law_do, defBody s__law_do, defScope s__law_do, [], []⟩
abbrev s__law_scale : Stmt := top 36
def d__law_scale : He.DefD := ⟨("_law_scale", none), "_law_scale", "_law_scale", defArgs s__law_scale, defBody s__law_scale, defScope s__law_scale, [], []⟩
abbrev s__law_tried : Stmt := top 37
def d__law_tried : He.DefD := ⟨("_law_tried", none), "_law_tried", "_law_tried", defArgs s__law_tried, defBody s__law_tried, defScope s__law_tried, [], []⟩
abbrev s__law_seen : Stmt := top 38
def d__law_seen : He.DefD := ⟨("_law_seen", none), "_law_seen", "_law_seen", defArgs s__law_seen, defBody s__law_seen, defScope s__law_seen, [], []⟩
abbrev s__law_strange : Stmt := top 39
def d__law_strange : He.DefD := ⟨("_law_strange", none), "_law_strange", "_law_strange", defArgs s__law_strange, defBody s__law_strange, defScope s__law_strange, [], []⟩
abbrev s__law_names : Stmt := top 40
def d__law_names : He.DefD := ⟨("_law_names", none), "_law_names", "_law_names", defArgs s__law_names, defBody s__law_names, defScope s__law_names, [], []⟩
abbrev s__law_refused : Stmt := top 41
def d__law_refused : He.DefD := ⟨("_law_refused", none), "_law_refused", "_law_refused", defArgs s__law_refused, defBody s__law_refused, defScope s__law_refused, [], []⟩
abbrev s__law_done_alone : Stmt := top 42
def d__law_done_alone : He.DefD := ⟨("_law_done_alone", none), "_law_done_alone", "_law_done_alone", defArgs s__law_done_alone, defBody s__law_done_alone, defScope s__law_done_alone, [], []⟩
abbrev s__law_next : Stmt := top 43
def d__law_next : He.DefD := ⟨("_law_next", none), "_law_next", "_law_next", defArgs s__law_next, defBody s__law_next, defScope s__law_next, [], []⟩
abbrev s__law_same_again : Stmt := top 44
def d__law_same_again : He.DefD := ⟨("_law_same_again", none), "_law_same_again", "_law_same_again", defArgs s__law_same_again, defBody s__law_same_again, defScope s__law_same_again, [], []⟩
abbrev s__law_entered : Stmt := top 45
def d__law_entered : He.DefD := ⟨("_law_entered", none), "_law_entered", "_law_entered", defArgs s__law_entered, defBody s__law_entered, defScope s__law_entered, [], []⟩
abbrev s__law_more : Stmt := top 46
def d__law_more : He.DefD := ⟨("_law_more", none), "_law_more", "_law_more", defArgs s__law_more, defBody s__law_more, defScope s__law_more, [], []⟩
abbrev s_law : Stmt := top 47
def d_law : He.DefD := ⟨("law", none), "law", "law", defArgs s_law, defBody s_law, defScope s_law, [], []⟩
def fn_0 : List He.DefD := [d_is_whole, d_is_ware, d_need_ware, d_need_place, d_need_many, d_rank, d_dealt, d_Floor___init__, d_Floor_there, d_Floor_held, d_Floor_free, d_Floor_whole, d_Floor_total, d_Floor_came, d_Floor_went, d_Floor_righted, d_Floor_places, d_Floor_numbers, d_Floor_holding, d_Floor_book, d_Floor_change, d_Floor_tell, d_Floor_need_hold, d_Floor_need_free, d_Floor_begun, d_Floor_ended, d_Floor_come, d_Floor_go, d_Floor_move, d_Floor_hold]
def fn_1 : List He.DefD := [d_Floor_let, d_Floor_take, d_Floor_shift, d_Floor_lost, d_Floor_counted, d_Floor_wish, d_need_entry, d_done, d_replayed, d_fault, d__law_whole, d__law_cell_at, d__law_ware_by, d__law_wares, d__law_places, d__law_entry_by, d__law_do, d__law_scale, d__law_tried, d__law_seen, d__law_strange, d__law_names, d__law_refused, d__law_done_alone, d__law_next, d__law_same_again, d__law_entered, d__law_more, d_law]
def fn : List He.DefD := fn_0 ++ fn_1
def fa_0 : List He.Fa := [.glo "StockError", .exc "StockError", .glo "BadWare", .exc "BadWare", .glo "BadPlace", .exc "BadPlace", .glo "BadMany", .exc "BadMany", .glo "TooFew", .exc "TooFew", .glo "SamePlace", .exc "SamePlace", .glo "NoHold", .exc "NoHold", .glo "NoEntry", .exc "NoEntry", .glo "NoLine", .exc "NoLine", .str "LETTERS" "abcdefghijklmnopqrstuvwxyz", .glo "is_whole", .glo "is_ware", .glo "need_ware", .glo "need_place", .glo "need_many", .glo "rank", .glo "dealt", .glo "Floor", .cls "Floor", .mkr "Floor", .noat "Floor" "amounts"]
def fa_1 : List He.Fa := [.noat "Floor" "standing", .noat "Floor" "last", .noat "Floor" "totals", .noat "Floor" "deeds", .meth "Floor" "there", .meth "Floor" "held", .meth "Floor" "free", .meth "Floor" "whole", .meth "Floor" "total", .meth "Floor" "came", .meth "Floor" "went", .meth "Floor" "righted", .meth "Floor" "places", .meth "Floor" "numbers", .meth "Floor" "holding", .meth "Floor" "book", .meth "Floor" "change", .meth "Floor" "tell", .meth "Floor" "need_hold", .meth "Floor" "need_free", .meth "Floor" "begun", .meth "Floor" "ended", .meth "Floor" "come", .meth "Floor" "go", .meth "Floor" "move", .meth "Floor" "hold", .meth "Floor" "let", .meth "Floor" "take", .meth "Floor" "shift", .meth "Floor" "lost"]
def fa_2 : List He.Fa := [.meth "Floor" "counted", .meth "Floor" "wish", .glo "PARTS", .glo "need_entry", .glo "done", .glo "replayed", .glo "fault", .glo "_law_whole", .glo "_law_cell_at", .glo "_law_ware_by", .glo "_law_wares", .glo "_law_places", .glo "_law_entry_by", .glo "_law_do", .glo "_law_scale", .glo "_law_tried", .glo "_law_seen", .glo "_law_strange", .glo "_law_names", .glo "_law_refused", .glo "_law_done_alone", .glo "_law_next", .glo "_law_same_again", .glo "_law_entered", .glo "_law_more", .glo "law", .free "ValueError", .free "bool", .free "enumerate", .free "int"]
def fa_3 : List He.Fa := [.free "isinstance", .free "len", .free "list", .free "min", .free "range", .free "reversed", .free "sorted", .free "str", .free "sum", .free "tuple", .free "zip", .exm "StockError" "StockError" true, .exm "BadWare" "StockError" true, .exm "BadPlace" "StockError" true, .exm "BadMany" "StockError" true, .exm "TooFew" "StockError" true, .exm "SamePlace" "StockError" true, .exm "NoHold" "StockError" true, .exm "NoEntry" "StockError" true, .exm "NoLine" "StockError" true]
def fa : List He.Fa := fa_0 ++ fa_1 ++ fa_2 ++ fa_3
def ex0l_0 : List (PySem.Str × PySem.Str × Bool) := [(("BadWare" : PySem.Str), ("BadWare" : PySem.Str), true), (("BadWare" : PySem.Str), ("BadPlace" : PySem.Str), false), (("BadWare" : PySem.Str), ("BadMany" : PySem.Str), false), (("BadWare" : PySem.Str), ("TooFew" : PySem.Str), false), (("BadWare" : PySem.Str), ("SamePlace" : PySem.Str), false), (("BadWare" : PySem.Str), ("NoHold" : PySem.Str), false), (("BadWare" : PySem.Str), ("NoEntry" : PySem.Str), false), (("BadWare" : PySem.Str), ("NoLine" : PySem.Str), false), (("BadWare" : PySem.Str), ("ValueError" : PySem.Str), true), (("BadPlace" : PySem.Str), ("BadWare" : PySem.Str), false), (("BadPlace" : PySem.Str), ("BadPlace" : PySem.Str), true), (("BadPlace" : PySem.Str), ("BadMany" : PySem.Str), false), (("BadPlace" : PySem.Str), ("TooFew" : PySem.Str), false), (("BadPlace" : PySem.Str), ("SamePlace" : PySem.Str), false), (("BadPlace" : PySem.Str), ("NoHold" : PySem.Str), false), (("BadPlace" : PySem.Str), ("NoEntry" : PySem.Str), false), (("BadPlace" : PySem.Str), ("NoLine" : PySem.Str), false), (("BadPlace" : PySem.Str), ("ValueError" : PySem.Str), true), (("BadMany" : PySem.Str), ("BadWare" : PySem.Str), false), (("BadMany" : PySem.Str), ("BadPlace" : PySem.Str), false), (("BadMany" : PySem.Str), ("BadMany" : PySem.Str), true), (("BadMany" : PySem.Str), ("TooFew" : PySem.Str), false), (("BadMany" : PySem.Str), ("SamePlace" : PySem.Str), false), (("BadMany" : PySem.Str), ("NoHold" : PySem.Str), false), (("BadMany" : PySem.Str), ("NoEntry" : PySem.Str), false), (("BadMany" : PySem.Str), ("NoLine" : PySem.Str), false), (("BadMany" : PySem.Str), ("ValueError" : PySem.Str), true), (("TooFew" : PySem.Str), ("BadWare" : PySem.Str), false), (("TooFew" : PySem.Str), ("BadPlace" : PySem.Str), false), (("TooFew" : PySem.Str), ("BadMany" : PySem.Str), false)]
def ex0l_1 : List (PySem.Str × PySem.Str × Bool) := [(("TooFew" : PySem.Str), ("TooFew" : PySem.Str), true), (("TooFew" : PySem.Str), ("SamePlace" : PySem.Str), false), (("TooFew" : PySem.Str), ("NoHold" : PySem.Str), false), (("TooFew" : PySem.Str), ("NoEntry" : PySem.Str), false), (("TooFew" : PySem.Str), ("NoLine" : PySem.Str), false), (("TooFew" : PySem.Str), ("ValueError" : PySem.Str), true), (("SamePlace" : PySem.Str), ("BadWare" : PySem.Str), false), (("SamePlace" : PySem.Str), ("BadPlace" : PySem.Str), false), (("SamePlace" : PySem.Str), ("BadMany" : PySem.Str), false), (("SamePlace" : PySem.Str), ("TooFew" : PySem.Str), false), (("SamePlace" : PySem.Str), ("SamePlace" : PySem.Str), true), (("SamePlace" : PySem.Str), ("NoHold" : PySem.Str), false), (("SamePlace" : PySem.Str), ("NoEntry" : PySem.Str), false), (("SamePlace" : PySem.Str), ("NoLine" : PySem.Str), false), (("SamePlace" : PySem.Str), ("ValueError" : PySem.Str), true), (("NoHold" : PySem.Str), ("BadWare" : PySem.Str), false), (("NoHold" : PySem.Str), ("BadPlace" : PySem.Str), false), (("NoHold" : PySem.Str), ("BadMany" : PySem.Str), false), (("NoHold" : PySem.Str), ("TooFew" : PySem.Str), false), (("NoHold" : PySem.Str), ("SamePlace" : PySem.Str), false), (("NoHold" : PySem.Str), ("NoHold" : PySem.Str), true), (("NoHold" : PySem.Str), ("NoEntry" : PySem.Str), false), (("NoHold" : PySem.Str), ("NoLine" : PySem.Str), false), (("NoHold" : PySem.Str), ("ValueError" : PySem.Str), true), (("NoEntry" : PySem.Str), ("BadWare" : PySem.Str), false), (("NoEntry" : PySem.Str), ("BadPlace" : PySem.Str), false), (("NoEntry" : PySem.Str), ("BadMany" : PySem.Str), false), (("NoEntry" : PySem.Str), ("TooFew" : PySem.Str), false), (("NoEntry" : PySem.Str), ("SamePlace" : PySem.Str), false), (("NoEntry" : PySem.Str), ("NoHold" : PySem.Str), false)]
def ex0l_2 : List (PySem.Str × PySem.Str × Bool) := [(("NoEntry" : PySem.Str), ("NoEntry" : PySem.Str), true), (("NoEntry" : PySem.Str), ("NoLine" : PySem.Str), false), (("NoEntry" : PySem.Str), ("ValueError" : PySem.Str), true)]
def ex0l : List (PySem.Str × PySem.Str × Bool) := ex0l_0 ++ ex0l_1 ++ ex0l_2
def ex0 : PySem.W.Frag → Bool := exB ["BadWare", "BadPlace", "BadMany", "TooFew", "SamePlace", "NoHold", "NoEntry"] ex0l
def ts : List He.Tab := [(fun K => He.ga K "PARTS", partsKV.map (·.1))]
def exT (K : PySem.W.Frag) : Bool := tabVB K (He.ga K "PARTS") partsKV && ex0 K
/-- what the walk asks of what the top has made -/
structure Tx (K : PySem.W.Frag) (mg : Str → Option Value) (w : World) : Prop where
  m_StockError : mg "StockError" = some (.ref (He.ga K "StockError"))
  x_StockError : PySem.W.excIn K (He.ga K "StockError") He.veBase "ValueError.__new__" = true ∧ PySem.W.keepIn K (.ref (He.ga K "StockError")) = true ∧ PySem.W.subIn K (.ref (He.ga K "StockError")) (.type "BaseException") = some true ∧ PySem.W.typeIn K (.ref (He.ga K "StockError")) = some (.type "type")
  m_BadWare : mg "BadWare" = some (.ref (He.ga K "BadWare"))
  x_BadWare : PySem.W.excIn K (He.ga K "BadWare") He.veBase "ValueError.__new__" = true ∧ PySem.W.keepIn K (.ref (He.ga K "BadWare")) = true ∧ PySem.W.subIn K (.ref (He.ga K "BadWare")) (.type "BaseException") = some true ∧ PySem.W.typeIn K (.ref (He.ga K "BadWare")) = some (.type "type")
  m_BadPlace : mg "BadPlace" = some (.ref (He.ga K "BadPlace"))
  x_BadPlace : PySem.W.excIn K (He.ga K "BadPlace") He.veBase "ValueError.__new__" = true ∧ PySem.W.keepIn K (.ref (He.ga K "BadPlace")) = true ∧ PySem.W.subIn K (.ref (He.ga K "BadPlace")) (.type "BaseException") = some true ∧ PySem.W.typeIn K (.ref (He.ga K "BadPlace")) = some (.type "type")
  m_BadMany : mg "BadMany" = some (.ref (He.ga K "BadMany"))
  x_BadMany : PySem.W.excIn K (He.ga K "BadMany") He.veBase "ValueError.__new__" = true ∧ PySem.W.keepIn K (.ref (He.ga K "BadMany")) = true ∧ PySem.W.subIn K (.ref (He.ga K "BadMany")) (.type "BaseException") = some true ∧ PySem.W.typeIn K (.ref (He.ga K "BadMany")) = some (.type "type")
  m_TooFew : mg "TooFew" = some (.ref (He.ga K "TooFew"))
  x_TooFew : PySem.W.excIn K (He.ga K "TooFew") He.veBase "ValueError.__new__" = true ∧ PySem.W.keepIn K (.ref (He.ga K "TooFew")) = true ∧ PySem.W.subIn K (.ref (He.ga K "TooFew")) (.type "BaseException") = some true ∧ PySem.W.typeIn K (.ref (He.ga K "TooFew")) = some (.type "type")
  m_SamePlace : mg "SamePlace" = some (.ref (He.ga K "SamePlace"))
  x_SamePlace : PySem.W.excIn K (He.ga K "SamePlace") He.veBase "ValueError.__new__" = true ∧ PySem.W.keepIn K (.ref (He.ga K "SamePlace")) = true ∧ PySem.W.subIn K (.ref (He.ga K "SamePlace")) (.type "BaseException") = some true ∧ PySem.W.typeIn K (.ref (He.ga K "SamePlace")) = some (.type "type")
  m_NoHold : mg "NoHold" = some (.ref (He.ga K "NoHold"))
  x_NoHold : PySem.W.excIn K (He.ga K "NoHold") He.veBase "ValueError.__new__" = true ∧ PySem.W.keepIn K (.ref (He.ga K "NoHold")) = true ∧ PySem.W.subIn K (.ref (He.ga K "NoHold")) (.type "BaseException") = some true ∧ PySem.W.typeIn K (.ref (He.ga K "NoHold")) = some (.type "type")
  m_NoEntry : mg "NoEntry" = some (.ref (He.ga K "NoEntry"))
  x_NoEntry : PySem.W.excIn K (He.ga K "NoEntry") He.veBase "ValueError.__new__" = true ∧ PySem.W.keepIn K (.ref (He.ga K "NoEntry")) = true ∧ PySem.W.subIn K (.ref (He.ga K "NoEntry")) (.type "BaseException") = some true ∧ PySem.W.typeIn K (.ref (He.ga K "NoEntry")) = some (.type "type")
  m_NoLine : mg "NoLine" = some (.ref (He.ga K "NoLine"))
  x_NoLine : PySem.W.excIn K (He.ga K "NoLine") He.veBase "ValueError.__new__" = true ∧ PySem.W.keepIn K (.ref (He.ga K "NoLine")) = true ∧ PySem.W.subIn K (.ref (He.ga K "NoLine")) (.type "BaseException") = some true ∧ PySem.W.typeIn K (.ref (He.ga K "NoLine")) = some (.type "type")
  s_LETTERS : ∃ t, mg "LETTERS" = some (.str "abcdefghijklmnopqrstuvwxyz" t)
  m_is_whole : mg "is_whole" = some (.ref (He.ga K "is_whole"))
  m_is_ware : mg "is_ware" = some (.ref (He.ga K "is_ware"))
  m_need_ware : mg "need_ware" = some (.ref (He.ga K "need_ware"))
  m_need_place : mg "need_place" = some (.ref (He.ga K "need_place"))
  m_need_many : mg "need_many" = some (.ref (He.ga K "need_many"))
  m_rank : mg "rank" = some (.ref (He.ga K "rank"))
  m_dealt : mg "dealt" = some (.ref (He.ga K "dealt"))
  m_Floor : mg "Floor" = some (.ref (He.ga K "Floor"))
  cl_Floor : Cls K (He.ga K "Floor")
  mk_Floor : Mk K (He.ga K "Floor") (He.ma K (He.ga K "Floor") "__init__")
  n_amounts : NoAttr K (He.ga K "Floor") "amounts"
  n_standing : NoAttr K (He.ga K "Floor") "standing"
  n_last : NoAttr K (He.ga K "Floor") "last"
  n_totals : NoAttr K (He.ga K "Floor") "totals"
  n_deeds : NoAttr K (He.ga K "Floor") "deeds"
  mt_there : Meth K (He.ga K "Floor") "there" (He.ma K (He.ga K "Floor") "there")
  mt_held : Meth K (He.ga K "Floor") "held" (He.ma K (He.ga K "Floor") "held")
  mt_free : Meth K (He.ga K "Floor") "free" (He.ma K (He.ga K "Floor") "free")
  mt_whole : Meth K (He.ga K "Floor") "whole" (He.ma K (He.ga K "Floor") "whole")
  mt_total : Meth K (He.ga K "Floor") "total" (He.ma K (He.ga K "Floor") "total")
  mt_came : Meth K (He.ga K "Floor") "came" (He.ma K (He.ga K "Floor") "came")
  mt_went : Meth K (He.ga K "Floor") "went" (He.ma K (He.ga K "Floor") "went")
  mt_righted : Meth K (He.ga K "Floor") "righted" (He.ma K (He.ga K "Floor") "righted")
  mt_places : Meth K (He.ga K "Floor") "places" (He.ma K (He.ga K "Floor") "places")
  mt_numbers : Meth K (He.ga K "Floor") "numbers" (He.ma K (He.ga K "Floor") "numbers")
  mt_holding : Meth K (He.ga K "Floor") "holding" (He.ma K (He.ga K "Floor") "holding")
  mt_book : Meth K (He.ga K "Floor") "book" (He.ma K (He.ga K "Floor") "book")
  mt_change : Meth K (He.ga K "Floor") "change" (He.ma K (He.ga K "Floor") "change")
  mt_tell : Meth K (He.ga K "Floor") "tell" (He.ma K (He.ga K "Floor") "tell")
  mt_need_hold : Meth K (He.ga K "Floor") "need_hold" (He.ma K (He.ga K "Floor") "need_hold")
  mt_need_free : Meth K (He.ga K "Floor") "need_free" (He.ma K (He.ga K "Floor") "need_free")
  mt_begun : Meth K (He.ga K "Floor") "begun" (He.ma K (He.ga K "Floor") "begun")
  mt_ended : Meth K (He.ga K "Floor") "ended" (He.ma K (He.ga K "Floor") "ended")
  mt_come : Meth K (He.ga K "Floor") "come" (He.ma K (He.ga K "Floor") "come")
  mt_go : Meth K (He.ga K "Floor") "go" (He.ma K (He.ga K "Floor") "go")
  mt_move : Meth K (He.ga K "Floor") "move" (He.ma K (He.ga K "Floor") "move")
  mt_hold : Meth K (He.ga K "Floor") "hold" (He.ma K (He.ga K "Floor") "hold")
  mt_let : Meth K (He.ga K "Floor") "let" (He.ma K (He.ga K "Floor") "let")
  mt_take : Meth K (He.ga K "Floor") "take" (He.ma K (He.ga K "Floor") "take")
  mt_shift : Meth K (He.ga K "Floor") "shift" (He.ma K (He.ga K "Floor") "shift")
  mt_lost : Meth K (He.ga K "Floor") "lost" (He.ma K (He.ga K "Floor") "lost")
  mt_counted : Meth K (He.ga K "Floor") "counted" (He.ma K (He.ga K "Floor") "counted")
  mt_wish : Meth K (He.ga K "Floor") "wish" (He.ma K (He.ga K "Floor") "wish")
  m_PARTS : mg "PARTS" = some (.ref (He.ga K "PARTS"))
  m_need_entry : mg "need_entry" = some (.ref (He.ga K "need_entry"))
  m_done : mg "done" = some (.ref (He.ga K "done"))
  m_replayed : mg "replayed" = some (.ref (He.ga K "replayed"))
  m_fault : mg "fault" = some (.ref (He.ga K "fault"))
  m__law_whole : mg "_law_whole" = some (.ref (He.ga K "_law_whole"))
  m__law_cell_at : mg "_law_cell_at" = some (.ref (He.ga K "_law_cell_at"))
  m__law_ware_by : mg "_law_ware_by" = some (.ref (He.ga K "_law_ware_by"))
  m__law_wares : mg "_law_wares" = some (.ref (He.ga K "_law_wares"))
  m__law_places : mg "_law_places" = some (.ref (He.ga K "_law_places"))
  m__law_entry_by : mg "_law_entry_by" = some (.ref (He.ga K "_law_entry_by"))
  m__law_do : mg "_law_do" = some (.ref (He.ga K "_law_do"))
  m__law_scale : mg "_law_scale" = some (.ref (He.ga K "_law_scale"))
  m__law_tried : mg "_law_tried" = some (.ref (He.ga K "_law_tried"))
  m__law_seen : mg "_law_seen" = some (.ref (He.ga K "_law_seen"))
  m__law_strange : mg "_law_strange" = some (.ref (He.ga K "_law_strange"))
  m__law_names : mg "_law_names" = some (.ref (He.ga K "_law_names"))
  m__law_refused : mg "_law_refused" = some (.ref (He.ga K "_law_refused"))
  m__law_done_alone : mg "_law_done_alone" = some (.ref (He.ga K "_law_done_alone"))
  m__law_next : mg "_law_next" = some (.ref (He.ga K "_law_next"))
  m__law_same_again : mg "_law_same_again" = some (.ref (He.ga K "_law_same_again"))
  m__law_entered : mg "_law_entered" = some (.ref (He.ga K "_law_entered"))
  m__law_more : mg "_law_more" = some (.ref (He.ga K "_law_more"))
  m_law : mg "law" = some (.ref (He.ga K "law"))
  z_ValueError : mg "ValueError" = none
  z_bool : mg "bool" = none
  z_enumerate : mg "enumerate" = none
  z_int : mg "int" = none
  z_isinstance : mg "isinstance" = none
  z_len : mg "len" = none
  z_list : mg "list" = none
  z_min : mg "min" = none
  z_range : mg "range" = none
  z_reversed : mg "reversed" = none
  z_sorted : mg "sorted" = none
  z_str : mg "str" = none
  z_sum : mg "sum" = none
  z_tuple : mg "tuple" = none
  z_zip : mg "zip" = none
  em_StockError_StockError : PySem.W.exmOne K (.ref (He.ga K "StockError")) (.ref (He.ga K "StockError")) = some true
  em_BadWare_StockError : PySem.W.exmOne K (.ref (He.ga K "BadWare")) (.ref (He.ga K "StockError")) = some true
  em_BadPlace_StockError : PySem.W.exmOne K (.ref (He.ga K "BadPlace")) (.ref (He.ga K "StockError")) = some true
  em_BadMany_StockError : PySem.W.exmOne K (.ref (He.ga K "BadMany")) (.ref (He.ga K "StockError")) = some true
  em_TooFew_StockError : PySem.W.exmOne K (.ref (He.ga K "TooFew")) (.ref (He.ga K "StockError")) = some true
  em_SamePlace_StockError : PySem.W.exmOne K (.ref (He.ga K "SamePlace")) (.ref (He.ga K "StockError")) = some true
  em_NoHold_StockError : PySem.W.exmOne K (.ref (He.ga K "NoHold")) (.ref (He.ga K "StockError")) = some true
  em_NoEntry_StockError : PySem.W.exmOne K (.ref (He.ga K "NoEntry")) (.ref (He.ga K "StockError")) = some true
  em_NoLine_StockError : PySem.W.exmOne K (.ref (He.ga K "NoLine")) (.ref (He.ga K "StockError")) = some true
  xc : ex0 K = true
  t_PARTS : ∃ es n, KDict K w (He.ga K "PARTS") es n
  v_PARTS : tabVB K (He.ga K "PARTS") partsKV = true
theorem tx_of {K : PySem.W.Frag} {h : Heap} {mg : Str → Option Value} (X : K.In h) (G : h.Ns mainGlobals mg) (c : He.SaysD fa fn K) {w : World} (hx : exT K = true) (ct : He.SaysT fa fn ts w K) : Tx K mg w where
  t_PARTS := ct.tab 0 (t := (fun K => He.ga K "PARTS", partsKV.map (·.1))) rfl
  v_PARTS := (He.ba hx).1
  xc := (He.ba hx).2
  m_StockError := He.glo_ok X G (c.fact 0 (f := .glo "StockError") rfl)
  x_StockError := He.exc_ok (c.fact 1 (f := .exc "StockError") rfl)
  m_BadWare := He.glo_ok X G (c.fact 2 (f := .glo "BadWare") rfl)
  x_BadWare := He.exc_ok (c.fact 3 (f := .exc "BadWare") rfl)
  m_BadPlace := He.glo_ok X G (c.fact 4 (f := .glo "BadPlace") rfl)
  x_BadPlace := He.exc_ok (c.fact 5 (f := .exc "BadPlace") rfl)
  m_BadMany := He.glo_ok X G (c.fact 6 (f := .glo "BadMany") rfl)
  x_BadMany := He.exc_ok (c.fact 7 (f := .exc "BadMany") rfl)
  m_TooFew := He.glo_ok X G (c.fact 8 (f := .glo "TooFew") rfl)
  x_TooFew := He.exc_ok (c.fact 9 (f := .exc "TooFew") rfl)
  m_SamePlace := He.glo_ok X G (c.fact 10 (f := .glo "SamePlace") rfl)
  x_SamePlace := He.exc_ok (c.fact 11 (f := .exc "SamePlace") rfl)
  m_NoHold := He.glo_ok X G (c.fact 12 (f := .glo "NoHold") rfl)
  x_NoHold := He.exc_ok (c.fact 13 (f := .exc "NoHold") rfl)
  m_NoEntry := He.glo_ok X G (c.fact 14 (f := .glo "NoEntry") rfl)
  x_NoEntry := He.exc_ok (c.fact 15 (f := .exc "NoEntry") rfl)
  m_NoLine := He.glo_ok X G (c.fact 16 (f := .glo "NoLine") rfl)
  x_NoLine := He.exc_ok (c.fact 17 (f := .exc "NoLine") rfl)
  s_LETTERS := He.str_ok X G (c.fact 18 (f := .str "LETTERS" "abcdefghijklmnopqrstuvwxyz") rfl)
  m_is_whole := He.glo_ok X G (c.fact 19 (f := .glo "is_whole") rfl)
  m_is_ware := He.glo_ok X G (c.fact 20 (f := .glo "is_ware") rfl)
  m_need_ware := He.glo_ok X G (c.fact 21 (f := .glo "need_ware") rfl)
  m_need_place := He.glo_ok X G (c.fact 22 (f := .glo "need_place") rfl)
  m_need_many := He.glo_ok X G (c.fact 23 (f := .glo "need_many") rfl)
  m_rank := He.glo_ok X G (c.fact 24 (f := .glo "rank") rfl)
  m_dealt := He.glo_ok X G (c.fact 25 (f := .glo "dealt") rfl)
  m_Floor := He.glo_ok X G (c.fact 26 (f := .glo "Floor") rfl)
  cl_Floor := He.cls_ok (c.fact 27 (f := .cls "Floor") rfl)
  mk_Floor := He.mkr_ok (c.fact 28 (f := .mkr "Floor") rfl)
  n_amounts := He.noat_ok (c.fact 29 (f := .noat "Floor" "amounts") rfl)
  n_standing := He.noat_ok (c.fact 30 (f := .noat "Floor" "standing") rfl)
  n_last := He.noat_ok (c.fact 31 (f := .noat "Floor" "last") rfl)
  n_totals := He.noat_ok (c.fact 32 (f := .noat "Floor" "totals") rfl)
  n_deeds := He.noat_ok (c.fact 33 (f := .noat "Floor" "deeds") rfl)
  mt_there := He.meth_ok (c.fact 34 (f := .meth "Floor" "there") rfl)
  mt_held := He.meth_ok (c.fact 35 (f := .meth "Floor" "held") rfl)
  mt_free := He.meth_ok (c.fact 36 (f := .meth "Floor" "free") rfl)
  mt_whole := He.meth_ok (c.fact 37 (f := .meth "Floor" "whole") rfl)
  mt_total := He.meth_ok (c.fact 38 (f := .meth "Floor" "total") rfl)
  mt_came := He.meth_ok (c.fact 39 (f := .meth "Floor" "came") rfl)
  mt_went := He.meth_ok (c.fact 40 (f := .meth "Floor" "went") rfl)
  mt_righted := He.meth_ok (c.fact 41 (f := .meth "Floor" "righted") rfl)
  mt_places := He.meth_ok (c.fact 42 (f := .meth "Floor" "places") rfl)
  mt_numbers := He.meth_ok (c.fact 43 (f := .meth "Floor" "numbers") rfl)
  mt_holding := He.meth_ok (c.fact 44 (f := .meth "Floor" "holding") rfl)
  mt_book := He.meth_ok (c.fact 45 (f := .meth "Floor" "book") rfl)
  mt_change := He.meth_ok (c.fact 46 (f := .meth "Floor" "change") rfl)
  mt_tell := He.meth_ok (c.fact 47 (f := .meth "Floor" "tell") rfl)
  mt_need_hold := He.meth_ok (c.fact 48 (f := .meth "Floor" "need_hold") rfl)
  mt_need_free := He.meth_ok (c.fact 49 (f := .meth "Floor" "need_free") rfl)
  mt_begun := He.meth_ok (c.fact 50 (f := .meth "Floor" "begun") rfl)
  mt_ended := He.meth_ok (c.fact 51 (f := .meth "Floor" "ended") rfl)
  mt_come := He.meth_ok (c.fact 52 (f := .meth "Floor" "come") rfl)
  mt_go := He.meth_ok (c.fact 53 (f := .meth "Floor" "go") rfl)
  mt_move := He.meth_ok (c.fact 54 (f := .meth "Floor" "move") rfl)
  mt_hold := He.meth_ok (c.fact 55 (f := .meth "Floor" "hold") rfl)
  mt_let := He.meth_ok (c.fact 56 (f := .meth "Floor" "let") rfl)
  mt_take := He.meth_ok (c.fact 57 (f := .meth "Floor" "take") rfl)
  mt_shift := He.meth_ok (c.fact 58 (f := .meth "Floor" "shift") rfl)
  mt_lost := He.meth_ok (c.fact 59 (f := .meth "Floor" "lost") rfl)
  mt_counted := He.meth_ok (c.fact 60 (f := .meth "Floor" "counted") rfl)
  mt_wish := He.meth_ok (c.fact 61 (f := .meth "Floor" "wish") rfl)
  m_PARTS := He.glo_ok X G (c.fact 62 (f := .glo "PARTS") rfl)
  m_need_entry := He.glo_ok X G (c.fact 63 (f := .glo "need_entry") rfl)
  m_done := He.glo_ok X G (c.fact 64 (f := .glo "done") rfl)
  m_replayed := He.glo_ok X G (c.fact 65 (f := .glo "replayed") rfl)
  m_fault := He.glo_ok X G (c.fact 66 (f := .glo "fault") rfl)
  m__law_whole := He.glo_ok X G (c.fact 67 (f := .glo "_law_whole") rfl)
  m__law_cell_at := He.glo_ok X G (c.fact 68 (f := .glo "_law_cell_at") rfl)
  m__law_ware_by := He.glo_ok X G (c.fact 69 (f := .glo "_law_ware_by") rfl)
  m__law_wares := He.glo_ok X G (c.fact 70 (f := .glo "_law_wares") rfl)
  m__law_places := He.glo_ok X G (c.fact 71 (f := .glo "_law_places") rfl)
  m__law_entry_by := He.glo_ok X G (c.fact 72 (f := .glo "_law_entry_by") rfl)
  m__law_do := He.glo_ok X G (c.fact 73 (f := .glo "_law_do") rfl)
  m__law_scale := He.glo_ok X G (c.fact 74 (f := .glo "_law_scale") rfl)
  m__law_tried := He.glo_ok X G (c.fact 75 (f := .glo "_law_tried") rfl)
  m__law_seen := He.glo_ok X G (c.fact 76 (f := .glo "_law_seen") rfl)
  m__law_strange := He.glo_ok X G (c.fact 77 (f := .glo "_law_strange") rfl)
  m__law_names := He.glo_ok X G (c.fact 78 (f := .glo "_law_names") rfl)
  m__law_refused := He.glo_ok X G (c.fact 79 (f := .glo "_law_refused") rfl)
  m__law_done_alone := He.glo_ok X G (c.fact 80 (f := .glo "_law_done_alone") rfl)
  m__law_next := He.glo_ok X G (c.fact 81 (f := .glo "_law_next") rfl)
  m__law_same_again := He.glo_ok X G (c.fact 82 (f := .glo "_law_same_again") rfl)
  m__law_entered := He.glo_ok X G (c.fact 83 (f := .glo "_law_entered") rfl)
  m__law_more := He.glo_ok X G (c.fact 84 (f := .glo "_law_more") rfl)
  m_law := He.glo_ok X G (c.fact 85 (f := .glo "law") rfl)
  z_ValueError := He.free_ok X G (c.fact 86 (f := .free "ValueError") rfl)
  z_bool := He.free_ok X G (c.fact 87 (f := .free "bool") rfl)
  z_enumerate := He.free_ok X G (c.fact 88 (f := .free "enumerate") rfl)
  z_int := He.free_ok X G (c.fact 89 (f := .free "int") rfl)
  z_isinstance := He.free_ok X G (c.fact 90 (f := .free "isinstance") rfl)
  z_len := He.free_ok X G (c.fact 91 (f := .free "len") rfl)
  z_list := He.free_ok X G (c.fact 92 (f := .free "list") rfl)
  z_min := He.free_ok X G (c.fact 93 (f := .free "min") rfl)
  z_range := He.free_ok X G (c.fact 94 (f := .free "range") rfl)
  z_reversed := He.free_ok X G (c.fact 95 (f := .free "reversed") rfl)
  z_sorted := He.free_ok X G (c.fact 96 (f := .free "sorted") rfl)
  z_str := He.free_ok X G (c.fact 97 (f := .free "str") rfl)
  z_sum := He.free_ok X G (c.fact 98 (f := .free "sum") rfl)
  z_tuple := He.free_ok X G (c.fact 99 (f := .free "tuple") rfl)
  z_zip := He.free_ok X G (c.fact 100 (f := .free "zip") rfl)
  em_StockError_StockError := He.exm_ok (c.fact 101 (f := .exm "StockError" "StockError" true) rfl)
  em_BadWare_StockError := He.exm_ok (c.fact 102 (f := .exm "BadWare" "StockError" true) rfl)
  em_BadPlace_StockError := He.exm_ok (c.fact 103 (f := .exm "BadPlace" "StockError" true) rfl)
  em_BadMany_StockError := He.exm_ok (c.fact 104 (f := .exm "BadMany" "StockError" true) rfl)
  em_TooFew_StockError := He.exm_ok (c.fact 105 (f := .exm "TooFew" "StockError" true) rfl)
  em_SamePlace_StockError := He.exm_ok (c.fact 106 (f := .exm "SamePlace" "StockError" true) rfl)
  em_NoHold_StockError := He.exm_ok (c.fact 107 (f := .exm "NoHold" "StockError" true) rfl)
  em_NoEntry_StockError := He.exm_ok (c.fact 108 (f := .exm "NoEntry" "StockError" true) rfl)
  em_NoLine_StockError := He.exm_ok (c.fact 109 (f := .exm "NoLine" "StockError" true) rfl)
/-- a def keeps its promise, and can be called -/
def FnB (P : Program) (w : World) (K : PySem.W.Frag) (mg : Str → Option Value) (base : Heap) (k : Nat) (f : Addr) (ps : List Str) (sp : Sp) : Prop :=
  ∃ fd, FnOk P w K mg base (L2.CX P w) k f fd ps sp ∧ Binds K fd ps [] ∧ PySem.W.keepIn K (.ref f) = true
end Sf
namespace Sf
open PySem PySem.Spec PyProof.Rows L2
local macro_rules | `(tactic| walk_at "sd") => `(tactic| first
  | (with_reducible show Nat.ble _ _ = _; rfl)
  | decide
  | assumption
  | omega
  | (show (0 : Int) < _; omega)
  | exact ⟨by omega, by omega⟩
  | exact .inl ⟨by omega, by omega⟩
  | exact .inr ⟨by omega, by omega⟩
  | exact ⟨by omega, by omega, by decide⟩
  | rfl)
local macro_rules | `(tactic| walk_at "ev") => `(tactic| first
  | with_reducible exact e_int
  | with_reducible exact e_str
  | with_reducible exact e_bl
  | with_reducible exact e_non
  | with_reducible exact e_raw
  | ((with_reducible refine' e_var ?_) <;> exact rfl)
  | ((with_reducible refine' e_opB ?_ ?_) <;> walk_at "evs")
  | ((with_reducible refine' e_opI ?_ ?_) <;> walk_at "evs")
  | ((with_reducible refine' e_opIC ?_ ?_ ?_) <;> walk_at "evs")
  | ((with_reducible refine' e_neg ?_) <;> walk_at "evs")
  | ((with_reducible refine' e_eqI ?_ ?_) <;> walk_at "evs")
  | ((with_reducible refine' e_neI ?_ ?_) <;> walk_at "evs")
  | ((with_reducible refine' e_eqS ?_ ?_) <;> walk_at "evs")
  | ((with_reducible refine' e_neS ?_ ?_) <;> walk_at "evs")
  | ((with_reducible refine' e_notV ?_) <;> walk_at "evs")
  | ((with_reducible refine' e_isi_int (by assumption) ?_) <;> walk_at "evs")
  | ((with_reducible refine' e_isi_bool (by assumption) ?_) <;> walk_at "evs")
  | ((with_reducible refine' e_isi_str (by assumption) ?_) <;> walk_at "evs")
  | ((with_reducible refine' e_isi_list (by assumption) ?_) <;> walk_at "evs")
  | ((with_reducible refine' e_isi_tuple (by assumption) ?_) <;> walk_at "evs")
  | ((with_reducible refine' e_chain ?_ ?_ ?_) <;> walk_at "evs")
  | ((with_reducible refine' e_isN ?_) <;> walk_at "evs")
  | ((with_reducible refine' e_notN ?_) <;> walk_at "evs")
  | ((with_reducible refine' e_tup ?_ ?_) <;> walk_at "evs")
  | ((with_reducible refine' e_lst ?_ ?_) <;> walk_at "evs")
  | ((with_reducible refine' e_addS ?_ ?_ ?_) <;> walk_at "evs")
  | ((with_reducible refine' e_lenS ?_ ?_) <;> walk_at "evs")
  | ((with_reducible refine' e_lenL (by assumption) ?_) <;> walk_at "evs")
  | ((with_reducible refine' e_lenU (by assumption) ?_) <;> walk_at "evs")
  | ((with_reducible refine' e_lenO (by assumption) ?_ ?_) <;> walk_at "evs")
  | ((with_reducible refine' e_ixL (by assumption) ?_ ?_ ?_) <;> walk_at "evs")
  | ((with_reducible refine' e_ixU (by assumption) ?_ ?_ ?_) <;> walk_at "evs")
  | ((with_reducible refine' e_ixO (by assumption) ?_ ?_ ?_ ?_) <;> walk_at "evs")
  | ((with_reducible refine' e_ixS ?_ ?_ ?_ ?_) <;> walk_at "evs")
  | ((with_reducible refine' e_max2 ?_ ?_) <;> walk_at "evs")
  | ((with_reducible refine' e_min2 ?_ ?_) <;> walk_at "evs")
  | ((with_reducible refine' e_slL (by assumption) ?_ ?_ ?_) <;> walk_at "evs")
  | ((with_reducible refine' e_slO (by assumption) ?_ ?_ ?_ ?_) <;> walk_at "evs")
  | ((with_reducible refine' e_slS ?_ ?_ ?_ ?_) <;> walk_at "evs")
  | ((with_reducible refine' e_sindex ?_ ?_ ?_) <;> walk_at "evs")
  | ((with_reducible refine' e_join (by assumption) ?_ ?_ ?_) <;> walk_at "evs")
  | ((with_reducible refine' e_sumL (by assumption) ?_) <;> walk_at "evs")
  | ((with_reducible refine' e_sumO (by assumption) ?_ ?_) <;> walk_at "evs")
  | ((with_reducible refine' e_andV ?_ (fun _ => ?_)) <;> walk_at "evs")
  | ((with_reducible refine' e_andV (b := false) ?_ (fun h => absurd h ?_)) <;> first | walk_at "ev" | (simp [isA]; done) | (fail_if_success (with_reducible show ¬ _); fail_if_success (with_reducible show Ev _ _ _ _ _ _)))
  | ((with_reducible refine' e_orV ?_ (fun _ => ?_)) <;> walk_at "evs"))
local macro_rules | `(tactic| walk_at "eo") => `(tactic| first
  | with_reducible exact o_none
  | ((with_reducible refine' o_some ?_) <;> walk_at "evs"))
local macro_rules | `(tactic| walk_at "ea") => `(tactic| first
  | with_reducible exact a_nilD
  | with_reducible exact a_nil
  | ((with_reducible refine' a_consD ?_ ?_) <;> walk_at "evs")
  | ((with_reducible refine' a_cons ?_ ?_) <;> walk_at "evs"))
local macro_rules | `(tactic| walk_at "et") => `(tactic| first
  | ((with_reducible refine' t_not ?_) <;> walk_at "evs")
  | ((with_reducible refine' t_tst ?_) <;> walk_at "evs")
  | ((with_reducible refine' t_B ?_) <;> walk_at "evs")
  | ((with_reducible refine' t_and ?_ (fun _ => ?_)) <;> walk_at "evs")
  | ((with_reducible refine' t_or ?_ (fun _ => ?_)) <;> walk_at "evs"))
local macro_rules | `(tactic| walk_at "evs") => `(tactic| first
  | walk_at "ev"
  | walk_at "ea"
  | walk_at "eo"
  | walk_at "et"
  | (fail_if_success (with_reducible show Ev _ _ _ _ _ _); fail_if_success (with_reducible show EvA _ _ _ _ _ _); fail_if_success (with_reducible show EvT _ _ _ _ _ _); fail_if_success (with_reducible show EvO _ _ _ _ _ _)))
local macro_rules | `(tactic| walk_at "evc") => `(tactic| (walk_at "evs") <;> walk_at "sd")
local macro_rules | `(tactic| walk_at "evto") => `(tactic| ((with_reducible refine' Ev.to ?_ ?_) <;> walk_at "evs"))
local macro_rules | `(tactic| walk_at "etto") => `(tactic| ((with_reducible refine' EvT.to ?_ ?_) <;> walk_at "evs"))
section
variable {Γ : Ga} {δ : De} {μ μ1 μ2 : Mu} {te : TE} {K : PySem.W.Frag} {mg : Str → Option Value} {w : World} {p d1 d2 d3 l : Addr} {n : Int}
abbrev fC (K : PySem.W.Frag) : Addr := He.ga K "Floor"
theorem f_amounts (T : Tx K mg w) (hp : (p, OO.ins (fC K) (flds d1 d2 d3 l n)) ∈ μ1) (h : Ev Γ te δ μ (.r (.ref p)) μ1) : Ev Γ (tFld K te "amounts") δ μ (.r (.ref d1)) μ1 := e_fld h hp T.cl_Floor T.n_amounts rfl
theorem f_standing (T : Tx K mg w) (hp : (p, OO.ins (fC K) (flds d1 d2 d3 l n)) ∈ μ1) (h : Ev Γ te δ μ (.r (.ref p)) μ1) : Ev Γ (tFld K te "standing") δ μ (.r (.ref d2)) μ1 := e_fld h hp T.cl_Floor T.n_standing rfl
theorem f_last (T : Tx K mg w) (hp : (p, OO.ins (fC K) (flds d1 d2 d3 l n)) ∈ μ1) (h : Ev Γ te δ μ (.r (.ref p)) μ1) : Ev Γ (tFld K te "last") δ μ (dI n) μ1 := (e_fld h hp T.cl_Floor T.n_last rfl).rI
theorem f_totals (T : Tx K mg w) (hp : (p, OO.ins (fC K) (flds d1 d2 d3 l n)) ∈ μ1) (h : Ev Γ te δ μ (.r (.ref p)) μ1) : Ev Γ (tFld K te "totals") δ μ (.r (.ref d3)) μ1 := e_fld h hp T.cl_Floor T.n_totals rfl
theorem f_deeds (T : Tx K mg w) (hp : (p, OO.ins (fC K) (flds d1 d2 d3 l n)) ∈ μ1) (h : Ev Γ te δ μ (.r (.ref p)) μ1) : Ev Γ (tFld K te "deeds") δ μ (.r (.ref l)) μ1 := e_fld h hp T.cl_Floor T.n_deeds rfl
end
theorem sc_rank : FnScope ["room"] ["room"] (defScope s_rank) := ⟨rfl, rfl, rfl, by decide +kernel, rfl, by decide +kernel, by decide +kernel⟩
theorem sc_dealt : FnScope ["rooms", "many", "found", "room", "part"] ["rooms", "many"] (defScope s_dealt) := ⟨rfl, rfl, rfl, by decide +kernel, rfl, by decide +kernel, by decide +kernel⟩
def g_dealt (K : PySem.W.Frag) (as : List Sv) (m : Mu) (o : Oc) : Prop := ∃ (l : List (Int × Int)) (n : Int), as = [dL (pairsD l), dI n] ∧ m = [] ∧ l.length ≤ 99000 ∧ o = if (l.map (·.2)).sum < n then .exc (He.ga K "TooFew") [] else nw (.lst (pairsD (deal (dsort l) n))) []
theorem ok_dealt {P : Program} {w : World} {K : PySem.W.Frag} {mg : Str → Option Value} {base : Heap} (T : Tx K mg w) (c : He.SaysD fa fn K) : FnB P w K mg base 1 (He.fAd K ("dealt", none)) ["rooms", "many"] (spG K 2 true (g_dealt K)) := by
  obtain ⟨fd_rank, F_rank⟩ := c.def_ 5 (d := d_rank) rfl
  obtain ⟨fd, F⟩ := c.def_ 6 (d := d_dealt) rfl
  refine ⟨fd, fn_ok F sc_dealt rfl fun cdv A outer s H E hr => ⟨_, (pss_cons (ps_if (pt_cmpR op_lt (pe_callB (cr_sum' (K := K) rfl rfl) (by rfl) T.z_sum (by decide +kernel) (pa_cons (pe_lc (own := [("room", 3)]) rfl sc_dealt.nd (pi_list' (K := K) rfl (pv 0)) (blkOk_by (own := [("room", 3)]) (N := ["rooms", "many", "found", "room", "part"]) (sc := defScope s_dealt) (by decide +kernel)) (fun _ _ _ _ _ => (pg_name (i := 3) sc_dealt.nd rfl (Or.inl rfl))) (fun _ _ _ _ _ => pts_nil) (fun _ _ _ _ _ => (pe_ix (ix_tup' (K := K) rfl) (pv 3) pe_int (fun _ _ => rfl)))) pa_nil)) (pv 1) (nomark _)) (pss_one (ps_raise rfl (takes_of rfl rfl rfl rfl) (pmk_own PySem.F.excBase_ValueError T.x_TooFew.1 T.m_TooFew T.x_TooFew.2.1 (raises_own T.x_TooFew.2.2.1 T.x_TooFew.2.2.2) (by exact rfl)))) pss_nil)
    (pss_cons (ps_set (i := 2) sc_dealt.nd rfl (Or.inl rfl) (pe_lst pa_nil))
    (pss_cons (ps_for (passes_of rfl) rfl (pi_list' (K := K) rfl (pe_callBK (cr_sortedRank (K := K) rfl F_rank sc_rank rfl (FunD.bindsN F_rank (fun _ _ _ _ _ _ us hl => match us, hl with | [_], _ => rfl)) rfl hr) (by rfl) T.z_sorted rfl (pa_cons (pv 0) pa_nil) (pk_cons (pe_glob (v := .ref (He.ga K "rank")) rfl T.m_rank rfl) pk_nil))) (pg_name (i := 3) sc_dealt.nd rfl (Or.inl rfl))
      (pss_cons (ps_set (i := 4) sc_dealt.nd rfl (Or.inl rfl) (pe_callB (call_min2 rfl) (by rfl) T.z_min (by decide +kernel) (pa_cons (pe_ix (ix_tup' (K := K) rfl) (pv 3) pe_int (fun _ _ => rfl)) (pa_cons (pv 1) pa_nil))))
    (pss_one (ps_if (pt_cmpR op_gt (pv 4) pe_int (nomark _)) (pss_cons (ps_expr (pe_bm PySem.F.plainAttrs_list PySem.F.slot_list_append PySem.F.type_list_append mt_append (pv 2) (pa_cons (pe_tup (pa_cons (pe_ix (ix_tup' (K := K) rfl) (pv 3) pe_int (fun _ _ => rfl)) (pa_cons (pv 4) pa_nil))) pa_nil)))
    (pss_one (ps_set (i := 1) sc_dealt.nd rfl (Or.inl rfl) (pe_op op_sub (pv 1) (pv 4))))) pss_nil))))
    (pss_one (ps_ret (pv 2)))))), ?_⟩, FunD.bindsN F (fun _ _ _ _ _ _ us hl => match us, hl with | [_, _], _ => rfl), F.kp⟩
  intro Γ as m o D hK hF hO hn hG hnx hD
  try dsimp only [cxOf]
  obtain ⟨l, n, rfl, rfl, hl, rfl⟩ := hG
  refine x_seq (x_if (t_tst (e_opB (e_sumL (ns := l.map (·.2)) hK (Ev.to (e_lc (L := l) (F := fun e => dU [.int e.1, .int e.2]) (p := fun _ => true) (y := fun e => .int e.2) ((w_list hK (e_var rfl)).to (by unfold pairsD datas; rw [List.map_map]; rfl)) (fun e he gh o => ⟨_, gw_name, t_yes, fun _ => e_ixU hK (e_var rfl) e_int rfl⟩) (by omega)) (by rw [List.filter_eq_self.mpr (fun _ _ => rfl), List.map_map]; rfl))) (e_var rfl))) (fun h => ?_) fun h => x_next (x_nx ?_))
  · rw [if_pos (of_decide_eq_true h)] at hD
    exact x_raise hD (List.nil_sublist _)
  rw [if_neg (of_decide_eq_false h)] at hD
  refine x_letN1 (EvN.to1 (n_lst (ds := []) a_nilD) (o' := .lst (pairsD [])) rfl) fun q hq _ => ?_
  refine x_seq (x_for (w_list hK (EvN.fz (n_sortRank hK (e_var rfl)))) (fun i δ μ => ∃ y3 y4 n' t, δ = [some (dL (pairsD l)), some (dI n'), some (.r (.ref q)), y3, y4] ∧ μ = [(q, OO.lst (pairsD t))] ∧ deal (dsort l) n = t ++ deal ((dsort l).drop i) n' ∧ t.length ≤ i) ⟨_, _, n, [], rfl, rfl, rfl, Nat.le_refl _⟩ ?_ ?_)
  · rintro i s δ μ gh D' hs' ⟨y3, y4, n', t, rfl, rfl, hL, ht⟩ hnx' hct' hrt' _
    obtain ⟨e, he, rfl⟩ : ∃ e : Int × Int, (dsort l)[i]? = some e ∧ s = dU [.int e.1, .int e.2] := by
      unfold pairsD datas at hs'
      rw [List.map_map, List.getElem?_map] at hs'
      cases q : (dsort l)[i]? with
      | none => rw [q] at hs'; cases hs'
      | some e => rw [q] at hs'; cases hs'; exact ⟨e, rfl, rfl⟩
    have hi := (List.getElem?_eq_some_iff.mp he).1
    rw [dsort_len] at hi
    rw [drop_get he] at hL
    have hpl : (pairsD t).length = t.length := List.length_map _
    refine ⟨_, gt_name, ?_⟩
    refine x_let (e_min2 (e_ixU hK (e_var rfl) e_int rfl) (e_var rfl)) ?_
    refine x_if (t_tst (e_opB (e_var rfl) e_int)) (fun hb => ?_) (fun hb => ?_)
    · have hc : 0 < min e.2 n' := of_decide_eq_true hb
      refine x_seq (x_app (p := q) (ds := pairsD t) 0 (e_var rfl) (e_tup (ds := [.int e.1, .int (min e.2 n')]) (a_consD (e_ixU hK (e_var rfl) e_int rfl) (a_consD (e_var rfl) a_nilD))) rfl (by rw [hpl]; omega) (.inr hq) ⟨_, List.mem_of_getElem? (i := 0) rfl⟩ (x_nx ?_))
      rw [show pairsD t ++ [.tuple [.int e.1, .int (min e.2 n')]] = pairsD (t ++ [(e.1, min e.2 n')]) by unfold pairsD; rw [List.map_append]; rfl]
      refine x_asg (e_opI (e_var rfl) (e_var rfl)) (nx_loop hnx' ⟨_, _, _, t ++ [(e.1, min e.2 n')], rfl, rfl, ?_, by rw [List.length_append]; exact Nat.succ_le_succ ht⟩)
      rw [hL, List.append_assoc]
      show t ++ (if _ then _ else _) = _
      rw [if_pos hc]
      rfl
    · have hc : ¬0 < min e.2 n' := of_decide_eq_false hb
      refine x_next (nx_loop hnx' ⟨_, _, n', t, rfl, rfl, ?_, Nat.le_succ_of_le ht⟩)
      rw [hL]
      show t ++ (if _ then _ else _) = _
      rw [if_neg hc]
  · rintro δ μ ⟨y3, y4, n', t, rfl, rfl, hL, ht⟩
    have e0 : (dsort l).drop (datas (pairsD (dsort l))).length = [] := List.drop_eq_nil_of_le (by simp [datas, pairsD])
    rw [e0] at hL
    have hL : deal (dsort l) n = t := by rw [hL]; exact List.append_nil _
    rw [hL] at hD
    exact x_nx (x_retOwn (E := E) (e_var rfl) hq hD (List.Sublist.refl _))
theorem sc_Floor_there : FnScope ["self", "place", "ware"] ["self", "place", "ware"] (defScope s_Floor_there) := ⟨rfl, rfl, rfl, by decide +kernel, rfl, by decide +kernel, by decide +kernel⟩
def g_Floor_there (K : PySem.W.Frag) (as : List Sv) (m : Mu) (o : Oc) : Prop := ∃ (a d1 d2 d3 l : Addr) (M : FM) (p : Int) (w : Str), as = [.r (.ref a), dI p, dS w] ∧ m = flo (fC K) a d1 d2 d3 l M ∧ o = .ret (dI (M.there p w)) []
theorem ok_Floor_there {P : Program} {w : World} {K : PySem.W.Frag} {mg : Str → Option Value} {base : Heap} (T : Tx K mg w) (c : He.SaysD fa fn K) : FnB P w K mg base 1 (He.fAd K ("Floor", some "there")) ["self", "place", "ware"] (spG K 3 true (g_Floor_there K)) := by
  obtain ⟨fd, F⟩ := c.def_ 8 (d := d_Floor_there) rfl
  refine ⟨fd, fn_ok F sc_Floor_there rfl fun cdv A outer s H E hr => ⟨_, (pss_one (ps_ret (pe_dget2 (hu_of hr) (pe_fld' (K := K) rfl (pv 0) rfl) (pe_tup (pa_cons (pv 1) (pa_cons (pv 2) pa_nil))) pe_int ⟨rfl, rfl, rfl, rfl⟩))), ?_⟩, FunD.bindsN F (fun _ _ _ _ _ _ us hl => match us, hl with | [_, _, _], _ => rfl), F.kp⟩
  intro Γ as m o D hK hF hO hn hG hnx hD
  try dsimp only [cxOf]
  obtain ⟨a, d1, d2, d3, l, M, p, w, rfl, rfl, rfl⟩ := hG
  refine x_ret (E := E) (Ev.to (e_dgetT2 (ks := [.inl p, .inr w]) (p := d1) (kts := amD M.am) (f_amounts T (List.mem_of_getElem? (i := 0) rfl) (e_var rfl)) (a_consD (e_var rfl) (a_consD (e_var rfl) a_nilD)) e_int (List.mem_of_getElem? (i := 1) rfl)) ?_) hD (List.nil_sublist _)
  rw [val_am]
  exact congrArg Sv.d map_getD
theorem sc_Floor_held : FnScope ["self", "place", "ware", "one"] ["self", "place", "ware"] (defScope s_Floor_held) := ⟨rfl, rfl, rfl, by decide +kernel, rfl, by decide +kernel, by decide +kernel⟩
def g_Floor_held (K : PySem.W.Frag) (as : List Sv) (m : Mu) (o : Oc) : Prop := ∃ (a d1 d2 d3 l : Addr) (M : FM) (p : Int) (w : Str), as = [.r (.ref a), dI p, dS w] ∧ m = flo (fC K) a d1 d2 d3 l M ∧ o = .ret (dI (M.held p w)) [] ∧ M.wok ∧ PyData.strOk w = true ∧ M.sz 100000
theorem ok_Floor_held {P : Program} {w : World} {K : PySem.W.Frag} {mg : Str → Option Value} {base : Heap} (T : Tx K mg w) (c : He.SaysD fa fn K) : FnB P w K mg base 1 (He.fAd K ("Floor", some "held")) ["self", "place", "ware"] (spG K 3 true (g_Floor_held K)) := by
  obtain ⟨fd, F⟩ := c.def_ 9 (d := d_Floor_held) rfl
  refine ⟨fd, fn_ok F sc_Floor_held rfl fun cdv A outer s H E hr => ⟨_, (pss_one (ps_ret (pe_callB (cr_sum' (K := K) rfl rfl) (by rfl) T.z_sum (by decide +kernel) (pa_cons (pe_lock (pe_lc (own := [("one", 3)]) rfl sc_Floor_held.nd (pi_values (pe_fld' (K := K) rfl (pv 0) rfl)) (blkOk_by (own := [("one", 3)]) (N := ["self", "place", "ware", "one"]) (sc := defScope s_Floor_held) (by decide +kernel)) (fun _ _ _ _ _ => (pg_name (i := 3) sc_Floor_held.nd rfl (Or.inl rfl))) (fun _ _ _ _ _ => (pts_one (pt_cmpR (op_eqD' (K := K) rfl hr.units) (pe_slice (sl_tup' (K := K) rfl) (pv 3) po_none (po_some pe_int)) (pe_tup (pa_cons (pv 1) (pa_cons (pv 2) pa_nil))) (nomark _)))) (fun _ _ _ _ _ => (pe_ix (ix_tup' (K := K) rfl) (pv 3) pe_int (fun _ _ => rfl))))) pa_nil)))), ?_⟩, FunD.bindsN F (fun _ _ _ _ _ _ us hl => match us, hl with | [_, _, _], _ => rfl), F.kp⟩
  intro Γ as m o D hK hF hO hn hG hnx hD
  try dsimp only [cxOf]
  obtain ⟨a, d1, d2, d3, l, M, p, w, rfl, rfl, rfl, hw, hs, hz⟩ := hG
  unfold FM.held at hD
  refine x_ret (E := E) (e_sumL (ns := (M.st.filter fun e => decide (e.2.1 = p) && decide (e.2.2.1 = w)).map fun e => e.2.2.2) hK (Ev.to (e_lockK (p := d2) (kvs := stD M.st) 2 rfl fun W od ws hv =>
    e_lc (L := M.st) (F := fun e => .d (hV e.2)) (p := fun e => decide (e.2.1 = p) && decide (e.2.2.1 = w)) (y := fun e => .int e.2.2.2)
      ((w_vals (f_standing T (List.mem_of_getElem? (i := 0) rfl) (e_var rfl)) List.mem_cons_self hv).to (by rw [List.map_map]; rfl)) ?_ hz.2.1) ?_)) hD (List.nil_sublist _)
  · intro e he gh o
    have hwe : PyData.strOk e.2.2.1 = true := hw e he
    refine ⟨_, gw_name, ?_, fun _ => e_ixU hK (e_var rfl) e_int rfl⟩
    refine EvT.to (t_B (e_eqD hK (e_slU hK (e_var rfl) o_none (o_some e_int) ?_) (e_tup (ds := [.int p, .str w]) (a_consD (e_var rfl) (a_consD (e_var rfl) a_nilD))) ((shp_pair hwe).ok (by decide)) ((shp_pair hs).ok (by decide)))) ?_
    · show ¬(HT.sIx 3 0 none = 0 ∧ HT.sIx 3 3 (some 2) = 3)
      decide
    · exact eqv_pair
  · rw [List.map_map]
    rfl
theorem sc_Floor_free : FnScope ["self", "place", "ware"] ["self", "place", "ware"] (defScope s_Floor_free) := ⟨rfl, rfl, rfl, by decide +kernel, rfl, by decide +kernel, by decide +kernel⟩
def g_Floor_free (K : PySem.W.Frag) (as : List Sv) (m : Mu) (o : Oc) : Prop := ∃ (a d1 d2 d3 l : Addr) (M : FM) (p : Int) (w : Str), as = [.r (.ref a), dI p, dS w] ∧ m = flo (fC K) a d1 d2 d3 l M ∧ o = .ret (dI (M.free p w)) [] ∧ M.wok ∧ PyData.strOk w = true ∧ M.sz 100000
theorem ok_Floor_free {P : Program} {w : World} {K : PySem.W.Frag} {mg : Str → Option Value} {base : Heap} (T : Tx K mg w) (c : He.SaysD fa fn K) : FnB P w K mg base 2 (He.fAd K ("Floor", some "free")) ["self", "place", "ware"] (spG K 3 true (g_Floor_free K)) := by
  obtain ⟨fd_Floor_there, g_Floor_there, b_Floor_there, k_Floor_there⟩ := ok_Floor_there (P := P) (w := w) (base := base) T c
  obtain ⟨fd_Floor_held, g_Floor_held, b_Floor_held, k_Floor_held⟩ := ok_Floor_held (P := P) (w := w) (base := base) T c
  obtain ⟨fd, F⟩ := c.def_ 10 (d := d_Floor_free) rfl
  refine ⟨fd, fn_ok F sc_Floor_free rfl fun cdv A outer s H E hr => ⟨_, (pss_one (ps_ret (pe_op op_sub (pe_meth (pv 0) T.cl_Floor T.mt_there g_Floor_there (hr.mono (by decide)) b_Floor_there .nil (passes_call (takes_of rfl rfl rfl rfl) (fun _ _ _ _ z => z)) (pa_cons (pv 1) (pa_cons (pv 2) pa_nil))) (pe_meth (pv 0) T.cl_Floor T.mt_held g_Floor_held (hr.mono (by decide)) b_Floor_held .nil (passes_call (takes_of rfl rfl rfl rfl) (fun _ _ _ _ z => z)) (pa_cons (pv 1) (pa_cons (pv 2) pa_nil)))))), ?_⟩, FunD.bindsN F (fun _ _ _ _ _ _ us hl => match us, hl with | [_, _, _], _ => rfl), F.kp⟩
  intro Γ as m o D hK hF hO hn hG hnx hD
  try dsimp only [cxOf]
  obtain ⟨a, d1, d2, d3, l, M, p, w, rfl, rfl, rfl, hw, hs, hz⟩ := hG
  refine x_ret (E := E) (e_opI (e_meth hK (e_var rfl) (List.mem_of_getElem? (i := 0) rfl) rfl (a_cons (e_var rfl) (a_cons (e_var rfl) a_nil)) ⟨a, d1, d2, d3, l, M, p, w, rfl, rfl, rfl⟩ (List.Sublist.refl _)) (e_meth hK (e_var rfl) (List.mem_of_getElem? (i := 0) rfl) rfl (a_cons (e_var rfl) (a_cons (e_var rfl) a_nil)) ⟨a, d1, d2, d3, l, M, p, w, rfl, rfl, rfl, hw, hs, hz⟩ (List.Sublist.refl _))) hD (List.nil_sublist _)
theorem sc_Floor_whole : FnScope ["self", "ware", "key", "many"] ["self", "ware"] (defScope s_Floor_whole) := ⟨rfl, rfl, rfl, by decide +kernel, rfl, by decide +kernel, by decide +kernel⟩
def g_Floor_whole (K : PySem.W.Frag) (as : List Sv) (m : Mu) (o : Oc) : Prop := ∃ (a d1 d2 d3 l : Addr) (M : FM) (w : Str), as = [.r (.ref a), dS w] ∧ m = flo (fC K) a d1 d2 d3 l M ∧ o = .ret (dI (M.whole w)) [] ∧ M.sz 100000
theorem ok_Floor_whole {P : Program} {w : World} {K : PySem.W.Frag} {mg : Str → Option Value} {base : Heap} (T : Tx K mg w) (c : He.SaysD fa fn K) : FnB P w K mg base 1 (He.fAd K ("Floor", some "whole")) ["self", "ware"] (spG K 2 true (g_Floor_whole K)) := by
  obtain ⟨fd, F⟩ := c.def_ 11 (d := d_Floor_whole) rfl
  refine ⟨fd, fn_ok F sc_Floor_whole rfl fun cdv A outer s H E hr => ⟨_, (pss_one (ps_ret (pe_callB (cr_sum' (K := K) rfl rfl) (by rfl) T.z_sum (by decide +kernel) (pa_cons (pe_lock (pe_lc (own := [("key", 2), ("many", 3)]) rfl sc_Floor_whole.nd (pi_itemsT (pe_fld' (K := K) rfl (pv 0) rfl)) (blkOk_by (own := [("key", 2), ("many", 3)]) (N := ["self", "ware", "key", "many"]) (sc := defScope s_Floor_whole) (by decide +kernel)) (fun _ _ _ _ _ => (pg_tup' (K := K) (n := 2) rfl rfl (pgs_cons (pg_name (i := 2) sc_Floor_whole.nd rfl (Or.inl rfl)) (pgs_cons (pg_name (i := 3) sc_Floor_whole.nd rfl (Or.inl rfl)) pgs_nil)))) (fun _ _ _ _ _ => (pts_one (pt_cmpR op_eq (pe_ix (ix_tup' (K := K) rfl) (pv 2) pe_int (fun _ _ => rfl)) (pv 1) (nomark _)))) (fun _ _ _ _ _ => (pv 3)))) pa_nil)))), ?_⟩, FunD.bindsN F (fun _ _ _ _ _ _ us hl => match us, hl with | [_, _], _ => rfl), F.kp⟩
  intro Γ as m o D hK hF hO hn hG hnx hD
  try dsimp only [cxOf]
  obtain ⟨a, d1, d2, d3, l, M, w, rfl, rfl, rfl, hz⟩ := hG
  unfold FM.whole at hD
  refine x_ret (E := E) (e_sumL (ns := (M.am.filter fun e => decide (e.1.2 = w)).map (·.2)) hK (Ev.to (e_lockT (p := d1) (kvs := amD M.am) 1 rfl fun W od ws hv =>
    e_lc (L := M.am) (F := fun e => dU [.tuple [.int e.1.1, .str e.1.2], .int e.2]) (p := fun e => decide (e.1.2 = w)) (y := fun e => .int e.2)
      ((w_itemsT (f_amounts T (List.mem_of_getElem? (i := 0) rfl) (e_var rfl)) List.mem_cons_self hv).to (by rw [List.map_map]; rfl)) ?_ hz.1) ?_)) hD (List.nil_sublist _)
  · intro e he gh o
    refine ⟨_, gw_tup hK rfl (gws_cons gw_name (gws_cons gw_name gws_nil)), t_B (e_eqS (x := e.1.2) (e_ixU (ds := [.int e.1.1, .str e.1.2]) hK (e_var rfl) e_int rfl) (e_var rfl)), fun _ => e_var rfl⟩
  · rw [List.map_map]
    rfl
theorem sc_Floor_total : FnScope ["self", "ware"] ["self", "ware"] (defScope s_Floor_total) := ⟨rfl, rfl, rfl, by decide +kernel, rfl, by decide +kernel, by decide +kernel⟩
def g_Floor_total (K : PySem.W.Frag) (as : List Sv) (m : Mu) (o : Oc) : Prop := ∃ (a d1 d2 d3 l : Addr) (M : FM) (w : Str), as = [.r (.ref a), dS w] ∧ m = flo (fC K) a d1 d2 d3 l M ∧ o = .ret (.d (tV (M.total w))) []
theorem ok_Floor_total {P : Program} {w : World} {K : PySem.W.Frag} {mg : Str → Option Value} {base : Heap} (T : Tx K mg w) (c : He.SaysD fa fn K) : FnB P w K mg base 1 (He.fAd K ("Floor", some "total")) ["self", "ware"] (spG K 2 true (g_Floor_total K)) := by
  obtain ⟨fd, F⟩ := c.def_ 12 (d := d_Floor_total) rfl
  refine ⟨fd, fn_ok F sc_Floor_total rfl fun cdv A outer s H E hr => ⟨_, (pss_one (ps_ret (pe_dget2 (hu_of hr) (pe_fld' (K := K) rfl (pv 0) rfl) (pv 1) (pe_tup (pa_cons pe_int (pa_cons pe_int (pa_cons pe_int pa_nil)))) ⟨rfl, rfl, rfl, rfl⟩))), ?_⟩, FunD.bindsN F (fun _ _ _ _ _ _ us hl => match us, hl with | [_, _], _ => rfl), F.kp⟩
  intro Γ as m o D hK hF hO hn hG hnx hD
  try dsimp only [cxOf]
  obtain ⟨a, d1, d2, d3, l, M, w, rfl, rfl, rfl⟩ := hG
  refine x_ret (E := E) (Ev.to (e_dgetK2 (k := .inr w) (p := d3) (kvs := toD M.to) (f_totals T (List.mem_of_getElem? (i := 0) rfl) (e_var rfl)) (e_var rfl) (e_tup (ds := [.int 0, .int 0, .int 0]) (a_consD e_int (a_consD e_int (a_consD e_int a_nilD)))) (List.mem_of_getElem? (i := 3) rfl)) ?_) hD (List.nil_sublist _)
  rw [val_to]
  exact congrArg Sv.d (map_getD (f := tV) (a := (0, 0, 0)))
theorem sc_Floor_came : FnScope ["self", "ware"] ["self", "ware"] (defScope s_Floor_came) := ⟨rfl, rfl, rfl, by decide +kernel, rfl, by decide +kernel, by decide +kernel⟩
def g_Floor_came (K : PySem.W.Frag) (as : List Sv) (m : Mu) (o : Oc) : Prop := ∃ (a d1 d2 d3 l : Addr) (M : FM) (w : Str), as = [.r (.ref a), dS w] ∧ m = flo (fC K) a d1 d2 d3 l M ∧ o = .ret (dI (M.total w).1) []
theorem ok_Floor_came {P : Program} {w : World} {K : PySem.W.Frag} {mg : Str → Option Value} {base : Heap} (T : Tx K mg w) (c : He.SaysD fa fn K) : FnB P w K mg base 2 (He.fAd K ("Floor", some "came")) ["self", "ware"] (spG K 2 true (g_Floor_came K)) := by
  obtain ⟨fd_Floor_total, g_Floor_total, b_Floor_total, k_Floor_total⟩ := ok_Floor_total (P := P) (w := w) (base := base) T c
  obtain ⟨fd, F⟩ := c.def_ 13 (d := d_Floor_came) rfl
  refine ⟨fd, fn_ok F sc_Floor_came rfl fun cdv A outer s H E hr => ⟨_, (pss_one (ps_ret (pe_ix (ix_tup' (K := K) rfl) (pe_meth (pv 0) T.cl_Floor T.mt_total g_Floor_total (hr.mono (by decide)) b_Floor_total .nil (passes_call (takes_of rfl rfl rfl rfl) (fun _ _ _ _ z => z)) (pa_cons (pv 1) pa_nil)) pe_int (fun _ _ => rfl)))), ?_⟩, FunD.bindsN F (fun _ _ _ _ _ _ us hl => match us, hl with | [_, _], _ => rfl), F.kp⟩
  intro Γ as m o D hK hF hO hn hG hnx hD
  try dsimp only [cxOf]
  obtain ⟨a, d1, d2, d3, l, M, w, rfl, rfl, rfl⟩ := hG
  exact x_ret (E := E) (e_ixU hK (e_meth hK (e_var rfl) (List.mem_of_getElem? (i := 0) rfl) rfl (a_cons (e_var rfl) a_nil) ⟨a, d1, d2, d3, l, M, w, rfl, rfl, rfl⟩ (List.Sublist.refl _)) e_int rfl) hD (List.nil_sublist _)
theorem sc_Floor_went : FnScope ["self", "ware"] ["self", "ware"] (defScope s_Floor_went) := ⟨rfl, rfl, rfl, by decide +kernel, rfl, by decide +kernel, by decide +kernel⟩
def g_Floor_went (K : PySem.W.Frag) (as : List Sv) (m : Mu) (o : Oc) : Prop := ∃ (a d1 d2 d3 l : Addr) (M : FM) (w : Str), as = [.r (.ref a), dS w] ∧ m = flo (fC K) a d1 d2 d3 l M ∧ o = .ret (dI (M.total w).2.1) []
theorem ok_Floor_went {P : Program} {w : World} {K : PySem.W.Frag} {mg : Str → Option Value} {base : Heap} (T : Tx K mg w) (c : He.SaysD fa fn K) : FnB P w K mg base 2 (He.fAd K ("Floor", some "went")) ["self", "ware"] (spG K 2 true (g_Floor_went K)) := by
  obtain ⟨fd_Floor_total, g_Floor_total, b_Floor_total, k_Floor_total⟩ := ok_Floor_total (P := P) (w := w) (base := base) T c
  obtain ⟨fd, F⟩ := c.def_ 14 (d := d_Floor_went) rfl
  refine ⟨fd, fn_ok F sc_Floor_went rfl fun cdv A outer s H E hr => ⟨_, (pss_one (ps_ret (pe_ix (ix_tup' (K := K) rfl) (pe_meth (pv 0) T.cl_Floor T.mt_total g_Floor_total (hr.mono (by decide)) b_Floor_total .nil (passes_call (takes_of rfl rfl rfl rfl) (fun _ _ _ _ z => z)) (pa_cons (pv 1) pa_nil)) pe_int (fun _ _ => rfl)))), ?_⟩, FunD.bindsN F (fun _ _ _ _ _ _ us hl => match us, hl with | [_, _], _ => rfl), F.kp⟩
  intro Γ as m o D hK hF hO hn hG hnx hD
  try dsimp only [cxOf]
  obtain ⟨a, d1, d2, d3, l, M, w, rfl, rfl, rfl⟩ := hG
  exact x_ret (E := E) (e_ixU hK (e_meth hK (e_var rfl) (List.mem_of_getElem? (i := 0) rfl) rfl (a_cons (e_var rfl) a_nil) ⟨a, d1, d2, d3, l, M, w, rfl, rfl, rfl⟩ (List.Sublist.refl _)) e_int rfl) hD (List.nil_sublist _)
theorem sc_Floor_righted : FnScope ["self", "ware"] ["self", "ware"] (defScope s_Floor_righted) := ⟨rfl, rfl, rfl, by decide +kernel, rfl, by decide +kernel, by decide +kernel⟩
def g_Floor_righted (K : PySem.W.Frag) (as : List Sv) (m : Mu) (o : Oc) : Prop := ∃ (a d1 d2 d3 l : Addr) (M : FM) (w : Str), as = [.r (.ref a), dS w] ∧ m = flo (fC K) a d1 d2 d3 l M ∧ o = .ret (dI (M.total w).2.2) []
theorem ok_Floor_righted {P : Program} {w : World} {K : PySem.W.Frag} {mg : Str → Option Value} {base : Heap} (T : Tx K mg w) (c : He.SaysD fa fn K) : FnB P w K mg base 2 (He.fAd K ("Floor", some "righted")) ["self", "ware"] (spG K 2 true (g_Floor_righted K)) := by
  obtain ⟨fd_Floor_total, g_Floor_total, b_Floor_total, k_Floor_total⟩ := ok_Floor_total (P := P) (w := w) (base := base) T c
  obtain ⟨fd, F⟩ := c.def_ 15 (d := d_Floor_righted) rfl
  refine ⟨fd, fn_ok F sc_Floor_righted rfl fun cdv A outer s H E hr => ⟨_, (pss_one (ps_ret (pe_ix (ix_tup' (K := K) rfl) (pe_meth (pv 0) T.cl_Floor T.mt_total g_Floor_total (hr.mono (by decide)) b_Floor_total .nil (passes_call (takes_of rfl rfl rfl rfl) (fun _ _ _ _ z => z)) (pa_cons (pv 1) pa_nil)) pe_int (fun _ _ => rfl)))), ?_⟩, FunD.bindsN F (fun _ _ _ _ _ _ us hl => match us, hl with | [_, _], _ => rfl), F.kp⟩
  intro Γ as m o D hK hF hO hn hG hnx hD
  try dsimp only [cxOf]
  obtain ⟨a, d1, d2, d3, l, M, w, rfl, rfl, rfl⟩ := hG
  exact x_ret (E := E) (e_ixU hK (e_meth hK (e_var rfl) (List.mem_of_getElem? (i := 0) rfl) rfl (a_cons (e_var rfl) a_nil) ⟨a, d1, d2, d3, l, M, w, rfl, rfl, rfl⟩ (List.Sublist.refl _)) e_int rfl) hD (List.nil_sublist _)
theorem sc_Floor_places : FnScope ["self", "ware", "key", "many"] ["self", "ware"] (defScope s_Floor_places) := ⟨rfl, rfl, rfl, by decide +kernel, rfl, by decide +kernel, by decide +kernel⟩
def g_Floor_places (K : PySem.W.Frag) (as : List Sv) (m : Mu) (o : Oc) : Prop := ∃ (a d1 d2 d3 l : Addr) (M : FM) (w : Str), as = [.r (.ref a), dS w] ∧ m = flo (fC K) a d1 d2 d3 l M ∧ o = nw (.lst ((M.places w).map .int)) [] ∧ M.sz 100000
theorem ok_Floor_places {P : Program} {w : World} {K : PySem.W.Frag} {mg : Str → Option Value} {base : Heap} (T : Tx K mg w) (c : He.SaysD fa fn K) : FnB P w K mg base 1 (He.fAd K ("Floor", some "places")) ["self", "ware"] (spG K 2 true (g_Floor_places K)) := by
  obtain ⟨fd, F⟩ := c.def_ 16 (d := d_Floor_places) rfl
  refine ⟨fd, fn_ok F sc_Floor_places rfl fun cdv A outer s H E hr => ⟨_, (pss_one (ps_ret (pe_callB (cr_sortedI' (K := K) rfl) (by rfl) T.z_sorted (by decide +kernel) (pa_cons (pe_lock (pe_lc (own := [("key", 2), ("many", 3)]) rfl sc_Floor_places.nd (pi_itemsT (pe_fld' (K := K) rfl (pv 0) rfl)) (blkOk_by (own := [("key", 2), ("many", 3)]) (N := ["self", "ware", "key", "many"]) (sc := defScope s_Floor_places) (by decide +kernel)) (fun _ _ _ _ _ => (pg_tup' (K := K) (n := 2) rfl rfl (pgs_cons (pg_name (i := 2) sc_Floor_places.nd rfl (Or.inl rfl)) (pgs_cons (pg_name (i := 3) sc_Floor_places.nd rfl (Or.inl rfl)) pgs_nil)))) (fun _ _ _ _ _ => (pts_one (PW.pt (pw_and (pt_cmpR op_eq (pe_ix (ix_tup' (K := K) rfl) (pv 2) pe_int (fun _ _ => rfl)) (pv 1) (nomark _)) (pw_and1 (pt_cmpR op_gt (pv 3) pe_int (nomark _))))))) (fun _ _ _ _ _ => (pe_ix (ix_tup' (K := K) rfl) (pv 2) pe_int (fun _ _ => rfl))))) pa_nil)))), ?_⟩, FunD.bindsN F (fun _ _ _ _ _ _ us hl => match us, hl with | [_, _], _ => rfl), F.kp⟩
  intro Γ as m o D hK hF hO hn hG hnx hD
  try dsimp only [cxOf]
  obtain ⟨a, d1, d2, d3, l, M, w, rfl, rfl, rfl, hz⟩ := hG
  unfold FM.places at hD
  refine x_retNew (E := E) (n_sortL (ns := (M.am.filter fun e => decide (e.1.2 = w) && decide (e.2 > 0)).map (·.1.1)) hK (Ev.to (e_lockT (p := d1) (kvs := amD M.am) 1 rfl fun W od ws hv =>
    e_lc (L := M.am) (F := fun e => dU [.tuple [.int e.1.1, .str e.1.2], .int e.2]) (p := fun e => decide (e.1.2 = w) && decide (e.2 > 0)) (y := fun e => .int e.1.1)
      ((w_itemsT (f_amounts T (List.mem_of_getElem? (i := 0) rfl) (e_var rfl)) List.mem_cons_self hv).to (by rw [List.map_map]; rfl)) ?_ hz.1) ?_)) hD (List.nil_sublist _)
  · intro e he gh o
    refine ⟨_, gw_tup hK rfl (gws_cons gw_name (gws_cons gw_name gws_nil)), t_and (t_B (e_eqS (x := e.1.2) (e_ixU (ds := [.int e.1.1, .str e.1.2]) hK (e_var rfl) e_int rfl) (e_var rfl))) (fun _ => t_B (e_opB (e_var rfl) e_int)), fun _ => e_ixU (ds := [.int e.1.1, .str e.1.2]) hK (e_var rfl) e_int rfl⟩
  · rw [List.map_map]
    rfl
theorem sc_Floor_numbers : FnScope ["self"] ["self"] (defScope s_Floor_numbers) := ⟨rfl, rfl, rfl, by decide +kernel, rfl, by decide +kernel, by decide +kernel⟩
def g_Floor_numbers (K : PySem.W.Frag) (as : List Sv) (m : Mu) (o : Oc) : Prop := ∃ (a d1 d2 d3 l : Addr) (M : FM), as = [.r (.ref a)] ∧ m = flo (fC K) a d1 d2 d3 l M ∧ o = nw (.lst (M.numbers.map .int)) []
theorem ok_Floor_numbers {P : Program} {w : World} {K : PySem.W.Frag} {mg : Str → Option Value} {base : Heap} (T : Tx K mg w) (c : He.SaysD fa fn K) : FnB P w K mg base 1 (He.fAd K ("Floor", some "numbers")) ["self"] (spG K 1 true (g_Floor_numbers K)) := by
  obtain ⟨fd, F⟩ := c.def_ 17 (d := d_Floor_numbers) rfl
  refine ⟨fd, fn_ok F sc_Floor_numbers rfl fun cdv A outer s H E hr => ⟨_, (pss_one (ps_ret (pe_callB (cr_sortedDI rfl) (by rfl) T.z_sorted (by decide +kernel) (pa_cons (pe_fld' (K := K) rfl (pv 0) rfl) pa_nil)))), ?_⟩, FunD.bindsN F (fun _ _ _ _ _ _ us hl => match us, hl with | [_], _ => rfl), F.kp⟩
  intro Γ as m o D hK hF hO hn hG hnx hD
  try dsimp only [cxOf]
  obtain ⟨a, d1, d2, d3, l, M, rfl, rfl, rfl⟩ := hG
  unfold FM.numbers at hD
  refine x_retNew (E := E) (n_sortDI (p := d2) (ns := M.st.map (·.1)) (f_standing T (List.mem_of_getElem? (i := 0) rfl) (e_var rfl)) (List.mem_of_getElem? (i := 2) rfl) ?_) hD (List.nil_sublist _)
  rw [List.map_map, List.map_map]
  rfl
theorem sc_is_whole : FnScope ["thing", "least", "most"] ["thing", "least", "most"] (defScope s_is_whole) := ⟨rfl, rfl, rfl, by decide +kernel, rfl, by decide +kernel, by decide +kernel⟩
def g_is_whole (K : PySem.W.Frag) (as : List Sv) (m : Mu) (o : Oc) : Prop := ∃ d a b, as = [.d d, dI a, dI b] ∧ m = [] ∧ o = .ret (dB (isWh d a b)) []
theorem ok_is_whole {P : Program} {w : World} {K : PySem.W.Frag} {mg : Str → Option Value} {base : Heap} (T : Tx K mg w) (c : He.SaysD fa fn K) : FnB P w K mg base 1 (He.fAd K ("is_whole", none)) ["thing", "least", "most"] (spG K 3 true (g_is_whole K)) := by
  obtain ⟨fd, F⟩ := c.def_ 0 (d := d_is_whole) rfl
  refine ⟨fd, fn_ok F sc_is_whole rfl fun cdv A outer s H E hr => ⟨_, (pss_one (ps_ret (pe_and (pe_callB (call_isi' (K := K) rfl) (by rfl) T.z_isinstance (by decide +kernel) (pa_cons (pv 0) (pa_cons (pe_bltn (v := .ty "int") rfl T.z_int (by decide +kernel) rfl) pa_nil))) (pe_and (pe_not (pe_callB (call_isi' (K := K) rfl) (by rfl) T.z_isinstance (by decide +kernel) (pa_cons (pv 0) (pa_cons (pe_bltn (v := .ty "bool") rfl T.z_bool (by decide +kernel) rfl) pa_nil)))) (pe_one (pe_chain op_le op_le (pv 1) (pv 0) (pv 2))))))), ?_⟩, FunD.bindsN F (fun _ _ _ _ _ _ us hl => match us, hl with | [_, _, _], _ => rfl), F.kp⟩
  intro Γ as m o D hK hF hO hn hG hnx hD
  try dsimp only [cxOf]
  obtain ⟨d, a, b, rfl, rfl, rfl⟩ := hG
  cases d <;> ((refine x_retP (E := E) ?_ hD; walk_at "evto") <;> simp [isWh, isA])
theorem sc_is_ware : FnScope ["thing", "sign"] ["thing"] (defScope s_is_ware) := ⟨rfl, rfl, rfl, by decide +kernel, rfl, by decide +kernel, by decide +kernel⟩
def g_is_ware (K : PySem.W.Frag) (as : List Sv) (m : Mu) (o : Oc) : Prop := ∃ d, as = [.d d] ∧ m = [] ∧ stOk d ∧ o = .ret (dB (isWareB d)) []
theorem ok_is_ware {P : Program} {w : World} {K : PySem.W.Frag} {mg : Str → Option Value} {base : Heap} (T : Tx K mg w) (c : He.SaysD fa fn K) : FnB P w K mg base 1 (He.fAd K ("is_ware", none)) ["thing"] (spG K 1 true (g_is_ware K)) := by
  obtain ⟨tL, hLETTERS⟩ := T.s_LETTERS
  obtain ⟨fd, F⟩ := c.def_ 1 (d := d_is_ware) rfl
  refine ⟨fd, fn_ok F sc_is_ware rfl fun cdv A outer s H E hr => ⟨_, (pss_cons (ps_if (PW.pt (pw_or (pt_not (pt_val (pe_callB (call_isi' (K := K) rfl) (by rfl) T.z_isinstance (by decide +kernel) (pa_cons (pv 0) (pa_cons (pe_bltn (v := .ty "str") rfl T.z_str (by decide +kernel) rfl) pa_nil))))) (pw_or1 (pt_not (pt_chain op_le op_le pe_int (pe_callB call_len_str (by rfl) T.z_len (by decide +kernel) (pa_cons (pv 0) pa_nil)) pe_int))))) (pss_one (ps_ret pe_bl)) pss_nil)
    (pss_cons (ps_for (passes_of rfl) rfl (pi_str (pv 0)) (pg_name (i := 1) sc_is_ware.nd rfl (Or.inl rfl))
      (pss_one (ps_if (pt_cmpR op_notIn_sign (pv 1) (pe_glob (v := .str letters) rfl hLETTERS ⟨_, rfl⟩) rfl) (pss_one (ps_ret pe_bl)) pss_nil)))
    (pss_one (ps_ret pe_bl)))), ?_⟩, FunD.bindsN F (fun _ _ _ _ _ _ us hl => match us, hl with | [_], _ => rfl), F.kp⟩
  intro Γ as m o D hK hF hO hn hG hnx hD
  try dsimp only [cxOf]
  obtain ⟨d, rfl, rfl, hs, rfl⟩ := hG
  by_cases hd : ∃ x, d = .str x
  rotate_left
  · have h1 : isA "str" d = false := by cases d <;> first | rfl | exact absurd ⟨_, rfl⟩ hd
    have h2 : isWareB d = false := by cases d <;> first | rfl | exact absurd ⟨_, rfl⟩ hd
    rw [h2] at hD
    have ht := t_not (t_B (e_isi_str (Γ := Γ) (μ := []) (δ := [some (.d d), none]) hK (e_var (k := 0) (s := .d d) rfl)))
    rw [h1] at ht
    exact x_seq (x_if (t_or (b := true) ht (fun h => absurd h (by decide))) (fun _ => x_retP (E := E) e_bl hD) (fun h => absurd h (by decide)))
  obtain ⟨x, rfl⟩ := hd
  have hx := hs x rfl
  refine x_seq (x_if (t_or (t_not (t_B (e_isi_str hK (e_var rfl)))) (fun _ => t_not (t_tst (e_chain e_int (e_lenS (e_var rfl) hx) e_int)))) (fun h => ?_) fun h => x_next (x_nx ?_))
  · refine x_retP (E := E) (Ev.to e_bl ?_) hD
    refine congrArg dB ?_
    have h1 : (decide ((1 : Int) ≤ (x.length : Int)) && decide ((x.length : Int) ≤ 20)) = false := by
      rw [← Bool.not_eq_true]
      intro hh
      simp [isA] at h hh
      omega
    have h2 : (decide (1 ≤ x.length) && decide (x.length ≤ 20)) = false := by
      rw [← h1, Bool.eq_iff_iff]
      simp
      omega
    show false = (_ && _ && _)
    rw [h2]
    rfl
  · have h1 : (decide ((1 : Int) ≤ (x.length : Int)) && decide ((x.length : Int) ≤ 20)) = true := by simpa [isA] using h
    have h2 : (decide (1 ≤ x.length) && decide (x.length ≤ 20)) = true := by
      rw [← h1, Bool.eq_iff_iff]
      simp
      omega
    refine x_seq (x_for (w_str (e_var rfl)) (fun i δ μ => ∃ q, δ = [some (dS x), q] ∧ μ = [] ∧ ∀ z ∈ x.cps.toList.take i, z ∈ letters.cps.toList) ⟨_, rfl, rfl, fun _ h => nomatch h⟩ ?_ ?_)
    · rintro i s δ μ gh D' hs' ⟨q, rfl, rfl, hi⟩ hnx' hct' hrt' _
      obtain ⟨z, hz, rfl⟩ : ∃ z, x.cps.toList[i]? = some z ∧ s = dS ⟨#[z]⟩ := by
        unfold signS at hs'
        rw [List.getElem?_map] at hs'
        cases e : x.cps.toList[i]? with
        | none => rw [e] at hs'; cases hs'
        | some z => rw [e] at hs'; cases hs'; exact ⟨z, rfl, rfl⟩
      refine ⟨_, gt_name, x_if (t_B (e_ninSign (k := z) (y := letters) (e_var rfl) e_str)) (fun h => ?_) fun h => x_next ?_⟩
      · refine x_retP (E := E) (s := dB (isWareB (.str x))) (Ev.to e_bl ?_) (by rw [hrt']; exact hD)
        refine congrArg dB ?_
        have hn : z ∉ letters.cps.toList := by simpa using h
        symm
        show (_ && _ && _) = false
        rw [h2, Bool.true_and, List.all_eq_false]
        exact ⟨z, List.mem_of_getElem? hz, by simpa using hn⟩
      · refine nx_loop hnx' ⟨_, rfl, rfl, fun y hy => ?_⟩
        rw [take_succ_get hz] at hy
        rcases List.mem_append.mp hy with hy | hy
        · exact hi y hy
        · cases List.mem_singleton.mp hy
          simpa using h
    · rintro δ μ ⟨q, rfl, rfl, hi⟩
      refine x_nx (x_retP (E := E) (Ev.to e_bl ?_) hD)
      refine congrArg dB ?_
      symm
      show (_ && _ && _) = true
      rw [h2, Bool.true_and, List.all_eq_true]
      intro z hz
      refine decide_eq_true (hi z ?_)
      rw [List.take_of_length_le (by simp [signS])]
      exact hz
theorem sc_need_ware : FnScope ["thing"] ["thing"] (defScope s_need_ware) := ⟨rfl, rfl, rfl, by decide +kernel, rfl, by decide +kernel, by decide +kernel⟩
def g_need_ware (K : PySem.W.Frag) (as : List Sv) (m : Mu) (o : Oc) : Prop := ∃ d, as = [.d d] ∧ m = [] ∧ stOk d ∧ o = if isWareB d = true then .ret dN [] else .exc (He.ga K "BadWare") []
theorem ok_need_ware {P : Program} {w : World} {K : PySem.W.Frag} {mg : Str → Option Value} {base : Heap} (T : Tx K mg w) (c : He.SaysD fa fn K) : FnB P w K mg base 2 (He.fAd K ("need_ware", none)) ["thing"] (spG K 1 true (g_need_ware K)) := by
  obtain ⟨fd_is_ware, g_is_ware, b_is_ware, k_is_ware⟩ := ok_is_ware (P := P) (w := w) (base := base) T c
  obtain ⟨fd, F⟩ := c.def_ 2 (d := d_need_ware) rfl
  refine ⟨fd, fn_ok F sc_need_ware rfl fun cdv A outer s H E hr => ⟨_, (pss_one (ps_if (pt_not (pt_val (pe_call g_is_ware (hr.mono (by decide)) (by rfl) T.m_is_ware k_is_ware b_is_ware .nil (passes_call (takes_of rfl rfl rfl rfl) (fun _ _ _ _ z => z)) (pa_cons (pv 0) pa_nil)))) (pss_one (ps_raise rfl (takes_of rfl rfl rfl rfl) (pmk_own PySem.F.excBase_ValueError T.x_BadWare.1 T.m_BadWare T.x_BadWare.2.1 (raises_own T.x_BadWare.2.2.1 T.x_BadWare.2.2.2) (by exact rfl)))) pss_nil)), ?_⟩, FunD.bindsN F (fun _ _ _ _ _ _ us hl => match us, hl with | [_], _ => rfl), F.kp⟩
  intro Γ as m o D hK hF hO hn hG hnx hD
  try dsimp only [cxOf]
  obtain ⟨d, rfl, rfl, hs, rfl⟩ := hG
  refine x_if (t_not (t_B (e_call hK (a_cons (e_var rfl) a_nil) ⟨d, rfl, rfl, hs, rfl⟩ (List.nil_sublist _)))) (fun h => ?_) fun h => x_next ?_
  · have h : isWareB d = false := by simpa using h
    rw [h] at hD
    exact x_raise hD (List.nil_sublist _)
  · have h : isWareB d = true := by simpa using h
    rw [if_pos h] at hD
    exact x_end hnx hD (List.nil_sublist _)
theorem sc_need_place : FnScope ["thing"] ["thing"] (defScope s_need_place) := ⟨rfl, rfl, rfl, by decide +kernel, rfl, by decide +kernel, by decide +kernel⟩
def g_need_place (K : PySem.W.Frag) (as : List Sv) (m : Mu) (o : Oc) : Prop := ∃ d, as = [.d d] ∧ m = [] ∧ o = if isWh d 0 9999 = true then .ret dN [] else .exc (He.ga K "BadPlace") []
theorem ok_need_place {P : Program} {w : World} {K : PySem.W.Frag} {mg : Str → Option Value} {base : Heap} (T : Tx K mg w) (c : He.SaysD fa fn K) : FnB P w K mg base 2 (He.fAd K ("need_place", none)) ["thing"] (spG K 1 true (g_need_place K)) := by
  obtain ⟨fd_is_whole, g_is_whole, b_is_whole, k_is_whole⟩ := ok_is_whole (P := P) (w := w) (base := base) T c
  obtain ⟨fd, F⟩ := c.def_ 3 (d := d_need_place) rfl
  refine ⟨fd, fn_ok F sc_need_place rfl fun cdv A outer s H E hr => ⟨_, (pss_one (ps_if (pt_not (pt_val (pe_call g_is_whole (hr.mono (by decide)) (by rfl) T.m_is_whole k_is_whole b_is_whole .nil (passes_call (takes_of rfl rfl rfl rfl) (fun _ _ _ _ z => z)) (pa_cons (pv 0) (pa_cons pe_int (pa_cons pe_int pa_nil)))))) (pss_one (ps_raise rfl (takes_of rfl rfl rfl rfl) (pmk_own PySem.F.excBase_ValueError T.x_BadPlace.1 T.m_BadPlace T.x_BadPlace.2.1 (raises_own T.x_BadPlace.2.2.1 T.x_BadPlace.2.2.2) (by exact rfl)))) pss_nil)), ?_⟩, FunD.bindsN F (fun _ _ _ _ _ _ us hl => match us, hl with | [_], _ => rfl), F.kp⟩
  intro Γ as m o D hK hF hO hn hG hnx hD
  try dsimp only [cxOf]
  obtain ⟨d, rfl, rfl, rfl⟩ := hG
  refine x_if (t_not (t_B (e_call hK (a_cons (e_var rfl) (a_cons e_int (a_cons e_int a_nil))) ⟨d, 0, 9999, rfl, rfl, rfl⟩ (List.nil_sublist _)))) (fun h => ?_) fun h => x_next ?_
  · have h : isWh d 0 9999 = false := by simpa using h
    rw [h] at hD
    exact x_raise hD (List.nil_sublist _)
  · have h : isWh d 0 9999 = true := by simpa using h
    rw [if_pos h] at hD
    exact x_end hnx hD (List.nil_sublist _)
theorem sc_need_many : FnScope ["thing", "least"] ["thing", "least"] (defScope s_need_many) := ⟨rfl, rfl, rfl, by decide +kernel, rfl, by decide +kernel, by decide +kernel⟩
def g_need_many (K : PySem.W.Frag) (as : List Sv) (m : Mu) (o : Oc) : Prop := ∃ d a, as = [.d d, dI a] ∧ m = [] ∧ o = if isWh d a (10 ^ 30) = true then .ret dN [] else .exc (He.ga K "BadMany") []
theorem ok_need_many {P : Program} {w : World} {K : PySem.W.Frag} {mg : Str → Option Value} {base : Heap} (T : Tx K mg w) (c : He.SaysD fa fn K) : FnB P w K mg base 2 (He.fAd K ("need_many", none)) ["thing", "least"] (spG K 2 true (g_need_many K)) := by
  obtain ⟨fd_is_whole, g_is_whole, b_is_whole, k_is_whole⟩ := ok_is_whole (P := P) (w := w) (base := base) T c
  obtain ⟨fd, F⟩ := c.def_ 4 (d := d_need_many) rfl
  refine ⟨fd, fn_ok F sc_need_many rfl fun cdv A outer s H E hr => ⟨_, (pss_one (ps_if (pt_not (pt_val (pe_call g_is_whole (hr.mono (by decide)) (by rfl) T.m_is_whole k_is_whole b_is_whole .nil (passes_call (takes_of rfl rfl rfl rfl) (fun _ _ _ _ z => z)) (pa_cons (pv 0) (pa_cons (pv 1) (pa_cons (pe_op op_pow pe_int pe_int) pa_nil)))))) (pss_one (ps_raise rfl (takes_of rfl rfl rfl rfl) (pmk_own PySem.F.excBase_ValueError T.x_BadMany.1 T.m_BadMany T.x_BadMany.2.1 (raises_own T.x_BadMany.2.2.1 T.x_BadMany.2.2.2) (by exact rfl)))) pss_nil)), ?_⟩, FunD.bindsN F (fun _ _ _ _ _ _ us hl => match us, hl with | [_, _], _ => rfl), F.kp⟩
  intro Γ as m o D hK hF hO hn hG hnx hD
  try dsimp only [cxOf]
  obtain ⟨d, a, rfl, rfl, rfl⟩ := hG
  refine x_if (t_not (t_B (e_call hK (a_cons (e_var rfl) (a_cons (e_var rfl) (a_cons (e_opIC e_int e_int ?_) a_nil))) ⟨d, a, 10 ^ 30, rfl, rfl, rfl⟩ (List.nil_sublist _)))) (fun h => ?_) fun h => x_next ?_
  · exact ⟨by decide, by decide, by decide⟩
  · have h : isWh d a (10 ^ 30) = false := by simpa using h
    rw [h] at hD
    exact x_raise hD (List.nil_sublist _)
  · have h : isWh d a (10 ^ 30) = true := by simpa using h
    rw [if_pos h] at hD
    exact x_end hnx hD (List.nil_sublist _)
theorem sc_Floor_change : FnScope ["self", "place", "ware", "many"] ["self", "place", "ware", "many"] (defScope s_Floor_change) := ⟨rfl, rfl, rfl, by decide +kernel, rfl, by decide +kernel, by decide +kernel⟩
def g_Floor_change (K : PySem.W.Frag) (as : List Sv) (m : Mu) (o : Oc) : Prop := ∃ (a d1 d2 d3 l : Addr) (M : FM) (p : Int) (w : Str) (n : Int), as = [.r (.ref a), dI p, dS w, dI n] ∧ m = flo (fC K) a d1 d2 d3 l M ∧ o = .ret dN (flo (fC K) a d1 d2 d3 l (M.change p w n)) ∧ M.sz 99999
theorem ok_Floor_change {P : Program} {w : World} {K : PySem.W.Frag} {mg : Str → Option Value} {base : Heap} (T : Tx K mg w) (c : He.SaysD fa fn K) : FnB P w K mg base 2 (He.fAd K ("Floor", some "change")) ["self", "place", "ware", "many"] (spG K 4 false (g_Floor_change K)) := by
  obtain ⟨fd_Floor_there, g_Floor_there, b_Floor_there, k_Floor_there⟩ := ok_Floor_there (P := P) (w := w) (base := base) T c
  obtain ⟨fd, F⟩ := c.def_ 20 (d := d_Floor_change) rfl
  refine ⟨fd, fn_ok F sc_Floor_change rfl fun cdv A outer s H E hr => ⟨_, (pss_one (ps_asg (pe_op op_add (pe_meth (pv 0) T.cl_Floor T.mt_there g_Floor_there (hr.mono (by decide)) b_Floor_there .nil (passes_call (takes_of rfl rfl rfl rfl) (fun _ _ _ _ z => z)) (pa_cons (pv 1) (pa_cons (pv 2) pa_nil))) (pv 3)) (pg_sub (pe_fld' (K := K) rfl (pv 0) rfl) (pe_tup (pa_cons (pv 1) (pa_cons (pv 2) pa_nil))) (set_dict (hu_of hr))))), ?_⟩, FunD.bindsN F (fun _ _ _ _ _ _ us hl => match us, hl with | [_, _, _, _], _ => rfl), F.kp⟩
  intro Γ as m o D hK hF hO hn hG hnx hD
  try dsimp only [cxOf]
  obtain ⟨a, d1, d2, d3, l, M, p, w, n, rfl, rfl, rfl, hz⟩ := hG
  refine x_dputT (ks := [.inl p, .inr w]) (p := d1) (kts := amD M.am) 1 (e_opI (e_meth hK (e_var rfl) (List.mem_of_getElem? (i := 0) rfl) rfl (a_cons (e_var rfl) (a_cons (e_var rfl) a_nil)) ⟨a, d1, d2, d3, l, M, p, w, rfl, rfl, rfl⟩ (List.Sublist.refl _)) (e_var rfl)) (f_amounts T (List.mem_of_getElem? (i := 0) rfl) (e_var rfl)) (a_consD (e_var rfl) (a_consD (e_var rfl) a_nilD)) rfl ?_ (may_of 1 hF rfl) ?_
  · rw [List.length_map]
    exact Nat.lt_succ_of_le hz.1
  · rw [put_am]
    exact x_end hnx hD (List.Sublist.refl _)
theorem sc_Floor_tell : FnScope ["self", "ware", "came", "went", "righted", "total"] ["self", "ware", "came", "went", "righted"] (defScope s_Floor_tell) := ⟨rfl, rfl, rfl, by decide +kernel, rfl, by decide +kernel, by decide +kernel⟩
def g_Floor_tell (K : PySem.W.Frag) (as : List Sv) (m : Mu) (o : Oc) : Prop := ∃ (a d1 d2 d3 l : Addr) (M : FM) (w : Str) (x y z : Int), as = [.r (.ref a), dS w, dI x, dI y, dI z] ∧ m = flo (fC K) a d1 d2 d3 l M ∧ o = .ret dN (flo (fC K) a d1 d2 d3 l (M.tell w x y z)) ∧ M.sz 99999
theorem ok_Floor_tell {P : Program} {w : World} {K : PySem.W.Frag} {mg : Str → Option Value} {base : Heap} (T : Tx K mg w) (c : He.SaysD fa fn K) : FnB P w K mg base 2 (He.fAd K ("Floor", some "tell")) ["self", "ware", "came", "went", "righted"] (spG K 5 false (g_Floor_tell K)) := by
  obtain ⟨fd_Floor_total, g_Floor_total, b_Floor_total, k_Floor_total⟩ := ok_Floor_total (P := P) (w := w) (base := base) T c
  obtain ⟨fd, F⟩ := c.def_ 21 (d := d_Floor_tell) rfl
  refine ⟨fd, fn_ok F sc_Floor_tell rfl fun cdv A outer s H E hr => ⟨_, (pss_cons (ps_set (i := 5) sc_Floor_tell.nd rfl (Or.inl rfl) (pe_meth (pv 0) T.cl_Floor T.mt_total g_Floor_total (hr.mono (by decide)) b_Floor_total .nil (passes_call (takes_of rfl rfl rfl rfl) (fun _ _ _ _ z => z)) (pa_cons (pv 1) pa_nil)))
    (pss_one (ps_asg (pe_tup (pa_cons (pe_op op_add (pe_ix (ix_tup' (K := K) rfl) (pv 5) pe_int (fun _ _ => rfl)) (pv 2)) (pa_cons (pe_op op_add (pe_ix (ix_tup' (K := K) rfl) (pv 5) pe_int (fun _ _ => rfl)) (pv 3)) (pa_cons (pe_op op_add (pe_ix (ix_tup' (K := K) rfl) (pv 5) pe_int (fun _ _ => rfl)) (pv 4)) pa_nil)))) (pg_sub (pe_fld' (K := K) rfl (pv 0) rfl) (pv 1) (set_dict (hu_of hr)))))), ?_⟩, FunD.bindsN F (fun _ _ _ _ _ _ us hl => match us, hl with | [_, _, _, _, _], _ => rfl), F.kp⟩
  intro Γ as m o D hK hF hO hn hG hnx hD
  try dsimp only [cxOf]
  obtain ⟨a, d1, d2, d3, l, M, w, x, y, z, rfl, rfl, rfl, hz⟩ := hG
  refine x_let (e_meth hK (e_var rfl) (List.mem_of_getElem? (i := 0) rfl) rfl (a_cons (e_var rfl) a_nil) ⟨a, d1, d2, d3, l, M, w, rfl, rfl, rfl⟩ (List.Sublist.refl _)) ?_
  refine x_dputK (k := .inr w) (p := d3) (kvs := toD M.to) (d := tV ((M.total w).1 + x, (M.total w).2.1 + y, (M.total w).2.2 + z)) 3 (e_tup (ds := [.int ((M.total w).1 + x), .int ((M.total w).2.1 + y), .int ((M.total w).2.2 + z)]) (a_consD (e_opI (e_ixU hK (e_var rfl) e_int rfl) (e_var rfl)) (a_consD (e_opI (e_ixU hK (e_var rfl) e_int rfl) (e_var rfl)) (a_consD (e_opI (e_ixU hK (e_var rfl) e_int rfl) (e_var rfl)) a_nilD)))) (f_totals T (List.mem_of_getElem? (i := 0) rfl) (e_var rfl)) (e_var rfl) rfl ?_ (may_of 3 hF rfl) ?_
  · rw [List.length_map]
    exact Nat.lt_succ_of_le hz.2.2.1
  · rw [put_to]
    exact x_end hnx hD (List.Sublist.refl _)
section
variable {Γ : Ga} {δ : De} {μ m2 : Mu} {te tl : TE} {K : PySem.W.Frag} {E : XK} {R : VK} {u : TS} {D : Ends} {d : PD} {a : Int}
theorem st_ware_ok (hK : Γ.K = K) (ha : Ev Γ te δ μ (.d d) μ) (h : isWareB d = true) (hs : stOk d) (n : Sx Γ u D δ μ) : Sx Γ (tSeq (tDrop (tCall (spG K 1 true (g_need_ware K)) [] E (tCons te tNil))) u) D δ μ :=
  x_seq (x_drop (e_call hK (a_cons ha a_nil) ⟨d, rfl, rfl, hs, (if_pos h).symm⟩ (List.nil_sublist _)) (x_nx n))
theorem st_ware_no (hK : Γ.K = K) (ha : Ev Γ te δ μ (.d d) μ) (h : isWareB d = false) (hs : stOk d) (hD : OcOk Γ.K Γ.W0 Γ.F R E (.exc (He.ga K "BadWare") m2)) (hm : m2.Sublist μ) : Sx Γ (tSeq (tDrop (tCall (spG K 1 true (g_need_ware K)) [] E (tCons te tNil))) u) D δ μ :=
  x_seq (x_dropX (ex_call (m := []) (m' := []) (rest := μ) hK (a_cons ha a_nil) ⟨d, rfl, rfl, hs, (by rw [h]; rfl)⟩ rfl (fun b hb => nomatch hb) hD hm))
theorem st_place_ok (hK : Γ.K = K) (ha : Ev Γ te δ μ (.d d) μ) (h : isWh d 0 9999 = true) (n : Sx Γ u D δ μ) : Sx Γ (tSeq (tDrop (tCall (spG K 1 true (g_need_place K)) [] E (tCons te tNil))) u) D δ μ :=
  x_seq (x_drop (e_call hK (a_cons ha a_nil) ⟨d, rfl, rfl, (if_pos h).symm⟩ (List.nil_sublist _)) (x_nx n))
theorem st_place_no (hK : Γ.K = K) (ha : Ev Γ te δ μ (.d d) μ) (h : isWh d 0 9999 = false) (hD : OcOk Γ.K Γ.W0 Γ.F R E (.exc (He.ga K "BadPlace") m2)) (hm : m2.Sublist μ) : Sx Γ (tSeq (tDrop (tCall (spG K 1 true (g_need_place K)) [] E (tCons te tNil))) u) D δ μ :=
  x_seq (x_dropX (ex_call (m := []) (m' := []) (rest := μ) hK (a_cons ha a_nil) ⟨d, rfl, rfl, (by rw [h]; rfl)⟩ rfl (fun b hb => nomatch hb) hD hm))
theorem st_many_ok (hK : Γ.K = K) (ha : Ev Γ te δ μ (.d d) μ) (hl : Ev Γ tl δ μ (dI a) μ) (h : isWh d a (10 ^ 30) = true) (n : Sx Γ u D δ μ) : Sx Γ (tSeq (tDrop (tCall (spG K 2 true (g_need_many K)) [] E (tCons te (tCons tl tNil)))) u) D δ μ :=
  x_seq (x_drop (e_call hK (a_cons ha (a_cons hl a_nil)) ⟨d, a, rfl, rfl, (if_pos h).symm⟩ (List.nil_sublist _)) (x_nx n))
theorem st_many_no (hK : Γ.K = K) (ha : Ev Γ te δ μ (.d d) μ) (hl : Ev Γ tl δ μ (dI a) μ) (h : isWh d a (10 ^ 30) = false) (hD : OcOk Γ.K Γ.W0 Γ.F R E (.exc (He.ga K "BadMany") m2)) (hm : m2.Sublist μ) : Sx Γ (tSeq (tDrop (tCall (spG K 2 true (g_need_many K)) [] E (tCons te (tCons tl tNil)))) u) D δ μ :=
  x_seq (x_dropX (ex_call (m := []) (m' := []) (rest := μ) hK (a_cons ha (a_cons hl a_nil)) ⟨d, a, rfl, rfl, (by rw [h]; rfl)⟩ rfl (fun b hb => nomatch hb) hD hm))
end
theorem sc_Floor_come : FnScope ["self", "place", "ware", "many"] ["self", "place", "ware", "many"] (defScope s_Floor_come) := ⟨rfl, rfl, rfl, by decide +kernel, rfl, by decide +kernel, by decide +kernel⟩
def g_Floor_come (K : PySem.W.Frag) (as : List Sv) (m : Mu) (o : Oc) : Prop := ∃ (a d1 d2 d3 l : Addr) (M : FM) (dp dw dn : PD), as = [.r (.ref a), .d dp, .d dw, .d dn] ∧ m = flo (fC K) a d1 d2 d3 l M ∧ stOk dw ∧ M.sz 99990 ∧ ((isWareB dw = false ∧ o = .exc (He.ga K "BadWare") (flo (fC K) a d1 d2 d3 l M)) ∨ (isWareB dw = true ∧ isWh dp 0 9999 = false ∧ o = .exc (He.ga K "BadPlace") (flo (fC K) a d1 d2 d3 l M)) ∨ (isWareB dw = true ∧ isWh dp 0 9999 = true ∧ isWh dn 1 (10 ^ 30) = false ∧ o = .exc (He.ga K "BadMany") (flo (fC K) a d1 d2 d3 l M)) ∨ ∃ p w n, dp = .int p ∧ dw = .str w ∧ dn = .int n ∧ WareOk w ∧ isWh dp 0 9999 = true ∧ isWh dn 1 (10 ^ 30) = true ∧ o = .ret dN (flo (fC K) a d1 d2 d3 l (M.come p w n)))
theorem ok_Floor_come {P : Program} {w : World} {K : PySem.W.Frag} {mg : Str → Option Value} {base : Heap} (T : Tx K mg w) (c : He.SaysD fa fn K) : FnB P w K mg base 3 (He.fAd K ("Floor", some "come")) ["self", "place", "ware", "many"] (spG K 4 false (g_Floor_come K)) := by
  obtain ⟨fd_need_ware, g_need_ware, b_need_ware, k_need_ware⟩ := ok_need_ware (P := P) (w := w) (base := base) T c
  obtain ⟨fd_need_place, g_need_place, b_need_place, k_need_place⟩ := ok_need_place (P := P) (w := w) (base := base) T c
  obtain ⟨fd_need_many, g_need_many, b_need_many, k_need_many⟩ := ok_need_many (P := P) (w := w) (base := base) T c
  obtain ⟨fd_Floor_change, g_Floor_change, b_Floor_change, k_Floor_change⟩ := ok_Floor_change (P := P) (w := w) (base := base) T c
  obtain ⟨fd_Floor_tell, g_Floor_tell, b_Floor_tell, k_Floor_tell⟩ := ok_Floor_tell (P := P) (w := w) (base := base) T c
  obtain ⟨fd, F⟩ := c.def_ 26 (d := d_Floor_come) rfl
  refine ⟨fd, fn_ok F sc_Floor_come rfl fun cdv A outer s H E hr => ⟨_, (pss_cons (ps_expr (pe_call g_need_ware (hr.mono (by decide)) (by rfl) T.m_need_ware k_need_ware b_need_ware .nil (passes_call (takes_of rfl rfl rfl rfl) (fun _ _ _ _ z => z)) (pa_cons (pv 2) pa_nil)))
    (pss_cons (ps_expr (pe_call g_need_place (hr.mono (by decide)) (by rfl) T.m_need_place k_need_place b_need_place .nil (passes_call (takes_of rfl rfl rfl rfl) (fun _ _ _ _ z => z)) (pa_cons (pv 1) pa_nil)))
    (pss_cons (ps_expr (pe_call g_need_many (hr.mono (by decide)) (by rfl) T.m_need_many k_need_many b_need_many .nil (passes_call (takes_of rfl rfl rfl rfl) (fun _ _ _ _ z => z)) (pa_cons (pv 3) (pa_cons pe_int pa_nil))))
    (pss_cons (ps_expr (pe_meth (pv 0) T.cl_Floor T.mt_change g_Floor_change (hr.mono (by decide)) b_Floor_change .nil (passes_call (takes_of rfl rfl rfl rfl) (fun _ _ _ _ z => z)) (pa_cons (pv 1) (pa_cons (pv 2) (pa_cons (pv 3) pa_nil)))))
    (pss_cons (ps_expr (pe_meth (pv 0) T.cl_Floor T.mt_tell g_Floor_tell (hr.mono (by decide)) b_Floor_tell .nil (passes_call (takes_of rfl rfl rfl rfl) (fun _ _ _ _ z => z)) (pa_cons (pv 2) (pa_cons (pv 3) (pa_cons pe_int (pa_cons pe_int pa_nil))))))
    (pss_one (ps_expr (pe_bm PySem.F.plainAttrs_list PySem.F.slot_list_append PySem.F.type_list_append mt_append (pe_fld' (K := K) rfl (pv 0) rfl) (pa_cons (pe_tup (pa_cons pe_str (pa_cons (pv 1) (pa_cons (pv 2) (pa_cons (pv 3) pa_nil))))) pa_nil))))))))), ?_⟩, FunD.bindsN F (fun _ _ _ _ _ _ us hl => match us, hl with | [_, _, _, _], _ => rfl), F.kp⟩
  intro Γ as m o D hK hF hO hn hG hnx hD
  try dsimp only [cxOf]
  obtain ⟨a, d1, d2, d3, l, M, dp, dw, dn, rfl, rfl, hs, hz, ⟨h1, rfl⟩ | ⟨h1, h2, rfl⟩ | ⟨h1, h2, h3, rfl⟩ | ⟨p, w, n, rfl, rfl, rfl, hw, h2, h3, rfl⟩⟩ := hG
  · exact st_ware_no hK (e_var rfl) h1 hs hD (List.Sublist.refl _)
  · refine st_ware_ok hK (e_var rfl) h1 hs ?_
    exact st_place_no hK (e_var rfl) h2 hD (List.Sublist.refl _)
  · refine st_ware_ok hK (e_var rfl) h1 hs ?_
    refine st_place_ok hK (e_var rfl) h2 ?_
    exact st_many_no hK (e_var rfl) e_int h3 hD (List.Sublist.refl _)
  · refine st_ware_ok hK (e_var rfl) (isWareB_ok.mpr ⟨w, rfl, hw⟩) hs ?_
    refine st_place_ok hK (e_var rfl) h2 ?_
    refine st_many_ok hK (e_var rfl) e_int h3 ?_
    refine x_seq (x_drop (e_methM0 (m' := flo (fC K) a d1 d2 d3 l (M.change p w n)) hK (e_var rfl) (List.mem_of_getElem? (i := 0) rfl) rfl (a_cons (e_var rfl) (a_cons (e_var rfl) (a_cons (e_var rfl) a_nil))) ⟨a, d1, d2, d3, l, M, p, w, n, rfl, rfl, rfl, hz.mono (by decide)⟩ rfl (may_all hF rfl)) (x_nx ?_))
    refine x_seq (x_drop (e_methM0 (m' := flo (fC K) a d1 d2 d3 l ((M.change p w n).tell w n 0 0)) hK (e_var rfl) (List.mem_of_getElem? (i := 0) rfl) rfl (a_cons (e_var rfl) (a_cons (e_var rfl) (a_cons e_int (a_cons e_int a_nil)))) ⟨a, d1, d2, d3, l, M.change p w n, w, n, 0, 0, rfl, rfl, rfl, hz.change.mono (by decide)⟩ rfl (may_all hF rfl)) (x_nx ?_))
    refine x_app (p := l) (ds := M.de) 4 (f_deeds T (List.mem_of_getElem? (i := 0) rfl) (e_var rfl)) (e_tup (ds := [.str "come", .int p, .str w, .int n]) (a_consD e_str (a_consD (e_var rfl) (a_consD (e_var rfl) (a_consD (e_var rfl) a_nilD))))) rfl (Nat.lt_of_le_of_lt hz.2.2.2 (by decide)) (may_of 4 hF rfl) ⟨M.de, List.mem_of_getElem? (i := 4) rfl⟩ ?_
    exact x_end hnx hD (List.Sublist.refl _)
theorem sc_Floor___init__ : FnScope ["self"] ["self"] (defScope s_Floor___init__) := ⟨rfl, rfl, rfl, by decide +kernel, rfl, by decide +kernel, by decide +kernel⟩
def g_Floor___init__ (K : PySem.W.Frag) (as : List Sv) (m : Mu) (o : Oc) : Prop := ∃ a, as = [.r (.ref a)] ∧ m = [(a, .ins (fC K) [])] ∧ o = .new 4 (fun _ => dN) fun ps => flo (fC K) a (ps.getD 0 0) (ps.getD 1 0) (ps.getD 2 0) (ps.getD 3 0) FM.new
theorem ok_Floor___init__ {P : Program} {w : World} {K : PySem.W.Frag} {mg : Str → Option Value} {base : Heap} (T : Tx K mg w) (c : He.SaysD fa fn K) : FnB P w K mg base 1 (He.fAd K ("Floor", some "__init__")) ["self"] (spG K 1 false (g_Floor___init__ K)) := by
  obtain ⟨fd, F⟩ := c.def_ 7 (d := d_Floor___init__) rfl
  refine ⟨fd, fn_ok F sc_Floor___init__ rfl fun cdv A outer s H E hr => ⟨_, (pss_cons (ps_fld (pv 0) pe_dnewT rfl)
    (pss_cons (ps_fld (pv 0) pe_dnewK rfl)
    (pss_cons (ps_fld (pv 0) pe_int rfl)
    (pss_cons (ps_fld (pv 0) pe_dnewK rfl)
    (pss_one (ps_fld (pv 0) (pe_lst pa_nil) rfl)))))), ?_⟩, FunD.bindsN F (fun _ _ _ _ _ _ us hl => match us, hl with | [_], _ => rfl), F.kp⟩
  intro Γ as m o D hK hF hO hn hG hnx hD
  try dsimp only [cxOf]
  obtain ⟨a, rfl, rfl, rfl⟩ := hG
  have may := may_of 0 hF rfl
  refine x_seq (x_fldN 0 n_dT (fun q => e_var rfl) rfl T.cl_Floor T.n_amounts (by decide) may fun d1 u1 v1 => x_nx ?_)
  refine x_seq (x_fldN 1 n_dK (fun q => e_var rfl) rfl T.cl_Floor T.n_standing (show 1 < 1000 by decide) may fun d2 u2 v2 => x_nx ?_)
  refine x_seq (x_fldI 2 e_int (e_var rfl) rfl T.cl_Floor T.n_last (show 2 < 1000 by decide) may (x_nx ?_))
  refine x_seq (x_fldN 2 n_dK (fun q => e_var rfl) rfl T.cl_Floor T.n_totals (show 3 < 1000 by decide) may fun d3 u3 v3 => x_nx ?_)
  refine x_fldN 3 (n_lst a_nilD) (fun q => e_var rfl) rfl T.cl_Floor T.n_deeds (show 4 < 1000 by decide) may fun l u4 v4 => ?_
  refine x_endNew hnx hD [d1, d2, d3, l] rfl rfl (fun p hp => ?_) (show List.Perm (List.reverse [(l, OO.lst []), (d3, OO.dK []), (d2, OO.dK []), (d1, OO.dT []), (a, OO.ins (fC K) (flds d1 d2 d3 l 0))]) [(l, OO.lst []), (d3, OO.dK []), (d2, OO.dK []), (d1, OO.dT []), (a, OO.ins (fC K) (flds d1 d2 d3 l 0))] from List.reverse_perm _)
  simp at hp
  rcases hp with rfl | rfl | rfl | rfl
  · exact ⟨u1, by simp⟩
  · exact ⟨u2, by simp⟩
  · exact ⟨u3, by simp⟩
  · exact ⟨u4, by simp⟩
theorem sc_Floor_need_free : FnScope ["self", "place", "ware", "many"] ["self", "place", "ware", "many"] (defScope s_Floor_need_free) := ⟨rfl, rfl, rfl, by decide +kernel, rfl, by decide +kernel, by decide +kernel⟩
def g_Floor_need_free (K : PySem.W.Frag) (as : List Sv) (m : Mu) (o : Oc) : Prop := ∃ (a d1 d2 d3 l : Addr) (M : FM) (p : Int) (w : Str) (n : Int), as = [.r (.ref a), dI p, dS w, dI n] ∧ m = flo (fC K) a d1 d2 d3 l M ∧ M.wok ∧ PyData.strOk w = true ∧ M.sz 100000 ∧ o = if n ≤ M.free p w then .ret dN [] else .exc (He.ga K "TooFew") (flo (fC K) a d1 d2 d3 l M)
theorem ok_Floor_need_free {P : Program} {w : World} {K : PySem.W.Frag} {mg : Str → Option Value} {base : Heap} (T : Tx K mg w) (c : He.SaysD fa fn K) : FnB P w K mg base 3 (He.fAd K ("Floor", some "need_free")) ["self", "place", "ware", "many"] (spG K 4 true (g_Floor_need_free K)) := by
  obtain ⟨fd_Floor_free, g_Floor_free, b_Floor_free, k_Floor_free⟩ := ok_Floor_free (P := P) (w := w) (base := base) T c
  obtain ⟨fd, F⟩ := c.def_ 23 (d := d_Floor_need_free) rfl
  refine ⟨fd, fn_ok F sc_Floor_need_free rfl fun cdv A outer s H E hr => ⟨_, (pss_one (ps_if (pt_cmpR op_gt (pv 3) (pe_meth (pv 0) T.cl_Floor T.mt_free g_Floor_free (hr.mono (by decide)) b_Floor_free .nil (passes_call (takes_of rfl rfl rfl rfl) (fun _ _ _ _ z => z)) (pa_cons (pv 1) (pa_cons (pv 2) pa_nil))) (nomark _)) (pss_one (ps_raise rfl (takes_of rfl rfl rfl rfl) (pmk_own PySem.F.excBase_ValueError T.x_TooFew.1 T.m_TooFew T.x_TooFew.2.1 (raises_own T.x_TooFew.2.2.1 T.x_TooFew.2.2.2) (by exact rfl)))) pss_nil)), ?_⟩, FunD.bindsN F (fun _ _ _ _ _ _ us hl => match us, hl with | [_, _, _, _], _ => rfl), F.kp⟩
  intro Γ as m o D hK hF hO hn hG hnx hD
  try dsimp only [cxOf]
  obtain ⟨a, d1, d2, d3, l, M, p, w, n, rfl, rfl, hw, hs, hz, rfl⟩ := hG
  refine x_if (t_B (e_opB (e_var rfl) (e_meth hK (e_var rfl) (List.mem_of_getElem? (i := 0) rfl) rfl (a_cons (e_var rfl) (a_cons (e_var rfl) a_nil)) ⟨a, d1, d2, d3, l, M, p, w, rfl, rfl, rfl, hw, hs, hz⟩ (List.Sublist.refl _)))) (fun h => ?_) fun h => x_next ?_
  · have h : ¬ n ≤ M.free p w := by simpa using h
    rw [if_neg h] at hD
    exact x_raise hD (List.Sublist.refl _)
  · have h : n ≤ M.free p w := by simpa using h
    rw [if_pos h] at hD
    exact x_end hnx hD (List.nil_sublist _)
section
variable {Γ : Ga} {δ : De} {μ m2 : Mu} {te tl to : TE} {K : PySem.W.Frag} {E : XK} {R : VK} {u : TS} {D : Ends} {a d1 d2 d3 l : Addr} {M : FM} {p n : Int} {w : Str} {o : TE}
theorem st_free_ok (hK : Γ.K = K) (ho : Ev Γ o δ (flo (fC K) a d1 d2 d3 l M) (.r (.ref a)) (flo (fC K) a d1 d2 d3 l M)) (hp : Ev Γ te δ (flo (fC K) a d1 d2 d3 l M) (dI p) (flo (fC K) a d1 d2 d3 l M)) (hl : Ev Γ tl δ (flo (fC K) a d1 d2 d3 l M) (dS w) (flo (fC K) a d1 d2 d3 l M)) (ht : Ev Γ to δ (flo (fC K) a d1 d2 d3 l M) (dI n) (flo (fC K) a d1 d2 d3 l M))
    (hw : M.wok) (hs : WareOk w) (hz : M.sz 100000) (h : n ≤ M.free p w) (nx : Sx Γ u D δ (flo (fC K) a d1 d2 d3 l M)) : Sx Γ (tSeq (tDrop (tMeth (fC K) "need_free" (spG K 4 true (g_Floor_need_free K)) [] E o (tCons te (tCons tl (tCons to tNil))))) u) D δ (flo (fC K) a d1 d2 d3 l M) :=
  x_seq (x_drop (e_meth hK ho (List.mem_of_getElem? (i := 0) rfl) rfl (a_cons hp (a_cons hl (a_cons ht a_nil))) ⟨a, d1, d2, d3, l, M, p, w, n, rfl, rfl, hw, strOk_let hs.2.2, hz, (if_pos h).symm⟩ (List.Sublist.refl _)) (x_nx nx))
theorem st_free_no (hK : Γ.K = K) (ho : Ev Γ o δ (flo (fC K) a d1 d2 d3 l M) (.r (.ref a)) (flo (fC K) a d1 d2 d3 l M)) (hp : Ev Γ te δ (flo (fC K) a d1 d2 d3 l M) (dI p) (flo (fC K) a d1 d2 d3 l M)) (hl : Ev Γ tl δ (flo (fC K) a d1 d2 d3 l M) (dS w) (flo (fC K) a d1 d2 d3 l M)) (ht : Ev Γ to δ (flo (fC K) a d1 d2 d3 l M) (dI n) (flo (fC K) a d1 d2 d3 l M))
    (hw : M.wok) (hs : WareOk w) (hz : M.sz 100000) (h : ¬ n ≤ M.free p w) (hD : OcOk Γ.K Γ.W0 Γ.F R E (.exc (He.ga K "TooFew") (flo (fC K) a d1 d2 d3 l M))) : Sx Γ (tSeq (tDrop (tMeth (fC K) "need_free" (spG K 4 true (g_Floor_need_free K)) [] E o (tCons te (tCons tl (tCons to tNil))))) u) D δ (flo (fC K) a d1 d2 d3 l M) :=
  x_seq (x_dropX (ex_meth (m := flo (fC K) a d1 d2 d3 l M) (m' := flo (fC K) a d1 d2 d3 l M) (rest := []) hK ho (List.mem_of_getElem? (i := 0) rfl) rfl (a_cons hp (a_cons hl (a_cons ht a_nil))) ⟨a, d1, d2, d3, l, M, p, w, n, rfl, rfl, hw, strOk_let hs.2.2, hz, (if_neg h).symm⟩ rfl (fun b hb => nomatch hb) hD (List.Sublist.refl _)))
end
theorem sc_Floor_book : FnScope ["self"] ["self"] (defScope s_Floor_book) := ⟨rfl, rfl, rfl, by decide +kernel, rfl, by decide +kernel, by decide +kernel⟩
def g_Floor_book (K : PySem.W.Frag) (as : List Sv) (m : Mu) (o : Oc) : Prop := ∃ (a d1 d2 d3 l : Addr) (M : FM), as = [.r (.ref a)] ∧ m = flo (fC K) a d1 d2 d3 l M ∧ o = nw (.lst M.de) []
theorem ok_Floor_book {P : Program} {w : World} {K : PySem.W.Frag} {mg : Str → Option Value} {base : Heap} (T : Tx K mg w) (c : He.SaysD fa fn K) : FnB P w K mg base 1 (He.fAd K ("Floor", some "book")) ["self"] (spG K 1 true (g_Floor_book K)) := by
  obtain ⟨fd, F⟩ := c.def_ 19 (d := d_Floor_book) rfl
  refine ⟨fd, fn_ok F sc_Floor_book rfl fun cdv A outer s H E hr => ⟨_, (pss_one (ps_ret (pe_callTy (call_list_of' (K := K) rfl) (by rfl) T.z_list (by decide +kernel) (pa_cons (pe_fld' (K := K) rfl (pv 0) rfl) pa_nil)))), ?_⟩, FunD.bindsN F (fun _ _ _ _ _ _ us hl => match us, hl with | [_], _ => rfl), F.kp⟩
  intro Γ as m o D hK hF hO hn hG hnx hD
  try dsimp only [cxOf]
  obtain ⟨a, d1, d2, d3, l, M, rfl, rfl, rfl⟩ := hG
  exact x_retNew (E := E) (n_listO (p := l) hK (f_deeds T (List.mem_of_getElem? (i := 0) rfl) (e_var rfl)) (List.mem_of_getElem? (i := 4) rfl)) hD (List.nil_sublist _)
theorem sc_Floor_begun : FnScope ["self", "place", "ware", "many"] ["self", "place", "ware", "many"] (defScope s_Floor_begun) := ⟨rfl, rfl, rfl, by decide +kernel, rfl, by decide +kernel, by decide +kernel⟩
def g_Floor_begun (K : PySem.W.Frag) (as : List Sv) (m : Mu) (o : Oc) : Prop := ∃ (a d1 d2 d3 l : Addr) (M : FM) (p : Int) (w : Str) (n : Int), as = [.r (.ref a), dI p, dS w, dI n] ∧ m = flo (fC K) a d1 d2 d3 l M ∧ o = .ret (dI (M.last + 1)) (flo (fC K) a d1 d2 d3 l (M.begun p w n)) ∧ M.sz 99999
theorem ok_Floor_begun {P : Program} {w : World} {K : PySem.W.Frag} {mg : Str → Option Value} {base : Heap} (T : Tx K mg w) (c : He.SaysD fa fn K) : FnB P w K mg base 1 (He.fAd K ("Floor", some "begun")) ["self", "place", "ware", "many"] (spG K 4 false (g_Floor_begun K)) := by
  obtain ⟨fd, F⟩ := c.def_ 24 (d := d_Floor_begun) rfl
  refine ⟨fd, fn_ok F sc_Floor_begun rfl fun cdv A outer s H E hr => ⟨_, (pss_cons (ps_fld (pv 0) (pe_op op_add (pe_fld' (K := K) rfl (pv 0) rfl) pe_int) rfl)
    (pss_cons (ps_asg (pe_tup (pa_cons (pv 1) (pa_cons (pv 2) (pa_cons (pv 3) pa_nil)))) (pg_sub (pe_fld' (K := K) rfl (pv 0) rfl) (pe_fld' (K := K) rfl (pv 0) rfl) (set_dict (hu_of hr))))
    (pss_one (ps_ret (pe_fld' (K := K) rfl (pv 0) rfl))))), ?_⟩, FunD.bindsN F (fun _ _ _ _ _ _ us hl => match us, hl with | [_, _, _, _], _ => rfl), F.kp⟩
  intro Γ as m o D hK hF hO hn hG hnx hD
  try dsimp only [cxOf]
  obtain ⟨a, d1, d2, d3, l, M, p, w, n, rfl, rfl, rfl, hz⟩ := hG
  refine x_seq (x_fldI 0 (e_opI (f_last T (List.mem_of_getElem? (i := 0) rfl) (e_var rfl)) e_int) (e_var rfl) rfl T.cl_Floor T.n_last (show 5 < 1000 by decide) (may_of 0 hF rfl) (x_nx ?_))
  show Sx Γ _ _ _ (flo (fC K) a d1 d2 d3 l { M with last := M.last + 1 })
  refine x_seq (x_dputK (k := .inl (M.last + 1)) (p := d2) (kvs := stD M.st) (d := hV (p, w, n)) 2 (e_tup (ds := [.int p, .str w, .int n]) (a_consD (e_var rfl) (a_consD (e_var rfl) (a_consD (e_var rfl) a_nilD)))) (f_standing T (List.mem_of_getElem? (i := 0) rfl) (e_var rfl)) (f_last T (List.mem_of_getElem? (i := 0) rfl) (e_var rfl)) rfl ?_ (may_of 2 hF rfl) ?_)
  · rw [List.length_map]
    exact Nat.lt_succ_of_le hz.2.1
  · rw [put_st]
    exact x_nx (x_ret (E := E) (f_last T (List.mem_of_getElem? (i := 0) rfl) (e_var rfl)) hD (List.Sublist.refl _))
theorem sc_Floor_ended : FnScope ["self", "number"] ["self", "number"] (defScope s_Floor_ended) := ⟨rfl, rfl, rfl, by decide +kernel, rfl, by decide +kernel, by decide +kernel⟩
def g_Floor_ended (K : PySem.W.Frag) (as : List Sv) (m : Mu) (o : Oc) : Prop := ∃ (a d1 d2 d3 l : Addr) (M : FM) (k : Int) (h : Int × Str × Int), as = [.r (.ref a), dI k] ∧ m = flo (fC K) a d1 d2 d3 l M ∧ o = .ret dN (flo (fC K) a d1 d2 d3 l (M.ended k)) ∧ aget M.st k = some h
theorem ok_Floor_ended {P : Program} {w : World} {K : PySem.W.Frag} {mg : Str → Option Value} {base : Heap} (T : Tx K mg w) (c : He.SaysD fa fn K) : FnB P w K mg base 1 (He.fAd K ("Floor", some "ended")) ["self", "number"] (spG K 2 false (g_Floor_ended K)) := by
  obtain ⟨fd, F⟩ := c.def_ 25 (d := d_Floor_ended) rfl
  refine ⟨fd, fn_ok F sc_Floor_ended rfl fun cdv A outer s H E hr => ⟨_, (pss_one (ps_expr (pe_dpop1 (pe_fld' (K := K) rfl (pv 0) rfl) (pv 1) ⟨rfl, rfl, rfl, rfl⟩))), ?_⟩, FunD.bindsN F (fun _ _ _ _ _ _ us hl => match us, hl with | [_, _], _ => rfl), F.kp⟩
  intro Γ as m o D hK hF hO hn hG hnx hD
  try dsimp only [cxOf]
  obtain ⟨a, d1, d2, d3, l, M, k, h, rfl, rfl, rfl, he⟩ := hG
  refine x_drop (e_dpopK (k := .inl k) (p := d2) (kvs := stD M.st) (d := hV h) 2 (f_standing T (List.mem_of_getElem? (i := 0) rfl) (e_var rfl)) (e_var rfl) rfl (by rw [val_st, he]; rfl) (may_of 2 hF rfl)) ?_
  rw [drop_st]
  exact x_end hnx hD (List.Sublist.refl _)
theorem sc_Floor_holding : FnScope ["self", "number"] ["self", "number"] (defScope s_Floor_holding) := ⟨rfl, rfl, rfl, by decide +kernel, rfl, by decide +kernel, by decide +kernel⟩
def g_Floor_holding (K : PySem.W.Frag) (as : List Sv) (m : Mu) (o : Oc) : Prop := ∃ (a d1 d2 d3 l : Addr) (M : FM) (d : PD), as = [.r (.ref a), .d d] ∧ m = flo (fC K) a d1 d2 d3 l M ∧ o = .ret (.d (M.holding d)) []
theorem ok_Floor_holding {P : Program} {w : World} {K : PySem.W.Frag} {mg : Str → Option Value} {base : Heap} (T : Tx K mg w) (c : He.SaysD fa fn K) : FnB P w K mg base 1 (He.fAd K ("Floor", some "holding")) ["self", "number"] (spG K 2 true (g_Floor_holding K)) := by
  obtain ⟨fd, F⟩ := c.def_ 18 (d := d_Floor_holding) rfl
  refine ⟨fd, fn_ok F sc_Floor_holding rfl fun cdv A outer s H E hr => ⟨_, (pss_cons (ps_if (PW.pt (pw_or (pt_not (pt_val (pe_callB (call_isi' (K := K) rfl) (by rfl) T.z_isinstance (by decide +kernel) (pa_cons (pv 1) (pa_cons (pe_bltn (v := .ty "int") rfl T.z_int (by decide +kernel) rfl) pa_nil))))) (pw_or1 (pt_val (pe_callB (call_isi' (K := K) rfl) (by rfl) T.z_isinstance (by decide +kernel) (pa_cons (pv 1) (pa_cons (pe_bltn (v := .ty "bool") rfl T.z_bool (by decide +kernel) rfl) pa_nil))))))) (pss_one (ps_ret pe_non)) pss_nil)
    (pss_one (ps_ret (pe_dget1 (hu_of hr) (pe_fld' (K := K) rfl (pv 0) rfl) (pv 1) ⟨rfl, rfl, rfl, rfl⟩)))), ?_⟩, FunD.bindsN F (fun _ _ _ _ _ _ us hl => match us, hl with | [_, _], _ => rfl), F.kp⟩
  intro Γ as m o D hK hF hO hn hG hnx hD
  try dsimp only [cxOf]
  obtain ⟨a, d1, d2, d3, l, M, d, rfl, rfl, rfl⟩ := hG
  by_cases hd : ∃ k, d = .int k
  · obtain ⟨k, rfl⟩ := hd
    refine x_seq (x_if (b := false) (EvT.to (t_or (t_not (t_B (e_isi_int hK (e_var rfl)))) (fun _ => t_B (e_isi_bool hK (e_var rfl)))) rfl) (fun h => absurd h (by decide)) fun _ => x_next (x_nx ?_))
    refine x_ret (E := E) (Ev.to (e_dgetK1 (k := .inl k) (p := d2) (kvs := stD M.st) (f_standing T (List.mem_of_getElem? (i := 0) rfl) (e_var rfl)) (e_var rfl) (List.mem_of_getElem? (i := 2) rfl)) ?_) hD (List.nil_sublist _)
    rw [val_st]
    rfl
  · have e : M.holding d = .none := by cases d <;> first | rfl | exact absurd ⟨_, rfl⟩ hd
    rw [e] at hD
    have ht : (!isA "int" d || isA "bool" d) = true := by cases d <;> first | rfl | exact absurd ⟨_, rfl⟩ hd
    exact x_seq (x_if (b := true) (EvT.to (t_or (t_not (t_B (e_isi_int hK (e_var rfl)))) (fun _ => t_B (e_isi_bool hK (e_var rfl)))) ht) (fun _ => x_ret (E := E) e_non hD (List.nil_sublist _)) (fun h => absurd h (by decide)))
theorem sc_Floor_need_hold : FnScope ["self", "number", "found"] ["self", "number"] (defScope s_Floor_need_hold) := ⟨rfl, rfl, rfl, by decide +kernel, rfl, by decide +kernel, by decide +kernel⟩
def g_Floor_need_hold (K : PySem.W.Frag) (as : List Sv) (m : Mu) (o : Oc) : Prop := ∃ (a d1 d2 d3 l : Addr) (M : FM) (d : PD), as = [.r (.ref a), .d d] ∧ m = flo (fC K) a d1 d2 d3 l M ∧ o = if isN (M.holding d) = true then .exc (He.ga K "NoHold") (flo (fC K) a d1 d2 d3 l M) else .ret (.d (M.holding d)) []
theorem ok_Floor_need_hold {P : Program} {w : World} {K : PySem.W.Frag} {mg : Str → Option Value} {base : Heap} (T : Tx K mg w) (c : He.SaysD fa fn K) : FnB P w K mg base 2 (He.fAd K ("Floor", some "need_hold")) ["self", "number"] (spG K 2 true (g_Floor_need_hold K)) := by
  obtain ⟨fd_Floor_holding, g_Floor_holding, b_Floor_holding, k_Floor_holding⟩ := ok_Floor_holding (P := P) (w := w) (base := base) T c
  obtain ⟨fd, F⟩ := c.def_ 22 (d := d_Floor_need_hold) rfl
  refine ⟨fd, fn_ok F sc_Floor_need_hold rfl fun cdv A outer s H E hr => ⟨_, (pss_cons (ps_set (i := 2) sc_Floor_need_hold.nd rfl (Or.inl rfl) (pe_meth (pv 0) T.cl_Floor T.mt_holding g_Floor_holding (hr.mono (by decide)) b_Floor_holding .nil (passes_call (takes_of rfl rfl rfl rfl) (fun _ _ _ _ z => z)) (pa_cons (pv 1) pa_nil)))
    (pss_cons (ps_if (pt_cmp (pc_isN (pv 2))) (pss_one (ps_raise rfl (takes_of rfl rfl rfl rfl) (pmk_own PySem.F.excBase_ValueError T.x_NoHold.1 T.m_NoHold T.x_NoHold.2.1 (raises_own T.x_NoHold.2.2.1 T.x_NoHold.2.2.2) (by exact rfl)))) pss_nil)
    (pss_one (ps_ret (pv 2))))), ?_⟩, FunD.bindsN F (fun _ _ _ _ _ _ us hl => match us, hl with | [_, _], _ => rfl), F.kp⟩
  intro Γ as m o D hK hF hO hn hG hnx hD
  try dsimp only [cxOf]
  obtain ⟨a, d1, d2, d3, l, M, d, rfl, rfl, rfl⟩ := hG
  refine x_let (e_meth hK (e_var rfl) (List.mem_of_getElem? (i := 0) rfl) rfl (a_cons (e_var rfl) a_nil) ⟨a, d1, d2, d3, l, M, d, rfl, rfl, rfl⟩ (List.Sublist.refl _)) ?_
  refine x_seq (x_if (t_B (e_isN (e_var rfl))) (fun h => ?_) fun h => x_next (x_nx ?_))
  · rw [if_pos h] at hD
    exact x_raise hD (List.Sublist.refl _)
  · rw [if_neg (by rw [h]; decide)] at hD
    exact x_ret (E := E) (e_var rfl) hD (List.nil_sublist _)
theorem sc_Floor_hold : FnScope ["self", "place", "ware", "many"] ["self", "place", "ware", "many"] (defScope s_Floor_hold) := ⟨rfl, rfl, rfl, by decide +kernel, rfl, by decide +kernel, by decide +kernel⟩
def g_Floor_hold (K : PySem.W.Frag) (as : List Sv) (m : Mu) (o : Oc) : Prop := ∃ (a d1 d2 d3 l : Addr) (M : FM) (dp dw dn : PD), as = [.r (.ref a), .d dp, .d dw, .d dn] ∧ m = flo (fC K) a d1 d2 d3 l M ∧ stOk dw ∧ M.wok ∧ M.sz 99990 ∧ ((isWareB dw = false ∧ o = .exc (He.ga K "BadWare") (flo (fC K) a d1 d2 d3 l M)) ∨ (isWareB dw = true ∧ isWh dp 0 9999 = false ∧ o = .exc (He.ga K "BadPlace") (flo (fC K) a d1 d2 d3 l M)) ∨ (isWareB dw = true ∧ isWh dp 0 9999 = true ∧ isWh dn 1 (10 ^ 30) = false ∧ o = .exc (He.ga K "BadMany") (flo (fC K) a d1 d2 d3 l M)) ∨ (∃ p w n, dp = .int p ∧ dw = .str w ∧ dn = .int n ∧ WareOk w ∧ isWh dp 0 9999 = true ∧ isWh dn 1 (10 ^ 30) = true ∧ ¬ n ≤ M.free p w ∧ o = .exc (He.ga K "TooFew") (flo (fC K) a d1 d2 d3 l M)) ∨ ∃ p w n, dp = .int p ∧ dw = .str w ∧ dn = .int n ∧ WareOk w ∧ isWh dp 0 9999 = true ∧ isWh dn 1 (10 ^ 30) = true ∧ n ≤ M.free p w ∧ o = .ret (dI (M.last + 1)) (flo (fC K) a d1 d2 d3 l (M.hold p w n)))
theorem ok_Floor_hold {P : Program} {w : World} {K : PySem.W.Frag} {mg : Str → Option Value} {base : Heap} (T : Tx K mg w) (c : He.SaysD fa fn K) : FnB P w K mg base 4 (He.fAd K ("Floor", some "hold")) ["self", "place", "ware", "many"] (spG K 4 false (g_Floor_hold K)) := by
  obtain ⟨fd_need_ware, g_need_ware, b_need_ware, k_need_ware⟩ := ok_need_ware (P := P) (w := w) (base := base) T c
  obtain ⟨fd_need_place, g_need_place, b_need_place, k_need_place⟩ := ok_need_place (P := P) (w := w) (base := base) T c
  obtain ⟨fd_need_many, g_need_many, b_need_many, k_need_many⟩ := ok_need_many (P := P) (w := w) (base := base) T c
  obtain ⟨fd_Floor_need_free, g_Floor_need_free, b_Floor_need_free, k_Floor_need_free⟩ := ok_Floor_need_free (P := P) (w := w) (base := base) T c
  obtain ⟨fd_Floor_begun, g_Floor_begun, b_Floor_begun, k_Floor_begun⟩ := ok_Floor_begun (P := P) (w := w) (base := base) T c
  obtain ⟨fd, F⟩ := c.def_ 29 (d := d_Floor_hold) rfl
  refine ⟨fd, fn_ok F sc_Floor_hold rfl fun cdv A outer s H E hr => ⟨_, (pss_cons (ps_expr (pe_call g_need_ware (hr.mono (by decide)) (by rfl) T.m_need_ware k_need_ware b_need_ware .nil (passes_call (takes_of rfl rfl rfl rfl) (fun _ _ _ _ z => z)) (pa_cons (pv 2) pa_nil)))
    (pss_cons (ps_expr (pe_call g_need_place (hr.mono (by decide)) (by rfl) T.m_need_place k_need_place b_need_place .nil (passes_call (takes_of rfl rfl rfl rfl) (fun _ _ _ _ z => z)) (pa_cons (pv 1) pa_nil)))
    (pss_cons (ps_expr (pe_call g_need_many (hr.mono (by decide)) (by rfl) T.m_need_many k_need_many b_need_many .nil (passes_call (takes_of rfl rfl rfl rfl) (fun _ _ _ _ z => z)) (pa_cons (pv 3) (pa_cons pe_int pa_nil))))
    (pss_cons (ps_expr (pe_meth (pv 0) T.cl_Floor T.mt_need_free g_Floor_need_free (hr.mono (by decide)) b_Floor_need_free .nil (passes_call (takes_of rfl rfl rfl rfl) (fun _ _ _ _ z => z)) (pa_cons (pv 1) (pa_cons (pv 2) (pa_cons (pv 3) pa_nil)))))
    (pss_cons (ps_expr (pe_bm PySem.F.plainAttrs_list PySem.F.slot_list_append PySem.F.type_list_append mt_append (pe_fld' (K := K) rfl (pv 0) rfl) (pa_cons (pe_tup (pa_cons pe_str (pa_cons (pv 1) (pa_cons (pv 2) (pa_cons (pv 3) pa_nil))))) pa_nil)))
    (pss_one (ps_ret (pe_meth (pv 0) T.cl_Floor T.mt_begun g_Floor_begun (hr.mono (by decide)) b_Floor_begun .nil (passes_call (takes_of rfl rfl rfl rfl) (fun _ _ _ _ z => z)) (pa_cons (pv 1) (pa_cons (pv 2) (pa_cons (pv 3) pa_nil))))))))))), ?_⟩, FunD.bindsN F (fun _ _ _ _ _ _ us hl => match us, hl with | [_, _, _, _], _ => rfl), F.kp⟩
  intro Γ as m o D hK hF hO hn hG hnx hD
  try dsimp only [cxOf]
  obtain ⟨a, d1, d2, d3, l, M, dp, dw, dn, rfl, rfl, hs, hw, hz, ⟨h1, rfl⟩ | ⟨h1, h2, rfl⟩ | ⟨h1, h2, h3, rfl⟩ | ⟨p, w, n, rfl, rfl, rfl, hwo, h2, h3, hn, rfl⟩ | ⟨p, w, n, rfl, rfl, rfl, hwo, h2, h3, hn, rfl⟩⟩ := hG
  · exact st_ware_no hK (e_var rfl) h1 hs hD (List.Sublist.refl _)
  · refine st_ware_ok hK (e_var rfl) h1 hs ?_
    exact st_place_no hK (e_var rfl) h2 hD (List.Sublist.refl _)
  · refine st_ware_ok hK (e_var rfl) h1 hs ?_
    refine st_place_ok hK (e_var rfl) h2 ?_
    exact st_many_no hK (e_var rfl) e_int h3 hD (List.Sublist.refl _)
  · refine st_ware_ok hK (e_var rfl) (isWareB_ok.mpr ⟨w, rfl, hwo⟩) hs ?_
    refine st_place_ok hK (e_var rfl) h2 ?_
    refine st_many_ok hK (e_var rfl) e_int h3 ?_
    exact st_free_no hK (e_var rfl) (e_var rfl) (e_var rfl) (e_var rfl) hw hwo (hz.mono (by decide)) hn hD
  · refine st_ware_ok hK (e_var rfl) (isWareB_ok.mpr ⟨w, rfl, hwo⟩) hs ?_
    refine st_place_ok hK (e_var rfl) h2 ?_
    refine st_many_ok hK (e_var rfl) e_int h3 ?_
    refine st_free_ok hK (e_var rfl) (e_var rfl) (e_var rfl) (e_var rfl) hw hwo (hz.mono (by decide)) hn ?_
    refine x_seq (x_app (p := l) (ds := M.de) 4 (f_deeds T (List.mem_of_getElem? (i := 0) rfl) (e_var rfl)) (e_tup (ds := [.str "hold", .int p, .str w, .int n]) (a_consD e_str (a_consD (e_var rfl) (a_consD (e_var rfl) (a_consD (e_var rfl) a_nilD))))) rfl (Nat.lt_of_le_of_lt hz.2.2.2 (by decide)) (may_of 4 hF rfl) ⟨M.de, List.mem_of_getElem? (i := 4) rfl⟩ (x_nx ?_))
    exact x_ret (E := E) (e_methM0 (m := flo (fC K) a d1 d2 d3 l (M.note (.tuple [.str "hold", .int p, .str w, .int n]))) (m' := flo (fC K) a d1 d2 d3 l (M.hold p w n)) hK (e_var rfl) (List.mem_of_getElem? (i := 0) rfl) rfl (a_cons (e_var rfl) (a_cons (e_var rfl) (a_cons (e_var rfl) a_nil))) ⟨a, d1, d2, d3, l, M.note _, p, w, n, rfl, rfl, rfl, hz.note.mono (by decide)⟩ rfl (may_all hF rfl)) hD (List.Sublist.refl _)
theorem sc_Floor_move : FnScope ["self", "start", "goal", "ware", "many"] ["self", "start", "goal", "ware", "many"] (defScope s_Floor_move) := ⟨rfl, rfl, rfl, by decide +kernel, rfl, by decide +kernel, by decide +kernel⟩
def g_Floor_move (K : PySem.W.Frag) (as : List Sv) (m : Mu) (o : Oc) : Prop := ∃ (a d1 d2 d3 l : Addr) (M : FM) (dp dq dw dn : PD), as = [.r (.ref a), .d dp, .d dq, .d dw, .d dn] ∧ m = flo (fC K) a d1 d2 d3 l M ∧ stOk dw ∧ M.wok ∧ M.sz 99990 ∧ ((isWareB dw = false ∧ o = .exc (He.ga K "BadWare") (flo (fC K) a d1 d2 d3 l M)) ∨ (isWareB dw = true ∧ isWh dp 0 9999 = false ∧ o = .exc (He.ga K "BadPlace") (flo (fC K) a d1 d2 d3 l M)) ∨ (isWareB dw = true ∧ isWh dp 0 9999 = true ∧ isWh dq 0 9999 = false ∧ o = .exc (He.ga K "BadPlace") (flo (fC K) a d1 d2 d3 l M)) ∨
  ∃ p q w, dp = .int p ∧ dq = .int q ∧ dw = .str w ∧ WareOk w ∧ isWh dp 0 9999 = true ∧ isWh dq 0 9999 = true ∧ ((p = q ∧ o = .exc (He.ga K "SamePlace") (flo (fC K) a d1 d2 d3 l M)) ∨ (¬ p = q ∧ isWh dn 1 (10 ^ 30) = false ∧ o = .exc (He.ga K "BadMany") (flo (fC K) a d1 d2 d3 l M)) ∨ ∃ n, dn = .int n ∧ ¬ p = q ∧ isWh dn 1 (10 ^ 30) = true ∧ ((¬ n ≤ M.free p w ∧ o = .exc (He.ga K "TooFew") (flo (fC K) a d1 d2 d3 l M)) ∨ (n ≤ M.free p w ∧ o = .ret dN (flo (fC K) a d1 d2 d3 l (M.move p q w n))))))
theorem ok_Floor_move {P : Program} {w : World} {K : PySem.W.Frag} {mg : Str → Option Value} {base : Heap} (T : Tx K mg w) (c : He.SaysD fa fn K) : FnB P w K mg base 4 (He.fAd K ("Floor", some "move")) ["self", "start", "goal", "ware", "many"] (spG K 5 false (g_Floor_move K)) := by
  obtain ⟨fd_need_ware, g_need_ware, b_need_ware, k_need_ware⟩ := ok_need_ware (P := P) (w := w) (base := base) T c
  obtain ⟨fd_need_place, g_need_place, b_need_place, k_need_place⟩ := ok_need_place (P := P) (w := w) (base := base) T c
  obtain ⟨fd_need_many, g_need_many, b_need_many, k_need_many⟩ := ok_need_many (P := P) (w := w) (base := base) T c
  obtain ⟨fd_Floor_need_free, g_Floor_need_free, b_Floor_need_free, k_Floor_need_free⟩ := ok_Floor_need_free (P := P) (w := w) (base := base) T c
  obtain ⟨fd_Floor_change, g_Floor_change, b_Floor_change, k_Floor_change⟩ := ok_Floor_change (P := P) (w := w) (base := base) T c
  obtain ⟨fd, F⟩ := c.def_ 28 (d := d_Floor_move) rfl
  refine ⟨fd, fn_ok F sc_Floor_move rfl fun cdv A outer s H E hr => ⟨_, (pss_cons (ps_expr (pe_call g_need_ware (hr.mono (by decide)) (by rfl) T.m_need_ware k_need_ware b_need_ware .nil (passes_call (takes_of rfl rfl rfl rfl) (fun _ _ _ _ z => z)) (pa_cons (pv 3) pa_nil)))
    (pss_cons (ps_expr (pe_call g_need_place (hr.mono (by decide)) (by rfl) T.m_need_place k_need_place b_need_place .nil (passes_call (takes_of rfl rfl rfl rfl) (fun _ _ _ _ z => z)) (pa_cons (pv 1) pa_nil)))
    (pss_cons (ps_expr (pe_call g_need_place (hr.mono (by decide)) (by rfl) T.m_need_place k_need_place b_need_place .nil (passes_call (takes_of rfl rfl rfl rfl) (fun _ _ _ _ z => z)) (pa_cons (pv 2) pa_nil)))
    (pss_cons (ps_if (pt_cmpR op_eq (pv 1) (pv 2) (nomark _)) (pss_one (ps_raise rfl (takes_of rfl rfl rfl rfl) (pmk_own PySem.F.excBase_ValueError T.x_SamePlace.1 T.m_SamePlace T.x_SamePlace.2.1 (raises_own T.x_SamePlace.2.2.1 T.x_SamePlace.2.2.2) (by exact rfl)))) pss_nil)
    (pss_cons (ps_expr (pe_call g_need_many (hr.mono (by decide)) (by rfl) T.m_need_many k_need_many b_need_many .nil (passes_call (takes_of rfl rfl rfl rfl) (fun _ _ _ _ z => z)) (pa_cons (pv 4) (pa_cons pe_int pa_nil))))
    (pss_cons (ps_expr (pe_meth (pv 0) T.cl_Floor T.mt_need_free g_Floor_need_free (hr.mono (by decide)) b_Floor_need_free .nil (passes_call (takes_of rfl rfl rfl rfl) (fun _ _ _ _ z => z)) (pa_cons (pv 1) (pa_cons (pv 3) (pa_cons (pv 4) pa_nil)))))
    (pss_cons (ps_expr (pe_meth (pv 0) T.cl_Floor T.mt_change g_Floor_change (hr.mono (by decide)) b_Floor_change .nil (passes_call (takes_of rfl rfl rfl rfl) (fun _ _ _ _ z => z)) (pa_cons (pv 1) (pa_cons (pv 3) (pa_cons (pe_un un_neg (pv 4)) pa_nil)))))
    (pss_cons (ps_expr (pe_meth (pv 0) T.cl_Floor T.mt_change g_Floor_change (hr.mono (by decide)) b_Floor_change .nil (passes_call (takes_of rfl rfl rfl rfl) (fun _ _ _ _ z => z)) (pa_cons (pv 2) (pa_cons (pv 3) (pa_cons (pv 4) pa_nil)))))
    (pss_one (ps_expr (pe_bm PySem.F.plainAttrs_list PySem.F.slot_list_append PySem.F.type_list_append mt_append (pe_fld' (K := K) rfl (pv 0) rfl) (pa_cons (pe_tup (pa_cons pe_str (pa_cons (pv 1) (pa_cons (pv 2) (pa_cons (pv 3) (pa_cons (pv 4) pa_nil)))))) pa_nil)))))))))))), ?_⟩, FunD.bindsN F (fun _ _ _ _ _ _ us hl => match us, hl with | [_, _, _, _, _], _ => rfl), F.kp⟩
  intro Γ as m o D hK hF hO hn hG hnx hD
  try dsimp only [cxOf]
  obtain ⟨a, d1, d2, d3, l, M, dp, dq, dw, dn, rfl, rfl, hs, hw, hz, ⟨h1, rfl⟩ | ⟨h1, h2, rfl⟩ | ⟨h1, h2, h3, rfl⟩ | ⟨p, q, w, rfl, rfl, rfl, hwo, h2, h3, hh⟩⟩ := hG
  · exact st_ware_no hK (e_var rfl) h1 hs hD (List.Sublist.refl _)
  · refine st_ware_ok hK (e_var rfl) h1 hs ?_
    exact st_place_no hK (e_var rfl) h2 hD (List.Sublist.refl _)
  · refine st_ware_ok hK (e_var rfl) h1 hs ?_
    refine st_place_ok hK (e_var rfl) h2 ?_
    exact st_place_no hK (e_var rfl) h3 hD (List.Sublist.refl _)
  · refine st_ware_ok hK (e_var rfl) (isWareB_ok.mpr ⟨w, rfl, hwo⟩) hs ?_
    refine st_place_ok hK (e_var rfl) h2 ?_
    refine st_place_ok hK (e_var rfl) h3 ?_
    rcases hh with ⟨hpq, rfl⟩ | ⟨hpq, h4, rfl⟩ | ⟨n, rfl, hpq, h4, hh⟩
    · exact x_seq (x_if (b := true) (EvT.to (t_tst (e_eqI (e_var rfl) (e_var rfl))) (decide_eq_true hpq)) (fun _ => x_raise hD (List.Sublist.refl _)) (fun h => absurd h (by decide)))
    · refine x_seq (x_if (b := false) (EvT.to (t_tst (e_eqI (e_var rfl) (e_var rfl))) (decide_eq_false hpq)) (fun h => absurd h (by decide)) fun _ => x_next (x_nx ?_))
      exact st_many_no hK (e_var rfl) e_int h4 hD (List.Sublist.refl _)
    · refine x_seq (x_if (b := false) (EvT.to (t_tst (e_eqI (e_var rfl) (e_var rfl))) (decide_eq_false hpq)) (fun h => absurd h (by decide)) fun _ => x_next (x_nx ?_))
      refine st_many_ok hK (e_var rfl) e_int h4 ?_
      rcases hh with ⟨hn, rfl⟩ | ⟨hn, rfl⟩
      · exact st_free_no hK (e_var rfl) (e_var rfl) (e_var rfl) (e_var rfl) hw hwo (hz.mono (by decide)) hn hD
      · refine st_free_ok hK (e_var rfl) (e_var rfl) (e_var rfl) (e_var rfl) hw hwo (hz.mono (by decide)) hn ?_
        refine x_seq (x_drop (e_methM0 (m' := flo (fC K) a d1 d2 d3 l (M.change p w (-n))) hK (e_var rfl) (List.mem_of_getElem? (i := 0) rfl) rfl (a_cons (e_var rfl) (a_cons (e_var rfl) (a_cons (e_neg (e_var rfl)) a_nil))) ⟨a, d1, d2, d3, l, M, p, w, -n, rfl, rfl, rfl, hz.mono (by decide)⟩ rfl (may_all hF rfl)) (x_nx ?_))
        refine x_seq (x_drop (e_methM0 (m' := flo (fC K) a d1 d2 d3 l ((M.change p w (-n)).change q w n)) hK (e_var rfl) (List.mem_of_getElem? (i := 0) rfl) rfl (a_cons (e_var rfl) (a_cons (e_var rfl) (a_cons (e_var rfl) a_nil))) ⟨a, d1, d2, d3, l, M.change p w (-n), q, w, n, rfl, rfl, rfl, hz.change.mono (by decide)⟩ rfl (may_all hF rfl)) (x_nx ?_))
        refine x_app (p := l) (ds := M.de) 4 (f_deeds T (List.mem_of_getElem? (i := 0) rfl) (e_var rfl)) (e_tup (ds := [.str "move", .int p, .int q, .str w, .int n]) (a_consD e_str (a_consD (e_var rfl) (a_consD (e_var rfl) (a_consD (e_var rfl) (a_consD (e_var rfl) a_nilD)))))) rfl (Nat.lt_of_le_of_lt hz.2.2.2 (by decide)) (may_of 4 hF rfl) ⟨M.de, List.mem_of_getElem? (i := 4) rfl⟩ ?_
        exact x_end hnx hD (List.Sublist.refl _)
theorem sc_Floor_shift : FnScope ["self", "number", "goal", "place", "ware", "many"] ["self", "number", "goal"] (defScope s_Floor_shift) := ⟨rfl, rfl, rfl, by decide +kernel, rfl, by decide +kernel, by decide +kernel⟩
def g_Floor_shift (K : PySem.W.Frag) (as : List Sv) (m : Mu) (o : Oc) : Prop := ∃ (a d1 d2 d3 l : Addr) (M : FM) (d dq : PD), as = [.r (.ref a), .d d, .d dq] ∧ m = flo (fC K) a d1 d2 d3 l M ∧ M.sz 99990 ∧ ((isN (M.holding d) = true ∧ o = .exc (He.ga K "NoHold") (flo (fC K) a d1 d2 d3 l M)) ∨ ∃ k h, d = .int k ∧ aget M.st k = some h ∧ ((isWh dq 0 9999 = false ∧ o = .exc (He.ga K "BadPlace") (flo (fC K) a d1 d2 d3 l M)) ∨ ∃ q, dq = .int q ∧ isWh dq 0 9999 = true ∧ ((h.1 = q ∧ o = .exc (He.ga K "SamePlace") (flo (fC K) a d1 d2 d3 l M)) ∨ (¬ h.1 = q ∧ o = .ret dN (flo (fC K) a d1 d2 d3 l (M.shift k h q))))))
theorem ok_Floor_shift {P : Program} {w : World} {K : PySem.W.Frag} {mg : Str → Option Value} {base : Heap} (T : Tx K mg w) (c : He.SaysD fa fn K) : FnB P w K mg base 3 (He.fAd K ("Floor", some "shift")) ["self", "number", "goal"] (spG K 3 false (g_Floor_shift K)) := by
  obtain ⟨fd_Floor_need_hold, g_Floor_need_hold, b_Floor_need_hold, k_Floor_need_hold⟩ := ok_Floor_need_hold (P := P) (w := w) (base := base) T c
  obtain ⟨fd_need_place, g_need_place, b_need_place, k_need_place⟩ := ok_need_place (P := P) (w := w) (base := base) T c
  obtain ⟨fd_Floor_change, g_Floor_change, b_Floor_change, k_Floor_change⟩ := ok_Floor_change (P := P) (w := w) (base := base) T c
  obtain ⟨fd, F⟩ := c.def_ 32 (d := d_Floor_shift) rfl
  refine ⟨fd, fn_ok F sc_Floor_shift rfl fun cdv A outer s H E hr => ⟨_, (pss_cons (ps_asg (pe_meth (pv 0) T.cl_Floor T.mt_need_hold g_Floor_need_hold (hr.mono (by decide)) b_Floor_need_hold .nil (passes_call (takes_of rfl rfl rfl rfl) (fun _ _ _ _ z => z)) (pa_cons (pv 1) pa_nil)) (pg_tup' (K := K) (n := 3) rfl rfl (pgs_cons (pg_name (i := 3) sc_Floor_shift.nd rfl (Or.inl rfl)) (pgs_cons (pg_name (i := 4) sc_Floor_shift.nd rfl (Or.inl rfl)) (pgs_cons (pg_name (i := 5) sc_Floor_shift.nd rfl (Or.inl rfl)) pgs_nil)))))
    (pss_cons (ps_expr (pe_call g_need_place (hr.mono (by decide)) (by rfl) T.m_need_place k_need_place b_need_place .nil (passes_call (takes_of rfl rfl rfl rfl) (fun _ _ _ _ z => z)) (pa_cons (pv 2) pa_nil)))
    (pss_cons (ps_if (pt_cmpR op_eq (pv 3) (pv 2) (nomark _)) (pss_one (ps_raise rfl (takes_of rfl rfl rfl rfl) (pmk_own PySem.F.excBase_ValueError T.x_SamePlace.1 T.m_SamePlace T.x_SamePlace.2.1 (raises_own T.x_SamePlace.2.2.1 T.x_SamePlace.2.2.2) (by exact rfl)))) pss_nil)
    (pss_cons (ps_expr (pe_meth (pv 0) T.cl_Floor T.mt_change g_Floor_change (hr.mono (by decide)) b_Floor_change .nil (passes_call (takes_of rfl rfl rfl rfl) (fun _ _ _ _ z => z)) (pa_cons (pv 3) (pa_cons (pv 4) (pa_cons (pe_un un_neg (pv 5)) pa_nil)))))
    (pss_cons (ps_expr (pe_meth (pv 0) T.cl_Floor T.mt_change g_Floor_change (hr.mono (by decide)) b_Floor_change .nil (passes_call (takes_of rfl rfl rfl rfl) (fun _ _ _ _ z => z)) (pa_cons (pv 2) (pa_cons (pv 4) (pa_cons (pv 5) pa_nil)))))
    (pss_cons (ps_asg (pe_tup (pa_cons (pv 2) (pa_cons (pv 4) (pa_cons (pv 5) pa_nil)))) (pg_sub (pe_fld' (K := K) rfl (pv 0) rfl) (pv 1) (set_dict (hu_of hr))))
    (pss_one (ps_expr (pe_bm PySem.F.plainAttrs_list PySem.F.slot_list_append PySem.F.type_list_append mt_append (pe_fld' (K := K) rfl (pv 0) rfl) (pa_cons (pe_tup (pa_cons pe_str (pa_cons (pv 1) (pa_cons (pv 2) pa_nil)))) pa_nil)))))))))), ?_⟩, FunD.bindsN F (fun _ _ _ _ _ _ us hl => match us, hl with | [_, _, _], _ => rfl), F.kp⟩
  intro Γ as m o D hK hF hO hn hG hnx hD
  try dsimp only [cxOf]
  obtain ⟨a, d1, d2, d3, l, M, d, dq, rfl, rfl, hz, ⟨h1, rfl⟩ | ⟨k, h, rfl, he, hh⟩⟩ := hG
  · refine x_seq (x_asgX (ex_meth (ro := true) (m := flo (fC K) a d1 d2 d3 l M) (m' := flo (fC K) a d1 d2 d3 l M) (rest := []) hK (e_var rfl) (List.mem_of_getElem? (i := 0) rfl) rfl (a_cons (e_var rfl) a_nil) ⟨a, d1, d2, d3, l, M, d, rfl, rfl, (if_pos h1).symm⟩ rfl (fun b hb => nomatch hb) hD (List.Sublist.refl _)))
  · have e := FM.holding_some he
    have hN : isN (M.holding (.int k)) = false := by rw [e]; rfl
    refine x_letT (Ev.to (e_meth hK (e_var rfl) (List.mem_of_getElem? (i := 0) rfl) rfl (a_cons (e_var rfl) a_nil) ⟨a, d1, d2, d3, l, M, .int k, rfl, rfl, (if_neg (by rw [hN]; decide)).symm⟩ (List.Sublist.refl _)) (congrArg Sv.d e)) (gt_tup (ds := [.int h.1, .str h.2.1, .int h.2.2]) hK rfl (gts_cons gt_name (gts_cons gt_name (gts_cons gt_name gts_nil)))) ?_
    rcases hh with ⟨h2, rfl⟩ | ⟨q, rfl, h2, ⟨hq, rfl⟩ | ⟨hq, rfl⟩⟩
    · exact st_place_no hK (e_var rfl) h2 hD (List.Sublist.refl _)
    · refine st_place_ok hK (e_var rfl) h2 ?_
      exact x_seq (x_if (b := true) (EvT.to (t_tst (e_eqI (e_var rfl) (e_var rfl))) (decide_eq_true hq)) (fun _ => x_raise hD (List.Sublist.refl _)) (fun h => absurd h (by decide)))
    · refine st_place_ok hK (e_var rfl) h2 ?_
      refine x_seq (x_if (b := false) (EvT.to (t_tst (e_eqI (e_var rfl) (e_var rfl))) (decide_eq_false hq)) (fun h => absurd h (by decide)) fun _ => x_next (x_nx ?_))
      refine x_seq (x_drop (e_methM0 (m' := flo (fC K) a d1 d2 d3 l (M.change h.1 h.2.1 (-h.2.2))) hK (e_var rfl) (List.mem_of_getElem? (i := 0) rfl) rfl (a_cons (e_var rfl) (a_cons (e_var rfl) (a_cons (e_neg (e_var rfl)) a_nil))) ⟨a, d1, d2, d3, l, M, h.1, h.2.1, -h.2.2, rfl, rfl, rfl, hz.mono (by decide)⟩ rfl (may_all hF rfl)) (x_nx ?_))
      refine x_seq (x_drop (e_methM0 (m' := flo (fC K) a d1 d2 d3 l ((M.change h.1 h.2.1 (-h.2.2)).change q h.2.1 h.2.2)) hK (e_var rfl) (List.mem_of_getElem? (i := 0) rfl) rfl (a_cons (e_var rfl) (a_cons (e_var rfl) (a_cons (e_var rfl) a_nil))) ⟨a, d1, d2, d3, l, M.change h.1 h.2.1 (-h.2.2), q, h.2.1, h.2.2, rfl, rfl, rfl, hz.change.mono (by decide)⟩ rfl (may_all hF rfl)) (x_nx ?_))
      refine x_seq (x_dputK (k := .inl k) (p := d2) (kvs := stD M.st) (d := hV (q, h.2.1, h.2.2)) 2 (e_tup (ds := [.int q, .str h.2.1, .int h.2.2]) (a_consD (e_var rfl) (a_consD (e_var rfl) (a_consD (e_var rfl) a_nilD)))) (f_standing T (List.mem_of_getElem? (i := 0) rfl) (e_var rfl)) (e_var rfl) rfl ?_ (may_of 2 hF rfl) ?_)
      · rw [List.length_map]
        exact Nat.lt_of_le_of_lt hz.2.1 (by decide)
      · rw [put_st]
        refine x_nx ?_
        refine x_app (p := l) (ds := M.de) 4 (f_deeds T (List.mem_of_getElem? (i := 0) rfl) (e_var rfl)) (e_tup (ds := [.str "shift", .int k, .int q]) (a_consD e_str (a_consD (e_var rfl) (a_consD (e_var rfl) a_nilD)))) rfl (Nat.lt_of_le_of_lt hz.2.2.2 (by decide)) (may_of 4 hF rfl) ⟨M.de, List.mem_of_getElem? (i := 4) rfl⟩ ?_
        exact x_end hnx hD (List.Sublist.refl _)
theorem sc_Floor_let : FnScope ["self", "number"] ["self", "number"] (defScope s_Floor_let) := ⟨rfl, rfl, rfl, by decide +kernel, rfl, by decide +kernel, by decide +kernel⟩
def g_Floor_let (K : PySem.W.Frag) (as : List Sv) (m : Mu) (o : Oc) : Prop := ∃ (a d1 d2 d3 l : Addr) (M : FM) (d : PD), as = [.r (.ref a), .d d] ∧ m = flo (fC K) a d1 d2 d3 l M ∧ M.sz 99990 ∧ ((isN (M.holding d) = true ∧ o = .exc (He.ga K "NoHold") (flo (fC K) a d1 d2 d3 l M)) ∨ ∃ k h, d = .int k ∧ aget M.st k = some h ∧ o = .ret dN (flo (fC K) a d1 d2 d3 l (M.let' k)))
theorem ok_Floor_let {P : Program} {w : World} {K : PySem.W.Frag} {mg : Str → Option Value} {base : Heap} (T : Tx K mg w) (c : He.SaysD fa fn K) : FnB P w K mg base 3 (He.fAd K ("Floor", some "let")) ["self", "number"] (spG K 2 false (g_Floor_let K)) := by
  obtain ⟨fd_Floor_need_hold, g_Floor_need_hold, b_Floor_need_hold, k_Floor_need_hold⟩ := ok_Floor_need_hold (P := P) (w := w) (base := base) T c
  obtain ⟨fd_Floor_ended, g_Floor_ended, b_Floor_ended, k_Floor_ended⟩ := ok_Floor_ended (P := P) (w := w) (base := base) T c
  obtain ⟨fd, F⟩ := c.def_ 30 (d := d_Floor_let) rfl
  refine ⟨fd, fn_ok F sc_Floor_let rfl fun cdv A outer s H E hr => ⟨_, (pss_cons (ps_expr (pe_meth (pv 0) T.cl_Floor T.mt_need_hold g_Floor_need_hold (hr.mono (by decide)) b_Floor_need_hold .nil (passes_call (takes_of rfl rfl rfl rfl) (fun _ _ _ _ z => z)) (pa_cons (pv 1) pa_nil)))
    (pss_cons (ps_expr (pe_meth (pv 0) T.cl_Floor T.mt_ended g_Floor_ended (hr.mono (by decide)) b_Floor_ended .nil (passes_call (takes_of rfl rfl rfl rfl) (fun _ _ _ _ z => z)) (pa_cons (pv 1) pa_nil)))
    (pss_one (ps_expr (pe_bm PySem.F.plainAttrs_list PySem.F.slot_list_append PySem.F.type_list_append mt_append (pe_fld' (K := K) rfl (pv 0) rfl) (pa_cons (pe_tup (pa_cons pe_str (pa_cons (pv 1) pa_nil))) pa_nil)))))), ?_⟩, FunD.bindsN F (fun _ _ _ _ _ _ us hl => match us, hl with | [_, _], _ => rfl), F.kp⟩
  intro Γ as m o D hK hF hO hn hG hnx hD
  try dsimp only [cxOf]
  obtain ⟨a, d1, d2, d3, l, M, d, rfl, rfl, hz, ⟨h1, rfl⟩ | ⟨k, h, rfl, he, rfl⟩⟩ := hG
  · refine x_seq (x_dropX (ex_meth (ro := true) (m := flo (fC K) a d1 d2 d3 l M) (m' := flo (fC K) a d1 d2 d3 l M) (rest := []) hK (e_var rfl) (List.mem_of_getElem? (i := 0) rfl) rfl (a_cons (e_var rfl) a_nil) ⟨a, d1, d2, d3, l, M, d, rfl, rfl, (if_pos h1).symm⟩ rfl (fun b hb => nomatch hb) hD (List.Sublist.refl _)))
  · have e := FM.holding_some he
    have hN : isN (M.holding (.int k)) = false := by rw [e]; rfl
    refine x_seq (x_drop (Ev.to (e_meth hK (e_var rfl) (List.mem_of_getElem? (i := 0) rfl) rfl (a_cons (e_var rfl) a_nil) ⟨a, d1, d2, d3, l, M, .int k, rfl, rfl, (if_neg (by rw [hN]; decide)).symm⟩ (List.Sublist.refl _)) (congrArg Sv.d e)) (x_nx ?_))
    refine x_seq (x_drop (e_methM0 (m' := flo (fC K) a d1 d2 d3 l (M.ended k)) hK (e_var rfl) (List.mem_of_getElem? (i := 0) rfl) rfl (a_cons (e_var rfl) a_nil) ⟨a, d1, d2, d3, l, M, k, h, rfl, rfl, rfl, he⟩ rfl (may_all hF rfl)) (x_nx ?_))
    refine x_app (p := l) (ds := M.de) 4 (f_deeds T (List.mem_of_getElem? (i := 0) rfl) (e_var rfl)) (e_tup (ds := [.str "let", .int k]) (a_consD e_str (a_consD (e_var rfl) a_nilD))) rfl (Nat.lt_of_le_of_lt hz.2.2.2 (by decide)) (may_of 4 hF rfl) ⟨M.de, List.mem_of_getElem? (i := 4) rfl⟩ ?_
    exact x_end hnx hD (List.Sublist.refl _)
theorem sc_Floor_take : FnScope ["self", "number", "place", "ware", "many"] ["self", "number"] (defScope s_Floor_take) := ⟨rfl, rfl, rfl, by decide +kernel, rfl, by decide +kernel, by decide +kernel⟩
def g_Floor_take (K : PySem.W.Frag) (as : List Sv) (m : Mu) (o : Oc) : Prop := ∃ (a d1 d2 d3 l : Addr) (M : FM) (d : PD), as = [.r (.ref a), .d d] ∧ m = flo (fC K) a d1 d2 d3 l M ∧ M.sz 99990 ∧ ((isN (M.holding d) = true ∧ o = .exc (He.ga K "NoHold") (flo (fC K) a d1 d2 d3 l M)) ∨ ∃ k h, d = .int k ∧ aget M.st k = some h ∧ o = .ret dN (flo (fC K) a d1 d2 d3 l (M.take k h)))
theorem ok_Floor_take {P : Program} {w : World} {K : PySem.W.Frag} {mg : Str → Option Value} {base : Heap} (T : Tx K mg w) (c : He.SaysD fa fn K) : FnB P w K mg base 3 (He.fAd K ("Floor", some "take")) ["self", "number"] (spG K 2 false (g_Floor_take K)) := by
  obtain ⟨fd_Floor_need_hold, g_Floor_need_hold, b_Floor_need_hold, k_Floor_need_hold⟩ := ok_Floor_need_hold (P := P) (w := w) (base := base) T c
  obtain ⟨fd_Floor_ended, g_Floor_ended, b_Floor_ended, k_Floor_ended⟩ := ok_Floor_ended (P := P) (w := w) (base := base) T c
  obtain ⟨fd_Floor_change, g_Floor_change, b_Floor_change, k_Floor_change⟩ := ok_Floor_change (P := P) (w := w) (base := base) T c
  obtain ⟨fd_Floor_tell, g_Floor_tell, b_Floor_tell, k_Floor_tell⟩ := ok_Floor_tell (P := P) (w := w) (base := base) T c
  obtain ⟨fd, F⟩ := c.def_ 31 (d := d_Floor_take) rfl
  refine ⟨fd, fn_ok F sc_Floor_take rfl fun cdv A outer s H E hr => ⟨_, (pss_cons (ps_asg (pe_meth (pv 0) T.cl_Floor T.mt_need_hold g_Floor_need_hold (hr.mono (by decide)) b_Floor_need_hold .nil (passes_call (takes_of rfl rfl rfl rfl) (fun _ _ _ _ z => z)) (pa_cons (pv 1) pa_nil)) (pg_tup' (K := K) (n := 3) rfl rfl (pgs_cons (pg_name (i := 2) sc_Floor_take.nd rfl (Or.inl rfl)) (pgs_cons (pg_name (i := 3) sc_Floor_take.nd rfl (Or.inl rfl)) (pgs_cons (pg_name (i := 4) sc_Floor_take.nd rfl (Or.inl rfl)) pgs_nil)))))
    (pss_cons (ps_expr (pe_meth (pv 0) T.cl_Floor T.mt_ended g_Floor_ended (hr.mono (by decide)) b_Floor_ended .nil (passes_call (takes_of rfl rfl rfl rfl) (fun _ _ _ _ z => z)) (pa_cons (pv 1) pa_nil)))
    (pss_cons (ps_expr (pe_meth (pv 0) T.cl_Floor T.mt_change g_Floor_change (hr.mono (by decide)) b_Floor_change .nil (passes_call (takes_of rfl rfl rfl rfl) (fun _ _ _ _ z => z)) (pa_cons (pv 2) (pa_cons (pv 3) (pa_cons (pe_un un_neg (pv 4)) pa_nil)))))
    (pss_cons (ps_expr (pe_meth (pv 0) T.cl_Floor T.mt_tell g_Floor_tell (hr.mono (by decide)) b_Floor_tell .nil (passes_call (takes_of rfl rfl rfl rfl) (fun _ _ _ _ z => z)) (pa_cons (pv 3) (pa_cons pe_int (pa_cons (pv 4) (pa_cons pe_int pa_nil))))))
    (pss_one (ps_expr (pe_bm PySem.F.plainAttrs_list PySem.F.slot_list_append PySem.F.type_list_append mt_append (pe_fld' (K := K) rfl (pv 0) rfl) (pa_cons (pe_tup (pa_cons pe_str (pa_cons (pv 1) pa_nil))) pa_nil)))))))), ?_⟩, FunD.bindsN F (fun _ _ _ _ _ _ us hl => match us, hl with | [_, _], _ => rfl), F.kp⟩
  intro Γ as m o D hK hF hO hn hG hnx hD
  try dsimp only [cxOf]
  obtain ⟨a, d1, d2, d3, l, M, d, rfl, rfl, hz, ⟨h1, rfl⟩ | ⟨k, h, rfl, he, rfl⟩⟩ := hG
  · refine x_seq (x_asgX (ex_meth (ro := true) (m := flo (fC K) a d1 d2 d3 l M) (m' := flo (fC K) a d1 d2 d3 l M) (rest := []) hK (e_var rfl) (List.mem_of_getElem? (i := 0) rfl) rfl (a_cons (e_var rfl) a_nil) ⟨a, d1, d2, d3, l, M, d, rfl, rfl, (if_pos h1).symm⟩ rfl (fun b hb => nomatch hb) hD (List.Sublist.refl _)))
  · have e := FM.holding_some he
    have hN : isN (M.holding (.int k)) = false := by rw [e]; rfl
    refine x_letT (Ev.to (e_meth hK (e_var rfl) (List.mem_of_getElem? (i := 0) rfl) rfl (a_cons (e_var rfl) a_nil) ⟨a, d1, d2, d3, l, M, .int k, rfl, rfl, (if_neg (by rw [hN]; decide)).symm⟩ (List.Sublist.refl _)) (congrArg Sv.d e)) (gt_tup (ds := [.int h.1, .str h.2.1, .int h.2.2]) hK rfl (gts_cons gt_name (gts_cons gt_name (gts_cons gt_name gts_nil)))) ?_
    refine x_seq (x_drop (e_methM0 (m' := flo (fC K) a d1 d2 d3 l (M.ended k)) hK (e_var rfl) (List.mem_of_getElem? (i := 0) rfl) rfl (a_cons (e_var rfl) a_nil) ⟨a, d1, d2, d3, l, M, k, h, rfl, rfl, rfl, he⟩ rfl (may_all hF rfl)) (x_nx ?_))
    refine x_seq (x_drop (e_methM0 (m' := flo (fC K) a d1 d2 d3 l ((M.ended k).change h.1 h.2.1 (-h.2.2))) hK (e_var rfl) (List.mem_of_getElem? (i := 0) rfl) rfl (a_cons (e_var rfl) (a_cons (e_var rfl) (a_cons (e_neg (e_var rfl)) a_nil))) ⟨a, d1, d2, d3, l, M.ended k, h.1, h.2.1, -h.2.2, rfl, rfl, rfl, hz.ended.mono (by decide)⟩ rfl (may_all hF rfl)) (x_nx ?_))
    refine x_seq (x_drop (e_methM0 (m' := flo (fC K) a d1 d2 d3 l (((M.ended k).change h.1 h.2.1 (-h.2.2)).tell h.2.1 0 h.2.2 0)) hK (e_var rfl) (List.mem_of_getElem? (i := 0) rfl) rfl (a_cons (e_var rfl) (a_cons e_int (a_cons (e_var rfl) (a_cons e_int a_nil)))) ⟨a, d1, d2, d3, l, (M.ended k).change h.1 h.2.1 (-h.2.2), h.2.1, 0, h.2.2, 0, rfl, rfl, rfl, hz.ended.change.mono (by decide)⟩ rfl (may_all hF rfl)) (x_nx ?_))
    refine x_app (p := l) (ds := M.de) 4 (f_deeds T (List.mem_of_getElem? (i := 0) rfl) (e_var rfl)) (e_tup (ds := [.str "take", .int k]) (a_consD e_str (a_consD (e_var rfl) a_nilD))) rfl (Nat.lt_of_le_of_lt hz.2.2.2 (by decide)) (may_of 4 hF rfl) ⟨M.de, List.mem_of_getElem? (i := 4) rfl⟩ ?_
    exact x_end hnx hD (List.Sublist.refl _)
theorem sc_Floor_go : FnScope ["self", "place", "ware", "many"] ["self", "place", "ware", "many"] (defScope s_Floor_go) := ⟨rfl, rfl, rfl, by decide +kernel, rfl, by decide +kernel, by decide +kernel⟩
def g_Floor_go (K : PySem.W.Frag) (as : List Sv) (m : Mu) (o : Oc) : Prop := ∃ (a d1 d2 d3 l : Addr) (M : FM) (dp dw dn : PD), as = [.r (.ref a), .d dp, .d dw, .d dn] ∧ m = flo (fC K) a d1 d2 d3 l M ∧ stOk dw ∧ M.wok ∧ M.sz 99990 ∧ ((isWareB dw = false ∧ o = .exc (He.ga K "BadWare") (flo (fC K) a d1 d2 d3 l M)) ∨ (isWareB dw = true ∧ isWh dp 0 9999 = false ∧ o = .exc (He.ga K "BadPlace") (flo (fC K) a d1 d2 d3 l M)) ∨ (isWareB dw = true ∧ isWh dp 0 9999 = true ∧ isWh dn 1 (10 ^ 30) = false ∧ o = .exc (He.ga K "BadMany") (flo (fC K) a d1 d2 d3 l M)) ∨ (∃ p w n, dp = .int p ∧ dw = .str w ∧ dn = .int n ∧ WareOk w ∧ isWh dp 0 9999 = true ∧ isWh dn 1 (10 ^ 30) = true ∧ ¬ n ≤ M.free p w ∧ o = .exc (He.ga K "TooFew") (flo (fC K) a d1 d2 d3 l M)) ∨ ∃ p w n, dp = .int p ∧ dw = .str w ∧ dn = .int n ∧ WareOk w ∧ isWh dp 0 9999 = true ∧ isWh dn 1 (10 ^ 30) = true ∧ n ≤ M.free p w ∧ o = .ret dN (flo (fC K) a d1 d2 d3 l (M.go p w n)))
theorem ok_Floor_go {P : Program} {w : World} {K : PySem.W.Frag} {mg : Str → Option Value} {base : Heap} (T : Tx K mg w) (c : He.SaysD fa fn K) : FnB P w K mg base 4 (He.fAd K ("Floor", some "go")) ["self", "place", "ware", "many"] (spG K 4 false (g_Floor_go K)) := by
  obtain ⟨fd_need_ware, g_need_ware, b_need_ware, k_need_ware⟩ := ok_need_ware (P := P) (w := w) (base := base) T c
  obtain ⟨fd_need_place, g_need_place, b_need_place, k_need_place⟩ := ok_need_place (P := P) (w := w) (base := base) T c
  obtain ⟨fd_need_many, g_need_many, b_need_many, k_need_many⟩ := ok_need_many (P := P) (w := w) (base := base) T c
  obtain ⟨fd_Floor_need_free, g_Floor_need_free, b_Floor_need_free, k_Floor_need_free⟩ := ok_Floor_need_free (P := P) (w := w) (base := base) T c
  obtain ⟨fd_Floor_change, g_Floor_change, b_Floor_change, k_Floor_change⟩ := ok_Floor_change (P := P) (w := w) (base := base) T c
  obtain ⟨fd_Floor_tell, g_Floor_tell, b_Floor_tell, k_Floor_tell⟩ := ok_Floor_tell (P := P) (w := w) (base := base) T c
  obtain ⟨fd, F⟩ := c.def_ 27 (d := d_Floor_go) rfl
  refine ⟨fd, fn_ok F sc_Floor_go rfl fun cdv A outer s H E hr => ⟨_, (pss_cons (ps_expr (pe_call g_need_ware (hr.mono (by decide)) (by rfl) T.m_need_ware k_need_ware b_need_ware .nil (passes_call (takes_of rfl rfl rfl rfl) (fun _ _ _ _ z => z)) (pa_cons (pv 2) pa_nil)))
    (pss_cons (ps_expr (pe_call g_need_place (hr.mono (by decide)) (by rfl) T.m_need_place k_need_place b_need_place .nil (passes_call (takes_of rfl rfl rfl rfl) (fun _ _ _ _ z => z)) (pa_cons (pv 1) pa_nil)))
    (pss_cons (ps_expr (pe_call g_need_many (hr.mono (by decide)) (by rfl) T.m_need_many k_need_many b_need_many .nil (passes_call (takes_of rfl rfl rfl rfl) (fun _ _ _ _ z => z)) (pa_cons (pv 3) (pa_cons pe_int pa_nil))))
    (pss_cons (ps_expr (pe_meth (pv 0) T.cl_Floor T.mt_need_free g_Floor_need_free (hr.mono (by decide)) b_Floor_need_free .nil (passes_call (takes_of rfl rfl rfl rfl) (fun _ _ _ _ z => z)) (pa_cons (pv 1) (pa_cons (pv 2) (pa_cons (pv 3) pa_nil)))))
    (pss_cons (ps_expr (pe_meth (pv 0) T.cl_Floor T.mt_change g_Floor_change (hr.mono (by decide)) b_Floor_change .nil (passes_call (takes_of rfl rfl rfl rfl) (fun _ _ _ _ z => z)) (pa_cons (pv 1) (pa_cons (pv 2) (pa_cons (pe_un un_neg (pv 3)) pa_nil)))))
    (pss_cons (ps_expr (pe_meth (pv 0) T.cl_Floor T.mt_tell g_Floor_tell (hr.mono (by decide)) b_Floor_tell .nil (passes_call (takes_of rfl rfl rfl rfl) (fun _ _ _ _ z => z)) (pa_cons (pv 2) (pa_cons pe_int (pa_cons (pv 3) (pa_cons pe_int pa_nil))))))
    (pss_one (ps_expr (pe_bm PySem.F.plainAttrs_list PySem.F.slot_list_append PySem.F.type_list_append mt_append (pe_fld' (K := K) rfl (pv 0) rfl) (pa_cons (pe_tup (pa_cons pe_str (pa_cons (pv 1) (pa_cons (pv 2) (pa_cons (pv 3) pa_nil))))) pa_nil)))))))))), ?_⟩, FunD.bindsN F (fun _ _ _ _ _ _ us hl => match us, hl with | [_, _, _, _], _ => rfl), F.kp⟩
  intro Γ as m o D hK hF hO hn hG hnx hD
  try dsimp only [cxOf]
  obtain ⟨a, d1, d2, d3, l, M, dp, dw, dn, rfl, rfl, hs, hw, hz, ⟨h1, rfl⟩ | ⟨h1, h2, rfl⟩ | ⟨h1, h2, h3, rfl⟩ | ⟨p, w, n, rfl, rfl, rfl, hwo, h2, h3, hn, rfl⟩ | ⟨p, w, n, rfl, rfl, rfl, hwo, h2, h3, hn, rfl⟩⟩ := hG
  · exact st_ware_no hK (e_var rfl) h1 hs hD (List.Sublist.refl _)
  · refine st_ware_ok hK (e_var rfl) h1 hs ?_
    exact st_place_no hK (e_var rfl) h2 hD (List.Sublist.refl _)
  · refine st_ware_ok hK (e_var rfl) h1 hs ?_
    refine st_place_ok hK (e_var rfl) h2 ?_
    exact st_many_no hK (e_var rfl) e_int h3 hD (List.Sublist.refl _)
  · refine st_ware_ok hK (e_var rfl) (isWareB_ok.mpr ⟨w, rfl, hwo⟩) hs ?_
    refine st_place_ok hK (e_var rfl) h2 ?_
    refine st_many_ok hK (e_var rfl) e_int h3 ?_
    exact st_free_no hK (e_var rfl) (e_var rfl) (e_var rfl) (e_var rfl) hw hwo (hz.mono (by decide)) hn hD
  · refine st_ware_ok hK (e_var rfl) (isWareB_ok.mpr ⟨w, rfl, hwo⟩) hs ?_
    refine st_place_ok hK (e_var rfl) h2 ?_
    refine st_many_ok hK (e_var rfl) e_int h3 ?_
    refine st_free_ok hK (e_var rfl) (e_var rfl) (e_var rfl) (e_var rfl) hw hwo (hz.mono (by decide)) hn ?_
    refine x_seq (x_drop (e_methM0 (m' := flo (fC K) a d1 d2 d3 l (M.change p w (-n))) hK (e_var rfl) (List.mem_of_getElem? (i := 0) rfl) rfl (a_cons (e_var rfl) (a_cons (e_var rfl) (a_cons (e_neg (e_var rfl)) a_nil))) ⟨a, d1, d2, d3, l, M, p, w, -n, rfl, rfl, rfl, hz.mono (by decide)⟩ rfl (may_all hF rfl)) (x_nx ?_))
    refine x_seq (x_drop (e_methM0 (m' := flo (fC K) a d1 d2 d3 l ((M.change p w (-n)).tell w 0 n 0)) hK (e_var rfl) (List.mem_of_getElem? (i := 0) rfl) rfl (a_cons (e_var rfl) (a_cons e_int (a_cons (e_var rfl) (a_cons e_int a_nil)))) ⟨a, d1, d2, d3, l, M.change p w (-n), w, 0, n, 0, rfl, rfl, rfl, hz.change.mono (by decide)⟩ rfl (may_all hF rfl)) (x_nx ?_))
    refine x_app (p := l) (ds := M.de) 4 (f_deeds T (List.mem_of_getElem? (i := 0) rfl) (e_var rfl)) (e_tup (ds := [.str "go", .int p, .str w, .int n]) (a_consD e_str (a_consD (e_var rfl) (a_consD (e_var rfl) (a_consD (e_var rfl) a_nilD))))) rfl (Nat.lt_of_le_of_lt hz.2.2.2 (by decide)) (may_of 4 hF rfl) ⟨M.de, List.mem_of_getElem? (i := 4) rfl⟩ ?_
    exact x_end hnx hD (List.Sublist.refl _)
theorem sc_Floor_lost : FnScope ["self", "place", "ware", "lacking", "found", "number", "part", "where", "what", "many"] ["self", "place", "ware", "lacking"] (defScope s_Floor_lost) := ⟨rfl, rfl, rfl, by decide +kernel, rfl, by decide +kernel, by decide +kernel⟩
def g_Floor_lost (K : PySem.W.Frag) (as : List Sv) (m : Mu) (o : Oc) : Prop := ∃ (a d1 d2 d3 l : Addr) (M : FM) (p : Int) (w : Str) (x : Int), as = [.r (.ref a), dI p, dS w, dI x] ∧ m = flo (fC K) a d1 d2 d3 l M ∧ PyData.strOk w = true ∧ M.wok ∧ M.sz 99995 ∧ (M.st.map (·.1)).Nodup ∧ o = nw (.lst (pairsD (M.lost p w x).2)) (flo (fC K) a d1 d2 d3 l (M.lost p w x).1)
theorem ok_Floor_lost {P : Program} {w : World} {K : PySem.W.Frag} {mg : Str → Option Value} {base : Heap} (T : Tx K mg w) (c : He.SaysD fa fn K) : FnB P w K mg base 2 (He.fAd K ("Floor", some "lost")) ["self", "place", "ware", "lacking"] (spG K 4 false (g_Floor_lost K)) := by
  obtain ⟨fd_Floor_ended, g_Floor_ended, b_Floor_ended, k_Floor_ended⟩ := ok_Floor_ended (P := P) (w := w) (base := base) T c
  obtain ⟨fd, F⟩ := c.def_ 33 (d := d_Floor_lost) rfl
  refine ⟨fd, fn_ok F sc_Floor_lost rfl fun cdv A outer s H E hr => ⟨_, (pss_cons (ps_set (i := 4) sc_Floor_lost.nd rfl (Or.inl rfl) (pe_lst pa_nil))
    (pss_cons (ps_for (passes_of rfl) rfl (pi_reversed' (K := K) rfl (by rfl) T.z_reversed (pa_cons (pe_callB (cr_sortedDI rfl) (by rfl) T.z_sorted (by decide +kernel) (pa_cons (pe_fld' (K := K) rfl (pv 0) rfl) pa_nil)) pa_nil)) (pg_name (i := 5) sc_Floor_lost.nd rfl (Or.inl rfl))
      (pss_cons (ps_asg (pe_dget (hu_of hr) (pe_fld' (K := K) rfl (pv 0) rfl) (pv 5) (fun _ _ => rfl)) (pg_tup' (K := K) (n := 3) rfl rfl (pgs_cons (pg_name (i := 7) sc_Floor_lost.nd rfl (Or.inl rfl)) (pgs_cons (pg_name (i := 8) sc_Floor_lost.nd rfl (Or.inl rfl)) (pgs_cons (pg_name (i := 9) sc_Floor_lost.nd rfl (Or.inl rfl)) pgs_nil)))))
    (pss_cons (ps_set (i := 6) sc_Floor_lost.nd rfl (Or.inl rfl) (pe_callB (call_min2 rfl) (by rfl) T.z_min (by decide +kernel) (pa_cons (pv 9) (pa_cons (pv 3) pa_nil))))
    (pss_one (ps_if (PW.pt (pw_and (pt_cmpR (op_eqD' (K := K) rfl hr.units) (pe_tup (pa_cons (pv 7) (pa_cons (pv 8) pa_nil))) (pe_tup (pa_cons (pv 1) (pa_cons (pv 2) pa_nil))) (nomark _)) (pw_and1 (pt_cmpR op_gt (pv 6) pe_int (nomark _))))) (pss_cons (ps_expr (pe_bm PySem.F.plainAttrs_list PySem.F.slot_list_append PySem.F.type_list_append mt_append (pv 4) (pa_cons (pe_tup (pa_cons (pv 5) (pa_cons (pv 6) pa_nil))) pa_nil)))
    (pss_cons (ps_set (i := 3) sc_Floor_lost.nd rfl (Or.inl rfl) (pe_op op_sub (pv 3) (pv 6)))
    (pss_one (ps_if (pt_cmpR op_eq (pv 6) (pv 9) (nomark _)) (pss_one (ps_expr (pe_meth (pv 0) T.cl_Floor T.mt_ended g_Floor_ended (hr.mono (by decide)) b_Floor_ended .nil (passes_call (takes_of rfl rfl rfl rfl) (fun _ _ _ _ z => z)) (pa_cons (pv 5) pa_nil)))) (pss_one (ps_asg (pe_tup (pa_cons (pv 1) (pa_cons (pv 2) (pa_cons (pe_op op_sub (pv 9) (pv 6)) pa_nil)))) (pg_sub (pe_fld' (K := K) rfl (pv 0) rfl) (pv 5) (set_dict (hu_of hr))))))))) pss_nil)))))
    (pss_one (ps_ret (pv 4))))), ?_⟩, FunD.bindsN F (fun _ _ _ _ _ _ us hl => match us, hl with | [_, _, _, _], _ => rfl), F.kp⟩
  intro Γ as m o D hK hF hO hn hG hnx hD
  try dsimp only [cxOf]
  obtain ⟨a, d1, d2, d3, l, M, p, w, x, rfl, rfl, hs, hw, hz, hnd, rfl⟩ := hG
  refine x_letN1 (EvN.to1 (n_lst (ds := []) a_nilD) (o' := .lst (pairsD [])) rfl) fun q hq _ => ?_
  have hlen : (datas (((srt (M.st.map (·.1))).map PyData.int).reverse)).length ≤ 99995 := by
    have : (srt (M.st.map (·.1))).length = M.st.length := by
      unfold srt
      rw [List.length_mergeSort, List.length_map]
    simp only [datas, List.length_map, List.length_reverse]
    rw [this]
    exact hz.2.1
  refine x_seq (x_for (w_rev hK (EvN.fz (n_sortDI (p := d2) (ns := M.st.map (·.1)) (f_standing T (List.mem_of_getElem? (i := 1) rfl) (e_var rfl)) (List.mem_of_getElem? (i := 3) rfl) ?_))) (fun i δ μ => ∃ y5 y6 y7 y8 y9 M' x' t, δ = [some (.r (.ref a)), some (dI p), some (dS w), some (dI x'), some (.r (.ref q)), y5, y6, y7, y8, y9] ∧ μ = (q, OO.lst (pairsD t)) :: flo (fC K) a d1 d2 d3 l M' ∧ LostAt p w (M.numbers.reverse.drop i) M' x' t (M.lost p w x) ∧ M'.wok ∧ M'.sz 99995 ∧ t.length ≤ i) ⟨_, _, _, _, _, M, x, [], rfl, rfl, LostAt.start hnd, hw, hz, Nat.le_refl _⟩ ?_ ?_)
  · rw [List.map_map, List.map_map]
    rfl
  · rintro i s δ μ gh D' hs' ⟨y5, y6, y7, y8, y9, M', x', t, rfl, rfl, hL, hw', hz', ht⟩ hnx' hct' hrt' _
    have hi : i < 99995 := Nat.lt_of_lt_of_le (List.getElem?_eq_some_iff.mp hs').1 hlen
    obtain ⟨k, rfl, hk⟩ := rev_get hs'
    have hk : M.numbers.reverse[i]? = some k := hk
    rw [drop_get hk] at hL
    obtain ⟨h, he⟩ := hL.ok k List.mem_cons_self
    have hwe : PyData.strOk h.2.1 = true := hw' (k, h) (aget_mem he)
    have hL' := hL.step
    have hpl : (pairsD t).length = t.length := List.length_map _
    refine ⟨_, gt_name, ?_⟩
    refine x_letT (e_dsubK (k := .inl k) (p := d2) (kvs := stD M'.st) (d := hV h) (f_standing T (List.mem_of_getElem? (i := 1) rfl) (e_var rfl)) (e_var rfl) (List.mem_of_getElem? (i := 3) rfl) (by rw [val_st, he]; rfl)) (gt_tup (ds := [.int h.1, .str h.2.1, .int h.2.2]) hK rfl (gts_cons gt_name (gts_cons gt_name (gts_cons gt_name gts_nil)))) ?_
    refine x_let (e_min2 (e_var rfl) (e_var rfl)) ?_
    refine x_if (t_and (t_B (e_eqD hK (e_tup (ds := [.int h.1, .str h.2.1]) (a_consD (e_var rfl) (a_consD (e_var rfl) a_nilD))) (e_tup (ds := [.int p, .str w]) (a_consD (e_var rfl) (a_consD (e_var rfl) a_nilD))) ((shp_pair hwe).ok (by decide)) ((shp_pair hs).ok (by decide)))) (fun _ => t_tst (e_opB (e_var rfl) e_int))) (fun hb => ?_) (fun hb => ?_)
    · have hc : h.1 = p ∧ h.2.1 = w ∧ 0 < min h.2.2 x' := by
        have h1 := Bool.and_eq_true_iff.mp hb
        have h2 := h1.1
        rw [eqv_pair] at h2
        have h2 := Bool.and_eq_true_iff.mp h2
        exact ⟨of_decide_eq_true h2.1, of_decide_eq_true h2.2, of_decide_eq_true h1.2⟩
      refine x_seq (x_app (p := q) (ds := pairsD t) 0 (e_var rfl) (e_tup (ds := [.int k, .int (min h.2.2 x')]) (a_consD (e_var rfl) (a_consD (e_var rfl) a_nilD))) rfl (by rw [hpl]; omega) (.inr hq) ⟨_, List.mem_of_getElem? (i := 0) rfl⟩ (x_nx ?_))
      have et : pairsD t ++ [.tuple [.int k, .int (min h.2.2 x')]] = pairsD (t ++ [(k, min h.2.2 x')]) := by
        unfold pairsD
        rw [List.map_append]
        rfl
      rw [et]
      refine x_let (e_opI (e_var rfl) (e_var rfl)) ?_
      refine x_if (t_tst (e_eqI (e_var rfl) (e_var rfl))) (fun h3 => ?_) (fun h3 => ?_)
      · rw [FM.lose1_all he hc (of_decide_eq_true h3)] at hL'
        refine x_drop (Ev.perms (e_methM (m := flo (fC K) a d1 d2 d3 l (M')) (m' := flo (fC K) a d1 d2 d3 l (M'.ended k)) (rest := [(q, OO.lst (pairsD (t ++ [(k, min h.2.2 x')])))]) hK (e_var rfl) (List.mem_of_getElem? (i := 0) rfl) rfl (a_cons (e_var rfl) a_nil) ⟨a, d1, d2, d3, l, M', k, h, rfl, rfl, rfl, he⟩ rfl (may_all hF rfl)) List.perm_append_comm (List.perm_append_comm (l₁ := [(q, OO.lst (pairsD (t ++ [(k, min h.2.2 x')])))]))) ?_
        exact nx_loop hnx' ⟨_, _, _, _, _, M'.ended k, _, _, rfl, rfl, hL', FM.wok_ended hw', hz'.ended, by rw [List.length_append]; exact Nat.succ_le_succ ht⟩
      · rw [FM.lose1_part he hc (of_decide_eq_false h3)] at hL'
        refine x_dputK (k := .inl k) (p := d2) (kvs := stD M'.st) (d := hV (p, w, h.2.2 - min h.2.2 x')) 3 (e_tup (ds := [.int p, .str w, .int (h.2.2 - min h.2.2 x')]) (a_consD (e_var rfl) (a_consD (e_var rfl) (a_consD (e_opI (e_var rfl) (e_var rfl)) a_nilD)))) (f_standing T (List.mem_of_getElem? (i := 1) rfl) (e_var rfl)) (e_var rfl) rfl ?_ (may_of 2 hF rfl) ?_
        · rw [List.length_map]
          exact Nat.lt_of_le_of_lt hz'.2.1 (by decide)
        · rw [put_st]
          exact nx_loop hnx' ⟨_, _, _, _, _, M'.rehold k p w (h.2.2 - min h.2.2 x'), _, _, rfl, rfl, hL', FM.wok_rehold hw' hs, FM.sz_rehold he hz', by rw [List.length_append]; exact Nat.succ_le_succ ht⟩
    · have hc : ¬(h.1 = p ∧ h.2.1 = w ∧ 0 < min h.2.2 x') := fun z => by
        have hb : (PyData.eqv (.tuple [.int h.1, .str h.2.1]) (.tuple [.int p, .str w]) && decide (min h.2.2 x' > 0)) = false := hb
        rw [eqv_pair, decide_eq_true z.1, decide_eq_true z.2.1, decide_eq_true z.2.2] at hb
        cases hb
      rw [FM.lose1_no he hc, List.append_nil] at hL'
      exact x_next (nx_loop hnx' ⟨_, _, _, _, _, M', _, t, rfl, rfl, hL', hw', hz', Nat.le_succ_of_le ht⟩)
  · rintro δ μ ⟨y5, y6, y7, y8, y9, M', x', t, rfl, rfl, hL, hw', hz', ht⟩
    have e0 : M.numbers.reverse.drop (datas (((srt (M.st.map (·.1))).map PyData.int).reverse)).length = [] := List.drop_eq_nil_of_le (by
      simp only [datas, List.length_map, List.length_reverse]
      exact Nat.le_refl _)
    rw [e0] at hL
    have e1 := hL.done
    rw [e1] at hD
    exact x_nx (x_retOwn (E := E) (e_var rfl) hq hD (List.Sublist.refl _))
theorem sc_Floor_counted : FnScope ["self", "place", "ware", "many", "found"] ["self", "place", "ware", "many"] (defScope s_Floor_counted) := ⟨rfl, rfl, rfl, by decide +kernel, rfl, by decide +kernel, by decide +kernel⟩
def g_Floor_counted (K : PySem.W.Frag) (as : List Sv) (m : Mu) (o : Oc) : Prop := ∃ (a d1 d2 d3 l : Addr) (M : FM) (dp dw dn : PD), as = [.r (.ref a), .d dp, .d dw, .d dn] ∧ m = flo (fC K) a d1 d2 d3 l M ∧ stOk dw ∧ M.wok ∧ M.sz 99990 ∧ (M.st.map (·.1)).Nodup ∧ ((isWareB dw = false ∧ o = .exc (He.ga K "BadWare") (flo (fC K) a d1 d2 d3 l M)) ∨ (isWareB dw = true ∧ isWh dp 0 9999 = false ∧ o = .exc (He.ga K "BadPlace") (flo (fC K) a d1 d2 d3 l M)) ∨ (isWareB dw = true ∧ isWh dp 0 9999 = true ∧ isWh dn 0 (10 ^ 30) = false ∧ o = .exc (He.ga K "BadMany") (flo (fC K) a d1 d2 d3 l M)) ∨ ∃ p w n, dp = .int p ∧ dw = .str w ∧ dn = .int n ∧ WareOk w ∧ isWh dp 0 9999 = true ∧ isWh dn 0 (10 ^ 30) = true ∧ o = nw (.lst (pairsD (M.counted p w n).2)) (flo (fC K) a d1 d2 d3 l (M.counted p w n).1))
theorem ok_Floor_counted {P : Program} {w : World} {K : PySem.W.Frag} {mg : Str → Option Value} {base : Heap} (T : Tx K mg w) (c : He.SaysD fa fn K) : FnB P w K mg base 3 (He.fAd K ("Floor", some "counted")) ["self", "place", "ware", "many"] (spG K 4 false (g_Floor_counted K)) := by
  obtain ⟨fd_need_ware, g_need_ware, b_need_ware, k_need_ware⟩ := ok_need_ware (P := P) (w := w) (base := base) T c
  obtain ⟨fd_need_place, g_need_place, b_need_place, k_need_place⟩ := ok_need_place (P := P) (w := w) (base := base) T c
  obtain ⟨fd_need_many, g_need_many, b_need_many, k_need_many⟩ := ok_need_many (P := P) (w := w) (base := base) T c
  obtain ⟨fd_Floor_tell, g_Floor_tell, b_Floor_tell, k_Floor_tell⟩ := ok_Floor_tell (P := P) (w := w) (base := base) T c
  obtain ⟨fd_Floor_lost, g_Floor_lost, b_Floor_lost, k_Floor_lost⟩ := ok_Floor_lost (P := P) (w := w) (base := base) T c
  obtain ⟨fd_Floor_there, g_Floor_there, b_Floor_there, k_Floor_there⟩ := ok_Floor_there (P := P) (w := w) (base := base) T c
  obtain ⟨fd_Floor_held, g_Floor_held, b_Floor_held, k_Floor_held⟩ := ok_Floor_held (P := P) (w := w) (base := base) T c
  obtain ⟨fd, F⟩ := c.def_ 34 (d := d_Floor_counted) rfl
  refine ⟨fd, fn_ok F sc_Floor_counted rfl fun cdv A outer s H E hr => ⟨_, (pss_cons (ps_expr (pe_call g_need_ware (hr.mono (by decide)) (by rfl) T.m_need_ware k_need_ware b_need_ware .nil (passes_call (takes_of rfl rfl rfl rfl) (fun _ _ _ _ z => z)) (pa_cons (pv 2) pa_nil)))
    (pss_cons (ps_expr (pe_call g_need_place (hr.mono (by decide)) (by rfl) T.m_need_place k_need_place b_need_place .nil (passes_call (takes_of rfl rfl rfl rfl) (fun _ _ _ _ z => z)) (pa_cons (pv 1) pa_nil)))
    (pss_cons (ps_expr (pe_call g_need_many (hr.mono (by decide)) (by rfl) T.m_need_many k_need_many b_need_many .nil (passes_call (takes_of rfl rfl rfl rfl) (fun _ _ _ _ z => z)) (pa_cons (pv 3) (pa_cons pe_int pa_nil))))
    (pss_cons (ps_expr (pe_meth (pv 0) T.cl_Floor T.mt_tell g_Floor_tell (hr.mono (by decide)) b_Floor_tell .nil (passes_call (takes_of rfl rfl rfl rfl) (fun _ _ _ _ z => z)) (pa_cons (pv 2) (pa_cons pe_int (pa_cons pe_int (pa_cons (pe_op op_sub (pv 3) (pe_meth (pv 0) T.cl_Floor T.mt_there g_Floor_there (hr.mono (by decide)) b_Floor_there .nil (passes_call (takes_of rfl rfl rfl rfl) (fun _ _ _ _ z => z)) (pa_cons (pv 1) (pa_cons (pv 2) pa_nil)))) pa_nil))))))
    (pss_cons (ps_set (i := 4) sc_Floor_counted.nd rfl (Or.inl rfl) (pe_meth (pv 0) T.cl_Floor T.mt_lost g_Floor_lost (hr.mono (by decide)) b_Floor_lost .nil (passes_call (takes_of rfl rfl rfl rfl) (fun _ _ _ _ z => z)) (pa_cons (pv 1) (pa_cons (pv 2) (pa_cons (pe_op op_sub (pe_meth (pv 0) T.cl_Floor T.mt_held g_Floor_held (hr.mono (by decide)) b_Floor_held .nil (passes_call (takes_of rfl rfl rfl rfl) (fun _ _ _ _ z => z)) (pa_cons (pv 1) (pa_cons (pv 2) pa_nil))) (pv 3)) pa_nil)))))
    (pss_cons (ps_asg (pv 3) (pg_sub (pe_fld' (K := K) rfl (pv 0) rfl) (pe_tup (pa_cons (pv 1) (pa_cons (pv 2) pa_nil))) (set_dict (hu_of hr))))
    (pss_cons (ps_expr (pe_bm PySem.F.plainAttrs_list PySem.F.slot_list_append PySem.F.type_list_append mt_append (pe_fld' (K := K) rfl (pv 0) rfl) (pa_cons (pe_tup (pa_cons pe_str (pa_cons (pv 1) (pa_cons (pv 2) (pa_cons (pv 3) pa_nil))))) pa_nil)))
    (pss_one (ps_ret (pv 4)))))))))), ?_⟩, FunD.bindsN F (fun _ _ _ _ _ _ us hl => match us, hl with | [_, _, _, _], _ => rfl), F.kp⟩
  intro Γ as m o D hK hF hO hn hG hnx hD
  try dsimp only [cxOf]
  obtain ⟨a, d1, d2, d3, l, M, dp, dw, dn, rfl, rfl, hs, hw, hz, hnd, ⟨h1, rfl⟩ | ⟨h1, h2, rfl⟩ | ⟨h1, h2, h3, rfl⟩ | ⟨p, w, n, rfl, rfl, rfl, hwo, h2, h3, rfl⟩⟩ := hG
  · exact st_ware_no hK (e_var rfl) h1 hs hD (List.Sublist.refl _)
  · refine st_ware_ok hK (e_var rfl) h1 hs ?_
    exact st_place_no hK (e_var rfl) h2 hD (List.Sublist.refl _)
  · refine st_ware_ok hK (e_var rfl) h1 hs ?_
    refine st_place_ok hK (e_var rfl) h2 ?_
    exact st_many_no hK (e_var rfl) e_int h3 hD (List.Sublist.refl _)
  · refine st_ware_ok hK (e_var rfl) (isWareB_ok.mpr ⟨w, rfl, hwo⟩) hs ?_
    refine st_place_ok hK (e_var rfl) h2 ?_
    refine st_many_ok hK (e_var rfl) e_int h3 ?_
    have so : PyData.strOk w = true := strOk_let hwo.2.2
    refine x_seq (x_drop (e_methM0 (m' := flo (fC K) a d1 d2 d3 l (M.tell w 0 0 (n - M.there p w))) hK (e_var rfl) (List.mem_of_getElem? (i := 0) rfl) rfl (a_cons (e_var rfl) (a_cons e_int (a_cons e_int (a_cons (e_opI (e_var rfl) (e_meth hK (e_var rfl) (List.mem_of_getElem? (i := 0) rfl) rfl (a_cons (e_var rfl) (a_cons (e_var rfl) a_nil)) ⟨a, d1, d2, d3, l, M, p, w, rfl, rfl, rfl⟩ (List.Sublist.refl _))) a_nil)))) ⟨a, d1, d2, d3, l, M, w, 0, 0, n - M.there p w, rfl, rfl, rfl, hz.mono (by decide)⟩ rfl (may_all hF rfl)) (x_nx ?_))
    have hz1 : (M.tell w 0 0 (n - M.there p w)).sz 99991 := hz.tell
    refine x_letN1 (n_methM (m := flo (fC K) a d1 d2 d3 l (M.tell w 0 0 (n - M.there p w))) (m' := flo (fC K) a d1 d2 d3 l ((M.tell w 0 0 (n - M.there p w)).lost p w (M.held p w - n)).1) (rest := []) hK (e_var rfl) (List.mem_of_getElem? (i := 0) rfl) rfl (a_cons (e_var rfl) (a_cons (e_var rfl) (a_cons (e_opI (e_meth hK (e_var rfl) (List.mem_of_getElem? (i := 0) rfl) rfl (a_cons (e_var rfl) (a_cons (e_var rfl) a_nil)) ⟨a, d1, d2, d3, l, M.tell w 0 0 (n - M.there p w), p, w, rfl, rfl, rfl, hw, so, hz1.mono (by decide)⟩ (List.Sublist.refl _)) (e_var rfl)) a_nil))) ⟨a, d1, d2, d3, l, M.tell w 0 0 (n - M.there p w), p, w, _, rfl, rfl, so, hw, hz1.mono (by decide), hnd, rfl⟩ rfl (may_all hF rfl) ha1) fun q hq _ => ?_
    rw [List.append_nil]
    have hz2 : (((M.tell w 0 0 (n - M.there p w)).lost p w (M.held p w - n)).1).sz 99991 := FM.lost_sz hz1
    refine x_seq (x_dputT (ks := [.inl p, .inr w]) (p := d1) (kts := amD ((M.tell w 0 0 (n - M.there p w)).lost p w (M.held p w - n)).1.am) 2 (e_var rfl) (f_amounts T (List.mem_of_getElem? (i := 1) rfl) (e_var rfl)) (a_consD (e_var rfl) (a_consD (e_var rfl) a_nilD)) rfl ?_ (may_of 1 hF rfl) (x_nx ?_))
    · rw [List.length_map]
      exact Nat.lt_of_le_of_lt hz2.1 (by decide)
    rw [put_am]
    refine x_seq (x_app (p := l) (ds := ((M.tell w 0 0 (n - M.there p w)).lost p w (M.held p w - n)).1.de) 5 (f_deeds T (List.mem_of_getElem? (i := 1) rfl) (e_var rfl)) (e_tup (ds := [.str "counted", .int p, .str w, .int n]) (a_consD e_str (a_consD (e_var rfl) (a_consD (e_var rfl) (a_consD (e_var rfl) a_nilD))))) rfl (Nat.lt_of_le_of_lt hz2.2.2.2 (by decide)) (may_of 4 hF rfl) ⟨_, List.mem_of_getElem? (i := 5) rfl⟩ (x_nx ?_))
    exact x_retOwn (E := E) (e_var rfl) hq hD (List.Sublist.refl _)
theorem sc_Floor_wish : FnScope ["self", "ware", "many", "parts", "place", "part"] ["self", "ware", "many"] (defScope s_Floor_wish) := ⟨rfl, rfl, rfl, by decide +kernel, rfl, by decide +kernel, by decide +kernel⟩
def g_Floor_wish (K : PySem.W.Frag) (as : List Sv) (m : Mu) (o : Oc) : Prop := ∃ (a d1 d2 d3 l : Addr) (M : FM) (dw dn : PD), as = [.r (.ref a), .d dw, .d dn] ∧ m = flo (fC K) a d1 d2 d3 l M ∧ stOk dw ∧ M.wok ∧ M.sz 40000 ∧ ((isWareB dw = false ∧ o = .exc (He.ga K "BadWare") (flo (fC K) a d1 d2 d3 l M)) ∨ (isWareB dw = true ∧ isWh dn 1 (10 ^ 30) = false ∧ o = .exc (He.ga K "BadMany") (flo (fC K) a d1 d2 d3 l M)) ∨ ∃ w n, dw = .str w ∧ dn = .int n ∧ WareOk w ∧ isWh dn 1 (10 ^ 30) = true ∧ ((free2 (M.rooms w) < n ∧ o = .exc (He.ga K "TooFew") (flo (fC K) a d1 d2 d3 l M)) ∨ (¬free2 (M.rooms w) < n ∧ o = .ret (dL (((List.range (M.parts w n).length).map fun i : Nat => M.last + 1 + (i : Int)).map .int)) (flo (fC K) a d1 d2 d3 l (M.wish w n)))))
theorem ok_Floor_wish {P : Program} {w : World} {K : PySem.W.Frag} {mg : Str → Option Value} {base : Heap} (T : Tx K mg w) (c : He.SaysD fa fn K) : FnB P w K mg base 3 (He.fAd K ("Floor", some "wish")) ["self", "ware", "many"] (spG K 3 false (g_Floor_wish K)) := by
  obtain ⟨fd_need_ware, g_need_ware, b_need_ware, k_need_ware⟩ := ok_need_ware (P := P) (w := w) (base := base) T c
  obtain ⟨fd_need_many, g_need_many, b_need_many, k_need_many⟩ := ok_need_many (P := P) (w := w) (base := base) T c
  obtain ⟨fd_dealt, g_dealt, b_dealt, k_dealt⟩ := ok_dealt (P := P) (w := w) (base := base) T c
  obtain ⟨fd_Floor_begun, g_Floor_begun, b_Floor_begun, k_Floor_begun⟩ := ok_Floor_begun (P := P) (w := w) (base := base) T c
  obtain ⟨fd_Floor_free, g_Floor_free, b_Floor_free, k_Floor_free⟩ := ok_Floor_free (P := P) (w := w) (base := base) T c
  obtain ⟨fd_Floor_places, g_Floor_places, b_Floor_places, k_Floor_places⟩ := ok_Floor_places (P := P) (w := w) (base := base) T c
  obtain ⟨fd, F⟩ := c.def_ 35 (d := d_Floor_wish) rfl
  refine ⟨fd, fn_ok F sc_Floor_wish rfl fun cdv A outer s H E hr => ⟨_, (pss_cons (ps_expr (pe_call g_need_ware (hr.mono (by decide)) (by rfl) T.m_need_ware k_need_ware b_need_ware .nil (passes_call (takes_of rfl rfl rfl rfl) (fun _ _ _ _ z => z)) (pa_cons (pv 1) pa_nil)))
    (pss_cons (ps_expr (pe_call g_need_many (hr.mono (by decide)) (by rfl) T.m_need_many k_need_many b_need_many .nil (passes_call (takes_of rfl rfl rfl rfl) (fun _ _ _ _ z => z)) (pa_cons (pv 2) (pa_cons pe_int pa_nil))))
    (pss_cons (ps_set (i := 3) sc_Floor_wish.nd rfl (Or.inl rfl) (pe_call g_dealt (hr.mono (by decide)) (by rfl) T.m_dealt k_dealt b_dealt .nil (passes_call (takes_of rfl rfl rfl rfl) (fun _ _ _ _ z => z)) (pa_cons (pe_lc (own := [("place", 4)]) rfl sc_Floor_wish.nd (pi_list' (K := K) rfl (pe_meth (pv 0) T.cl_Floor T.mt_places g_Floor_places (hr.mono (by decide)) b_Floor_places .nil (passes_call (takes_of rfl rfl rfl rfl) (fun _ _ _ _ z => z)) (pa_cons (pv 1) pa_nil))) (blkOk_by (own := [("place", 4)]) (N := ["self", "ware", "many", "parts", "place", "part"]) (sc := defScope s_Floor_wish) (by decide +kernel)) (fun _ _ _ _ _ => (pg_name (i := 4) sc_Floor_wish.nd rfl (Or.inl rfl))) (fun _ _ _ _ _ => pts_nil) (fun _ _ _ _ _ => (pe_tup (pa_cons (pv 4) (pa_cons (pe_meth (pv 0) T.cl_Floor T.mt_free g_Floor_free (hr.mono (by decide)) b_Floor_free .nil passL (pa_cons (pv 4) (pa_cons (pv 1) pa_nil))) pa_nil))))) (pa_cons (pv 2) pa_nil))))
    (pss_cons (ps_expr (pe_bm PySem.F.plainAttrs_list PySem.F.slot_list_append PySem.F.type_list_append mt_append (pe_fld' (K := K) rfl (pv 0) rfl) (pa_cons (pe_tup (pa_cons pe_str (pa_cons (pv 1) (pa_cons (pv 2) pa_nil)))) pa_nil)))
    (pss_one (ps_ret (pe_lc (own := [("place", 4), ("part", 5)]) rfl sc_Floor_wish.nd (pi_list' (K := K) rfl (pv 3)) (blkOk_by (own := [("place", 4), ("part", 5)]) (N := ["self", "ware", "many", "parts", "place", "part"]) (sc := defScope s_Floor_wish) (by decide +kernel)) (fun _ _ _ _ _ => (pg_tup' (K := K) (n := 2) rfl rfl (pgs_cons (pg_name (i := 4) sc_Floor_wish.nd rfl (Or.inl rfl)) (pgs_cons (pg_name (i := 5) sc_Floor_wish.nd rfl (Or.inl rfl)) pgs_nil)))) (fun _ _ _ _ _ => pts_nil) (fun _ _ _ _ _ => (pe_meth (pv 0) T.cl_Floor T.mt_begun g_Floor_begun (hr.mono (by decide)) b_Floor_begun .nil passL (pa_cons (pv 4) (pa_cons (pv 1) (pa_cons (pv 5) pa_nil)))))))))))), ?_⟩, FunD.bindsN F (fun _ _ _ _ _ _ us hl => match us, hl with | [_, _, _], _ => rfl), F.kp⟩
  intro Γ as m o D hK hF hO hn hG hnx hD
  try dsimp only [cxOf]
  obtain ⟨a, d1, d2, d3, l, M, dw, dn, rfl, rfl, hs, hw, hz, ⟨h1, rfl⟩ | ⟨h1, h2, rfl⟩ | ⟨w, n, rfl, rfl, hwo, h2, hh⟩⟩ := hG
  · exact st_ware_no hK (e_var rfl) h1 hs hD (List.Sublist.refl _)
  · refine st_ware_ok hK (e_var rfl) h1 hs ?_
    exact st_many_no hK (e_var rfl) e_int h2 hD (List.Sublist.refl _)
  · refine st_ware_ok hK (e_var rfl) (isWareB_ok.mpr ⟨w, rfl, hwo⟩) hs ?_
    refine st_many_ok hK (e_var rfl) e_int h2 ?_
    have so : PyData.strOk w = true := strOk_let hwo.2.2
    have hpl : (M.places w).length ≤ 40000 := Nat.le_trans FM.places_len hz.1
    have hrl : (M.rooms w).length ≤ 40000 := by unfold FM.rooms; rw [List.length_map]; exact hpl
    have hptl : (M.parts w n).length ≤ 40000 := Nat.le_trans FM.parts_len hz.1
    have hrooms : Ev Γ (tLc (iList K (tMeth (fC K) "places" (spG K 2 true (Sf.g_Floor_places K)) [] E (tVar 0) (tCons (tVar 1) tNil))) (gName 4) tYes (tTup (tCons (tVar 4) (tCons (tMeth (fC K) "free" (spG K 3 true (Sf.g_Floor_free K)) [] E0 (tVar 0) (tCons (tVar 4) (tCons (tVar 1) tNil))) tNil))) [4]) [some (.r (.ref a)), some (dS w), some (dI n), none, none, none] (flo (fC K) a d1 d2 d3 l M) (dL (pairsD (M.rooms w))) (flo (fC K) a d1 d2 d3 l M) := by
      refine Ev.to (e_lc (L := M.places w) (F := fun p => dI p) (p := fun _ => true) (y := fun p => .tuple [.int p, .int (M.free p w)]) ((w_list (ds := (M.places w).map .int) hK (EvN.fz (n_meth hK (e_var rfl) (List.mem_of_getElem? (i := 0) rfl) rfl (a_cons (e_var rfl) a_nil) ⟨a, d1, d2, d3, l, M, w, rfl, rfl, rfl, hz.mono (by decide)⟩ (List.Sublist.refl _) ha1))).to (by unfold datas; rw [List.map_map]; rfl)) (fun p hp gh o => ⟨_, gw_name, t_yes, fun _ => e_tup (ds := [.int p, .int (M.free p w)]) (a_consD (e_var rfl) (a_consD (e_meth hK (e_var rfl) (List.mem_of_getElem? (i := 1) rfl) rfl (a_cons (e_var rfl) (a_cons (e_var rfl) a_nil)) ⟨a, d1, d2, d3, l, M, p, w, rfl, rfl, rfl, hw, so, hz.mono (by decide)⟩ (List.sublist_cons_self _ _)) a_nilD))⟩) (by omega)) ?_
      rw [List.filter_eq_self.mpr (fun _ _ => rfl)]
      unfold FM.rooms pairsD
      rw [List.map_map]
      rfl
    rcases hh with ⟨h3, rfl⟩ | ⟨h3, rfl⟩
    · exact x_seq (x_asgX (ex_call (ro := true) (m := []) (m' := []) (rest := flo (fC K) a d1 d2 d3 l M) hK (a_cons hrooms (a_cons (e_var rfl) a_nil)) ⟨M.rooms w, n, rfl, rfl, by omega, (if_pos h3).symm⟩ rfl (fun b hb => nomatch hb) hD (List.Sublist.refl _)))
    refine x_let (s := dL (pairsD (M.parts w n))) (EvN.fz (n_call hK (a_cons hrooms (a_cons (e_var rfl) a_nil)) ⟨M.rooms w, n, rfl, rfl, by omega, (if_neg h3).symm⟩ (List.nil_sublist _) ha1)) ?_
    refine x_seq (x_app (p := l) (ds := M.de) 4 (f_deeds T (List.mem_of_getElem? (i := 0) rfl) (e_var rfl)) (e_tup (ds := [.str "wish", .str w, .int n]) (a_consD e_str (a_consD (e_var rfl) (a_consD (e_var rfl) a_nilD)))) rfl (Nat.lt_of_le_of_lt hz.2.2.2 (by decide)) (may_of 4 hF rfl) ⟨M.de, List.mem_of_getElem? (i := 4) rfl⟩ (x_nx ?_))
    have hlast : ∀ i, i ≤ (M.parts w n).length → (FM.beg w ((M.parts w n).take i) (M.note (.tuple [.str "wish", .str w, .int n]))).last = M.last + i := fun i hi => by
      rw [FM.beg_last, List.length_take, Nat.min_eq_left hi]
      rfl
    refine x_ret (E := E) (Ev.to (e_lcM (L := M.parts w n) (F := fun e => dU [.int e.1, .int e.2]) (y := fun i => .int (M.last + 1 + (i : Int))) (mu := fun i => flo (fC K) a d1 d2 d3 l (FM.beg w ((M.parts w n).take i) (M.note (.tuple [.str "wish", .str w, .int n])))) ((w_list (ds := pairsD (M.parts w n)) hK (e_var rfl)).to prs_map) (fun i e he gh o => ⟨_, gw_tup hK rfl (gws_cons gw_name (gws_cons gw_name gws_nil)), ?_⟩) (by omega)) ?_) hD ?_
    · have hi := (List.getElem?_eq_some_iff.mp he).1
      have hzi : (FM.beg w ((M.parts w n).take i) (M.note (.tuple [.str "wish", .str w, .int n]))).sz 99999 := (FM.beg_sz _ _ _ hz.note).mono (by rw [List.length_take]; omega)
      refine Ev.perms (Ev.to (e_methM (m := flo (fC K) a d1 d2 d3 l (FM.beg w ((M.parts w n).take i) (M.note (.tuple [.str "wish", .str w, .int n])))) (m' := flo (fC K) a d1 d2 d3 l (FM.beg w ((M.parts w n).take (i + 1)) (M.note (.tuple [.str "wish", .str w, .int n])))) (rest := [o]) hK (e_var rfl) (List.mem_of_getElem? (i := 0) rfl) rfl (a_cons (e_var rfl) (a_cons (e_var rfl) (a_cons (e_var rfl) a_nil))) ⟨a, d1, d2, d3, l, FM.beg w ((M.parts w n).take i) (M.note (.tuple [.str "wish", .str w, .int n])), e.1, w, e.2, rfl, rfl, by rw [FM.beg_snoc he], hzi⟩ rfl (may_all hF rfl)) ?_) List.perm_append_comm (List.perm_append_comm (l₁ := [o]))
      rw [hlast i (by omega)]
      refine congrArg dI ?_
      omega
    · rw [List.map_map]
      rfl
    · rw [List.take_length]
      exact List.Sublist.refl _
theorem sc__law_whole : FnScope ["_law_found"] ["_law_found"] (defScope s__law_whole) := ⟨rfl, rfl, rfl, by decide +kernel, rfl, by decide +kernel, by decide +kernel⟩
def g__law_whole (K : PySem.W.Frag) (as : List Sv) (m : Mu) (o : Oc) : Prop := ∃ d, as = [.d d] ∧ m = [] ∧ o = .ret (dB (isI d)) []
theorem ok__law_whole {P : Program} {w : World} {K : PySem.W.Frag} {mg : Str → Option Value} {base : Heap} (T : Tx K mg w) (c : He.SaysD fa fn K) : FnB P w K mg base 1 (He.fAd K ("_law_whole", none)) ["_law_found"] (spG K 1 true (g__law_whole K)) := by
  obtain ⟨fd, F⟩ := c.def_ 40 (d := d__law_whole) rfl
  refine ⟨fd, fn_ok F sc__law_whole rfl fun cdv A outer s H E hr => ⟨_, (pss_one (ps_ret (pe_and (pe_callB (call_isi' (K := K) rfl) (by rfl) T.z_isinstance (by decide +kernel) (pa_cons (pv 0) (pa_cons (pe_bltn (v := .ty "int") rfl T.z_int (by decide +kernel) rfl) pa_nil))) (pe_one (pe_not (pe_callB (call_isi' (K := K) rfl) (by rfl) T.z_isinstance (by decide +kernel) (pa_cons (pv 0) (pa_cons (pe_bltn (v := .ty "bool") rfl T.z_bool (by decide +kernel) rfl) pa_nil)))))))), ?_⟩, FunD.bindsN F (fun _ _ _ _ _ _ us hl => match us, hl with | [_], _ => rfl), F.kp⟩
  intro Γ as m o D hK hF hO hn hG hnx hD
  try dsimp only [cxOf]
  obtain ⟨d, rfl, rfl, rfl⟩ := hG
  refine x_retP (E := E) ?_ hD
  walk_at "evto"
  cases d <;> simp [isI, isA]
theorem sc__law_cell_at : FnScope ["_law_script", "_law_k"] ["_law_script", "_law_k"] (defScope s__law_cell_at) := ⟨rfl, rfl, rfl, by decide +kernel, rfl, by decide +kernel, by decide +kernel⟩
def g__law_cell_at (K : PySem.W.Frag) (as : List Sv) (m : Mu) (o : Oc) : Prop := ∃ (ns : List Int) (k : Nat), as = [dL (ns.map .int), dI k] ∧ m = [] ∧ o = .ret (dI (ns.getD k 0)) []
theorem ok__law_cell_at {P : Program} {w : World} {K : PySem.W.Frag} {mg : Str → Option Value} {base : Heap} (T : Tx K mg w) (c : He.SaysD fa fn K) : FnB P w K mg base 1 (He.fAd K ("_law_cell_at", none)) ["_law_script", "_law_k"] (spG K 2 true (g__law_cell_at K)) := by
  obtain ⟨fd, F⟩ := c.def_ 41 (d := d__law_cell_at) rfl
  refine ⟨fd, fn_ok F sc__law_cell_at rfl fun cdv A outer s H E hr => ⟨_, (pss_cons (ps_if (pt_cmpR op_lt (pv 1) (pe_callB (call_len_seq' (K := K) rfl) (by rfl) T.z_len (by decide +kernel) (pa_cons (pv 0) pa_nil)) (nomark _)) (pss_one (ps_ret (pe_ix (ix_list' (K := K) rfl) (pv 0) (pv 1) (fun _ _ => rfl)))) pss_nil)
    (pss_one (ps_ret pe_int))), ?_⟩, FunD.bindsN F (fun _ _ _ _ _ _ us hl => match us, hl with | [_, _], _ => rfl), F.kp⟩
  intro Γ as m o D hK hF hO hn hG hnx hD
  try dsimp only [cxOf]
  obtain ⟨ns, k, rfl, rfl, rfl⟩ := hG
  refine x_seq (x_if (by walk_at "et") (fun h => ?_) fun h => x_next (x_nx ?_))
  · have h := of_decide_eq_true h
    have hk : k < ns.length := by simpa using h
    refine x_retP (E := E) (Ev.to (e_ixL (d := .int (ns.getD k 0)) hK (e_var rfl) (e_var rfl) (atI_nat ?_)) rfl) hD
    simp [hk]
  · have h := of_decide_eq_false h
    have hk : ¬ k < ns.length := by simpa using h
    refine x_retP (E := E) (Ev.to e_int ?_) hD
    rw [List.getD_eq_getElem?_getD, List.getElem?_eq_none (by omega)]
    rfl
theorem sc__law_ware_by : FnScope ["_law_cell", "_law_found", "_law_k"] ["_law_cell"] (defScope s__law_ware_by) := ⟨rfl, rfl, rfl, by decide +kernel, rfl, by decide +kernel, by decide +kernel⟩
def g__law_ware_by (K : PySem.W.Frag) (as : List Sv) (m : Mu) (o : Oc) : Prop := ∃ c, as = [dI c] ∧ m = [] ∧ o = .ret (dS (tx (wareL c))) []
theorem ok__law_ware_by {P : Program} {w : World} {K : PySem.W.Frag} {mg : Str → Option Value} {base : Heap} (T : Tx K mg w) (c : He.SaysD fa fn K) : FnB P w K mg base 1 (He.fAd K ("_law_ware_by", none)) ["_law_cell"] (spG K 1 true (g__law_ware_by K)) := by
  obtain ⟨fd, F⟩ := c.def_ 42 (d := d__law_ware_by) rfl
  refine ⟨fd, fn_ok F sc__law_ware_by rfl fun cdv A outer s H E hr => ⟨_, (pss_cons (ps_set (i := 1) sc__law_ware_by.nd rfl (Or.inl rfl) pe_str)
    (pss_cons (ps_for (passes_of rfl) rfl (pi_range1 (by rfl) T.z_range (pa_cons (pe_op op_add pe_int (pe_op op_mod (pv 0) pe_int)) pa_nil)) (pg_name (i := 2) sc__law_ware_by.nd rfl (Or.inl rfl))
      (pss_one (ps_set (i := 1) sc__law_ware_by.nd rfl (Or.inl rfl) (pe_op op_add_str (pv 1) (pe_ix ix_str pe_str (pe_op op_mod (pe_op op_add (pe_op op_add (pe_op op_fdiv (pv 0) pe_int) (pe_op op_mul pe_int (pv 2))) (pe_op op_mul (pv 2) (pv 2))) pe_int) (fun _ _ => rfl))))))
    (pss_one (ps_ret (pv 1))))), ?_⟩, FunD.bindsN F (fun _ _ _ _ _ _ us hl => match us, hl with | [_], _ => rfl), F.kp⟩
  intro Γ as m o D hK hF hO hn hG hnx hD
  try dsimp only [cxOf]
  obtain ⟨c, rfl, rfl, rfl⟩ := hG
  refine x_let e_str ?_
  have hn : 0 ≤ 1 + c % 19 := by omega
  refine x_seq (x_for (w_range1 (j := 1 + c % 19) (by walk_at "evc") (by omega) (by omega)) (fun i δ μ => ∃ q, δ = [some (dI c), some (dS (tx ((List.range i).map (wareC c)))), q] ∧ μ = []) ⟨_, rfl, rfl⟩ ?_ ?_)
  · rintro i s δ μ gh D' hs ⟨q, rfl, rfl⟩ hnx' hct' _ _
    have hi : i < (1 + c % 19).toNat := by
      have := (List.getElem?_eq_some_iff.mp hs).1
      rwa [rangeS_len] at this
    rw [rangeS_get hi, Int.zero_add] at hs
    cases hs
    refine ⟨_, gt_name, x_asg (s := dS (tx ((List.range (i + 1)).map (wareC c)))) (Ev.to (e_addS (y := tx [wareC c i]) (e_var rfl) (e_ixS (x := letters) (i := (c / 19 + 7 * (i : Int) + (i : Int) * (i : Int)) % 26) (k := wareC c i) e_str (by walk_at "evc") (by decide) ?_) ?_) ?_) (nx_loop hnx' ⟨_, rfl, rfl⟩)⟩
    · have := letters_at (j := ((c / 19 + 7 * (i : Int) + (i : Int) * (i : Int)) % 26).toNat) (by omega)
      rw [show (((c / 19 + 7 * (i : Int) + (i : Int) * (i : Int)) % 26).toNat : Int) = (c / 19 + 7 * (i : Int) + (i : Int) * (i : Int)) % 26 by omega] at this
      exact this
    · rw [tx_len, tx_len, List.length_map, List.length_range, List.length_singleton]
      omega
    · rw [tx_add, List.range_succ, List.map_append]
      rfl
  · rintro δ μ ⟨q, rfl, rfl⟩
    rw [rangeS_len]
    exact x_nx (x_retP (E := E) (e_var rfl) hD)
theorem sc__law_wares : FnScope ["_law_cell", "_law_base", "_law_letters", "_law_at", "_law_other", "_law_third", "_law_turned", "_law_k"] ["_law_cell"] (defScope s__law_wares) := ⟨rfl, rfl, rfl, by decide +kernel, rfl, by decide +kernel, by decide +kernel⟩
def g__law_wares (K : PySem.W.Frag) (as : List Sv) (m : Mu) (o : Oc) : Prop := ∃ c, as = [dI c] ∧ m = [] ∧ o = .ret (dL [.str (wr c 0), .str (wr c 1), .str (wr c 2)]) []
theorem ok__law_wares {P : Program} {w : World} {K : PySem.W.Frag} {mg : Str → Option Value} {base : Heap} (T : Tx K mg w) (c : He.SaysD fa fn K) : FnB P w K mg base 2 (He.fAd K ("_law_wares", none)) ["_law_cell"] (spG K 1 true (g__law_wares K)) := by
  obtain ⟨fd__law_ware_by, g__law_ware_by, b__law_ware_by, k__law_ware_by⟩ := ok__law_ware_by (P := P) (w := w) (base := base) T c
  obtain ⟨fd, F⟩ := c.def_ 43 (d := d__law_wares) rfl
  refine ⟨fd, fn_ok F sc__law_wares rfl fun cdv A outer s H E hr => ⟨_, (pss_cons (ps_set (i := 1) sc__law_wares.nd rfl (Or.inr rfl) (pe_call g__law_ware_by (hr.mono (by decide)) (by rfl) T.m__law_ware_by k__law_ware_by b__law_ware_by .nil (passes_call (takes_of rfl rfl rfl rfl) (fun _ _ _ _ z => z)) (pa_cons (pe_op op_mod (pv 0) pe_int) pa_nil)))
    (pss_cons (ps_set (i := 2) sc__law_wares.nd rfl (Or.inl rfl) pe_str)
    (pss_cons (ps_set (i := 3) sc__law_wares.nd rfl (Or.inl rfl) (pe_op op_mod (pe_op op_fdiv (pv 0) pe_int) (pe_callB call_len_str (by rfl) T.z_len (by decide +kernel) (pa_cons (pv 1) pa_nil))))
    (pss_cons (ps_set (i := 4) sc__law_wares.nd rfl (Or.inl rfl) (pe_ix ix_str (pv 2) (pe_op op_add (pe_bm PySem.F.plainAttrs_str PySem.F.slot_str_index PySem.F.type_str_index mt_sindex (pv 2) (pa_cons (pe_ix ix_str (pv 1) (pv 3) (fun _ _ => rfl)) pa_nil)) pe_int) (fun _ _ => rfl)))
    (pss_cons (ps_set (i := 5) sc__law_wares.nd rfl (Or.inl rfl) (pe_op op_add_str (pe_op op_add_str (pe_slice sl_str (pv 1) po_none (po_some (pv 3))) (pv 4)) (pe_slice sl_str (pv 1) (po_some (pe_op op_add (pv 3) pe_int)) po_none)))
    (pss_cons (ps_set (i := 6) sc__law_wares.nd rfl (Or.inl rfl) (pe_join pe_str (pe_lc (own := [("_law_k", 7)]) rfl sc__law_wares.nd (pi_range1 (by rfl) T.z_range (pa_cons (pe_callB call_len_str (by rfl) T.z_len (by decide +kernel) (pa_cons (pv 1) pa_nil)) pa_nil)) (blkOk_by (own := [("_law_k", 7)]) (N := ["_law_cell", "_law_base", "_law_letters", "_law_at", "_law_other", "_law_third", "_law_turned", "_law_k"]) (sc := defScope s__law_wares) (by decide +kernel)) (fun _ _ _ _ _ => (pg_name (i := 7) sc__law_wares.nd rfl (Or.inl rfl))) (fun _ _ _ _ _ => pts_nil) (fun _ _ _ _ _ => (pe_ix ix_str (pv 1) (pe_op op_sub (pe_op op_sub (pe_callB call_len_str (by rfl) T.z_len (by decide +kernel) (pa_cons (pv 1) pa_nil)) pe_int) (pv 7)) (fun _ _ => rfl))))))
    (pss_cons (ps_if (PW.pt (pw_and (pt_cmpR op_eq (pe_op op_mod (pe_op op_mod (pe_op op_mul (pv 0) pe_int) pe_int) pe_int) pe_int (nomark _)) (pw_and1 (pt_cmpR op_ne (pv 6) (pv 1) (nomark _))))) (pss_one (ps_set (i := 5) sc__law_wares.nd rfl (Or.inl rfl) (pv 6))) pss_nil)
    (pss_one (ps_ret (pe_lst (pa_cons (pv 1) (pa_cons (pe_op op_add_str (pv 1) pe_str) (pa_cons (pv 5) pa_nil))))))))))))), ?_⟩, FunD.bindsN F (fun _ _ _ _ _ _ us hl => match us, hl with | [_], _ => rfl), F.kp⟩
  intro Γ as m o D hK hF hO hn hG hnx hD
  try dsimp only [cxOf]
  obtain ⟨c, rfl, rfl, rfl⟩ := hG
  have hb := wareL_len1 (c % 494000)
  have hb : 1 ≤ (wBase c).length ∧ (wBase c).length ≤ 19 := hb
  have hat := wAt_lt c
  have hbl := wBase_let c
  have hlen : (tx (wBase c)).length = (wBase c).length := tx_len _
  have hlz : (tx (wBase c)).length ≤ 100000 := by rw [hlen]; omega
  refine x_let (s := dS (tx (wBase c))) (e_call hK (a_cons (e_opIC (e_var rfl) e_int (by decide)) a_nil) ⟨_, rfl, rfl, rfl⟩ (List.nil_sublist _)) ?_
  refine x_let (s := dS letters1) e_str ?_
  refine x_let (s := dI (wAt c : Nat)) (Ev.to (e_opIC (e_opIC (e_var rfl) e_int ⟨by decide, by decide⟩) (e_lenS (e_var rfl) hlz) (by show (0 : Int) < _; rw [hlen]; omega)) (by rw [hlen, wAt_int])) ?_
  have hz := hbl _ (List.mem_of_getElem? (wBase_at c))
  refine x_let (s := dS (tx [nextC ((wBase c).getD (wAt c) 0)])) (e_ixS (x := letters1) (i := ((((wBase c).getD (wAt c) 0 - 97 : Nat) : Int) + 1)) (e_var rfl) (e_opI (e_sindex (x := letters1) (y := tx [(wBase c).getD (wAt c) 0]) (e_var rfl) (e_ixS (x := tx (wBase c)) (i := ((wAt c : Nat) : Int)) (e_var rfl) (e_var rfl) hlz (by rw [tx_cps]; exact atI_nat (wBase_at c))) (letters1_ix hz.1 hz.2)) e_int) (by decide) (letters1_at hz.1 hz.2)) ?_
  have e3 : cutS (tx (wBase c)) none (some ((wAt c : Nat) : Int)) ++ tx [nextC ((wBase c).getD (wAt c) 0)] ++ cutS (tx (wBase c)) (some (((wAt c : Nat) : Int) + 1)) none = tx (wThird0 c) := by
    have c1 : cutS (tx (wBase c)) none (some ((wAt c : Nat) : Int)) = tx ((wBase c).take (wAt c)) := by
      unfold cutS
      rw [tx_cps, hlen, HT.sIx_none, HT.sIx_nat, List.drop_zero, Nat.sub_zero, Nat.min_eq_left (by omega)]
    have c2 : cutS (tx (wBase c)) (some (((wAt c : Nat) : Int) + 1)) none = tx ((wBase c).drop (wAt c + 1)) := by
      unfold cutS
      rw [show ((wAt c : Nat) : Int) + 1 = ((wAt c + 1 : Nat) : Int) by omega, tx_cps, hlen, HT.sIx_none, HT.sIx_nat, Nat.min_eq_left (by omega), List.take_of_length_le (by rw [List.length_drop]; omega)]
    rw [c1, c2, tx_add, tx_add]
    rfl
  have l1 : (cutS (tx (wBase c)) none (some ((wAt c : Nat) : Int))).length ≤ 19 := Nat.le_trans (cutS_length _ _ _) (by rw [hlen]; omega)
  have l2 : (cutS (tx (wBase c)) (some (((wAt c : Nat) : Int) + 1)) none).length ≤ 19 := Nat.le_trans (cutS_length _ _ _) (by rw [hlen]; omega)
  refine x_let (s := dS (tx (wThird0 c))) (Ev.to (e_addS (e_addS (e_slS (e_var rfl) o_none (o_some (e_var rfl)) hlz) (e_var rfl) ?_) (e_slS (e_var rfl) (o_some (e_opI (e_var rfl) e_int)) o_none hlz) ?_) (by rw [e3])) ?_
  · simp only [tx_len, List.length_singleton]
    omega
  · have : ∀ a b : Str, (a ++ b).length = a.length + b.length := fun a b => by
      show (a.cps ++ b.cps).size = a.cps.size + b.cps.size
      simp
    simp only [this, tx_len, List.length_singleton]
    omega
  have hr' : (1 : Int) = 1 := rfl
  refine x_let (s := dS (tx (wBase c).reverse)) (Ev.to (e_join (μ1 := []) (μ2 := []) (x := tx []) (ys := ((wBase c).reverse).map fun z => tx [z]) hK e_str ?_ ?_) (by rw [join_nil_signs])) ?_
  · refine Ev.to (e_lc (L := List.range (wBase c).length) (F := fun (k : Nat) => dI (0 + (k : Int))) (p := fun _ => true) (y := fun k => .str (tx [(wBase c).getD ((wBase c).length - 1 - k) 0])) (by
        have := w_range1 (Γ := Γ) (δ := [some (dI c), some (dS (tx (wBase c))), some (dS letters1), some (dI (wAt c : Nat)), some (dS (tx [nextC ((wBase c).getD (wAt c) 0)])), some (dS (tx (wThird0 c))), none, none]) (μ := []) (e_lenS (x := tx (wBase c)) (e_var (k := 1) rfl) hlz) (by rw [hlen]; omega) (by rw [hlen]; omega)
        rw [hlen] at this
        exact this) ?_ (by rw [List.length_range]; omega)) ?_
    · intro k hk gh o
      have hk : k < (wBase c).length := List.mem_range.mp hk
      refine ⟨_, gw_name, t_yes, fun _ => e_ixS (x := tx (wBase c)) (i := (((wBase c).length - 1 - k : Nat) : Int)) (e_var rfl) (Ev.to (e_opI (e_opI (e_lenS (x := tx (wBase c)) (e_var rfl) hlz) e_int) (e_var rfl)) ?_) hlz ?_⟩
      · rw [hlen]
        refine congrArg dI ?_
        have key : ∀ n k : Nat, k < n → (n : Int) - 1 - (0 + (k : Int)) = ((n - 1 - k : Nat) : Int) := by intro n k h; omega
        exact key _ _ hk
      · rw [tx_cps]
        refine atI_nat ?_
        have h1 : (wBase c).length - 1 - k < (wBase c).length := by omega
        simp [h1]
    · refine congrArg dL ?_
      rw [List.filter_eq_self.mpr (fun _ _ => rfl), List.map_map]
      refine List.ext_getElem? fun j => ?_
      by_cases hj : j < (wBase c).length
      · rw [List.getElem?_map, List.getElem?_range hj, List.getElem?_map, List.getElem?_reverse hj]
        have h1 : (wBase c).length - 1 - j < (wBase c).length := by omega
        simp [h1]
      · rw [List.getElem?_eq_none (by simp; omega), List.getElem?_eq_none (by simp; omega)]
  · have hs : ∀ l : List Nat, ((l.map fun z => tx [z]).map (·.length)).sum = l.length := by
      intro l
      induction l with
      | nil => rfl
      | cons a r ih =>
        show 1 + ((r.map fun z => tx [z]).map (·.length)).sum = r.length + 1
        rw [ih]; omega
    rw [hs, List.length_reverse, List.length_map, List.length_reverse]
    show _ + _ * 0 ≤ _
    omega
  refine x_seq (x_if (b := wTurn c) (μ1 := []) ?_ (fun h => x_asg (e_var rfl) (x_nx ?_)) fun h => x_next (x_nx ?_))
  · walk_at "etto"
    any_goals walk_at "sd"
    unfold wTurn
    refine congrArg (fun z => _ && !z) ?_
    exact decide_eq_decide.mpr tx_inj
  · have et : wThird c = (wBase c).reverse := by unfold wThird; rw [if_pos h]
    refine x_retP (E := E) (e_lst (ds := [.str (wr c 0), .str (wr c 1), .str (wr c 2)]) (a_consD (e_var rfl) (a_consD (Ev.to (e_addS (x := tx (wBase c)) (y := tx [97]) (e_var rfl) e_str (by rw [hlen]; show _ + 1 ≤ _; omega)) (by rw [tx_add]; rfl)) (a_consD (Ev.to (e_var rfl) (by show dS (tx _) = dS (tx _); rw [et])) a_nilD)))) hD
  · have et : wThird c = wThird0 c := by unfold wThird; rw [if_neg (by rw [h]; simp)]
    refine x_retP (E := E) (e_lst (ds := [.str (wr c 0), .str (wr c 1), .str (wr c 2)]) (a_consD (e_var rfl) (a_consD (Ev.to (e_addS (x := tx (wBase c)) (y := tx [97]) (e_var rfl) e_str (by rw [hlen]; show _ + 1 ≤ _; omega)) (by rw [tx_add]; rfl)) (a_consD (Ev.to (e_var rfl) (by show dS (tx _) = dS (tx _); rw [et])) a_nilD)))) hD
theorem sc__law_places : FnScope ["_law_cell", "_law_least", "_law_step"] ["_law_cell"] (defScope s__law_places) := ⟨rfl, rfl, rfl, by decide +kernel, rfl, by decide +kernel, by decide +kernel⟩
def g__law_places (K : PySem.W.Frag) (as : List Sv) (m : Mu) (o : Oc) : Prop := ∃ c, as = [dI c] ∧ m = [] ∧ o = .ret (dL [.int (pl c 0), .int (pl c 1), .int (pl c 2), .int (pl c 3)]) []
theorem ok__law_places {P : Program} {w : World} {K : PySem.W.Frag} {mg : Str → Option Value} {base : Heap} (T : Tx K mg w) (c : He.SaysD fa fn K) : FnB P w K mg base 1 (He.fAd K ("_law_places", none)) ["_law_cell"] (spG K 1 true (g__law_places K)) := by
  obtain ⟨fd, F⟩ := c.def_ 44 (d := d__law_places) rfl
  refine ⟨fd, fn_ok F sc__law_places rfl fun cdv A outer s H E hr => ⟨_, (pss_cons (ps_set (i := 1) sc__law_places.nd rfl (Or.inl rfl) (pe_op op_mod (pe_op op_fdiv (pv 0) pe_int) pe_int))
    (pss_cons (ps_set (i := 2) sc__law_places.nd rfl (Or.inl rfl) (pe_ix (ix_list' (K := K) rfl) (pe_lst (pa_cons pe_int (pa_cons pe_int (pa_cons pe_int (pa_cons pe_int (pa_cons pe_int (pa_cons pe_int (pa_cons pe_int (pa_cons pe_int pa_nil))))))))) (pe_op op_mod (pe_op op_fdiv (pv 0) pe_int) pe_int) (fun _ _ => rfl)))
    (pss_one (ps_ret (pe_lst (pa_cons (pv 1) (pa_cons (pe_op op_add (pv 1) pe_int) (pa_cons (pe_op op_add (pv 1) (pv 2)) (pa_cons pe_int pa_nil))))))))), ?_⟩, FunD.bindsN F (fun _ _ _ _ _ _ us hl => match us, hl with | [_], _ => rfl), F.kp⟩
  intro Γ as m o D hK hF hO hn hG hnx hD
  try dsimp only [cxOf]
  obtain ⟨c, rfl, rfl, rfl⟩ := hG
  refine x_let (s := dI (pLeast c)) (e_opIC (e_opIC (e_var rfl) e_int ⟨by decide, by decide⟩) e_int (by decide)) ?_
  refine x_let (s := dI (pStep c)) (e_ixL (ds := [.int 10, .int 64, .int 100, .int 256, .int 1000, .int 1024, .int 4096, .int 5000]) (i := c / 3 % 8) hK (by walk_at "evc") (by walk_at "evc") ?_) ?_
  · have h : ∀ j, j < 8 → ([.int 10, .int 64, .int 100, .int 256, .int 1000, .int 1024, .int 4096, .int 5000] : List PD)[j]? = some (.int (steps8.getD j 0)) := by
      intro j hj
      have hh : j = 0 ∨ j = 1 ∨ j = 2 ∨ j = 3 ∨ j = 4 ∨ j = 5 ∨ j = 6 ∨ j = 7 := by omega
      rcases hh with rfl | rfl | rfl | rfl | rfl | rfl | rfl | rfl <;> rfl
    have h1 := atI_nat (h (c / 3 % 8).toNat (by omega))
    rw [show (((c / 3 % 8).toNat : Nat) : Int) = c / 3 % 8 by omega] at h1
    exact h1
  refine x_retP (E := E) ?_ hD
  walk_at "evto" <;> rfl
theorem sc__law_scale : FnScope ["_law_cell"] ["_law_cell"] (defScope s__law_scale) := ⟨rfl, rfl, rfl, by decide +kernel, rfl, by decide +kernel, by decide +kernel⟩
def g__law_scale (K : PySem.W.Frag) (as : List Sv) (m : Mu) (o : Oc) : Prop := ∃ c, as = [dI c] ∧ m = [] ∧ o = .ret (dI (scale10 c)) []
theorem ok__law_scale {P : Program} {w : World} {K : PySem.W.Frag} {mg : Str → Option Value} {base : Heap} (T : Tx K mg w) (c : He.SaysD fa fn K) : FnB P w K mg base 1 (He.fAd K ("_law_scale", none)) ["_law_cell"] (spG K 1 true (g__law_scale K)) := by
  obtain ⟨fd, F⟩ := c.def_ 47 (d := d__law_scale) rfl
  refine ⟨fd, fn_ok F sc__law_scale rfl fun cdv A outer s H E hr => ⟨_, (pss_cons (ps_if (pt_cmpR op_eq (pe_op op_mod (pv 0) pe_int) pe_int (nomark _)) (pss_one (ps_ret (pe_op op_add (pe_op op_pow pe_int pe_int) pe_int))) pss_nil)
    (pss_one (ps_ret pe_int))), ?_⟩, FunD.bindsN F (fun _ _ _ _ _ _ us hl => match us, hl with | [_], _ => rfl), F.kp⟩
  intro Γ as m o D hK hF hO hn hG hnx hD
  try dsimp only [cxOf]
  obtain ⟨c, rfl, rfl, rfl⟩ := hG
  unfold scale10 at hD
  refine x_seq (x_if (t_tst (e_eqI (e_opIC (e_var rfl) e_int (by show (0 : Int) < 5; decide)) e_int)) (fun hb => ?_) fun hb => x_next (x_nx ?_))
  · rw [if_pos (of_decide_eq_true hb)] at hD
    exact x_retP (E := E) (e_opI (e_opIC (e_int (i := 10)) (e_int (i := 28)) ⟨by decide, by decide, by decide⟩) e_int) hD
  · rw [if_neg (of_decide_eq_false hb)] at hD
    exact x_retP (E := E) e_int hD
theorem sc_need_entry : FnScope ["entry"] ["entry"] (defScope s_need_entry) := ⟨rfl, rfl, rfl, by decide +kernel, rfl, by decide +kernel, by decide +kernel⟩
def g_need_entry (K : PySem.W.Frag) (as : List Sv) (m : Mu) (o : Oc) : Prop := ∃ x : Option PD, as = [xS x] ∧ m = [] ∧ o = if entX x = true then .ret dN [] else .exc (He.ga K "NoEntry") []
theorem ok_need_entry {P : Program} {w : World} {K : PySem.W.Frag} {mg : Str → Option Value} {base : Heap} (T : Tx K mg w) (c : He.SaysD fa fn K) : FnB P w K mg base 1 (He.fAd K ("need_entry", none)) ["entry"] (spG K 1 true (g_need_entry K)) := by
  obtain ⟨fd, F⟩ := c.def_ 36 (d := d_need_entry) rfl
  refine ⟨fd, fn_ok F sc_need_entry rfl fun cdv A outer s H E hr => ⟨_, (pss_cons (ps_if (PW.pt (pw_or (pt_not (pt_val (pe_callB (call_isi' (K := K) rfl) (by rfl) T.z_isinstance (by decide +kernel) (pa_cons (pv 0) (pa_cons (pe_bltn (v := .ty "tuple") rfl T.z_tuple (by decide +kernel) rfl) pa_nil))))) (pw_or (pt_cmpR (op_eqX (K := K) rfl hr.units) (pv 0) (pe_tup pa_nil) (nomark _)) (pw_or1 (pt_not (pt_val (pe_callB (call_isi' (K := K) rfl) (by rfl) T.z_isinstance (by decide +kernel) (pa_cons (pe_ix (ix_tup' (K := K) rfl) (pv 0) pe_int (fun _ _ => rfl)) (pa_cons (pe_bltn (v := .ty "str") rfl T.z_str (by decide +kernel) rfl) pa_nil))))))))) (pss_one (ps_raise rfl (takes_of rfl rfl rfl rfl) (pmk_own PySem.F.excBase_ValueError T.x_NoEntry.1 T.m_NoEntry T.x_NoEntry.2.1 (raises_own T.x_NoEntry.2.2.1 T.x_NoEntry.2.2.2) (by exact rfl)))) pss_nil)
    (pss_one (ps_if (pt_cmpR op_ne (pe_kget2 (K := K) (w := w) rfl rfl (pe_glob (v := .ref (He.ga K "PARTS")) rfl T.m_PARTS rfl) (pe_ix (ix_tup' (K := K) rfl) (pv 0) pe_int (fun _ _ => rfl)) pe_int ⟨rfl, rfl, rfl, rfl⟩) (pe_callB (call_len_seq' (K := K) rfl) (by rfl) T.z_len (by decide +kernel) (pa_cons (pv 0) pa_nil)) (nomark _)) (pss_one (ps_raise rfl (takes_of rfl rfl rfl rfl) (pmk_own PySem.F.excBase_ValueError T.x_NoEntry.1 T.m_NoEntry T.x_NoEntry.2.1 (raises_own T.x_NoEntry.2.2.1 T.x_NoEntry.2.2.2) (by exact rfl)))) pss_nil))), ?_⟩, FunD.bindsN F (fun _ _ _ _ _ _ us hl => match us, hl with | [_], _ => rfl), F.kp⟩
  intro Γ as m o D hK hF hO hn hG hnx hD
  try dsimp only [cxOf]
  obtain ⟨x, rfl, rfl, rfl⟩ := hG
  have no : OcOk Γ.K Γ.W0 Γ.F D.rt E (.exc (He.ga K "NoEntry") []) → Sx Γ (fun _ _ H => E (.ref (He.ga K "NoEntry")) none H) D [some (xS x)] [] := fun hD => x_raise hD (List.nil_sublist _)
  cases x with
  | none =>
    exact x_seq (x_if (b := true) (EvT.to (t_or (t_not (t_B (e_isi_raw hK (e_var rfl)))) (fun _ => t_or (t_tst (e_eqEmptyR hK (e_var rfl) (e_tup (ds := []) a_nilD))) (fun _ => t_not (t_B (e_isi_raw0 hK (e_var rfl) e_int))))) rfl) (fun _ => x_raise hD (List.nil_sublist _)) (fun h => Bool.noConfusion (show true = false from h)))
  | some d =>
    by_cases ht : ∃ ds, d = .tuple ds
    rotate_left
    · have h1 : isA "tuple" d = false := by cases d <;> first | rfl | exact absurd ⟨_, rfl⟩ ht
      have h2 : entX (some d) = false := by cases d <;> first | rfl | exact absurd ⟨_, rfl⟩ ht
      rw [if_neg (by rw [h2]; decide)] at hD
      have hh := t_not (t_B (e_isi_tuple (Γ := Γ) (μ := []) (δ := [some (.d d)]) hK (e_var (k := 0) (s := .d d) rfl)))
      rw [h1] at hh
      exact x_seq (x_if (t_or (b := true) hh (fun h => absurd h (by decide))) (fun _ => x_raise hD (List.nil_sublist _)) (fun h => Bool.noConfusion (show true = false from h)))
    obtain ⟨ds, rfl⟩ := ht
    cases ds with
    | nil => exact x_seq (x_if (b := true) (EvT.to (t_or (t_not (t_B (e_isi_tuple hK (e_var rfl)))) (fun _ => t_or (b := false) (t_tst (e_eqEmptyD hK (e_var rfl) (e_tup (ds := []) a_nilD))) (fun h => Bool.noConfusion (show true = false from h)))) rfl) (fun _ => x_raise hD (List.nil_sublist _)) (fun h => Bool.noConfusion (show true = false from h)))
    | cons d0 r =>
      have hne : decide (d0 :: r = ([] : List PD)) = false := decide_eq_false (fun z => nomatch z)
      by_cases hs : ∃ k, d0 = .str k
      rotate_left
      · have h1 : isA "str" d0 = false := by cases d0 <;> first | rfl | exact absurd ⟨_, rfl⟩ hs
        have h2 : entX (some (.tuple (d0 :: r))) = false := by cases d0 <;> first | rfl | exact absurd ⟨_, rfl⟩ hs
        rw [if_neg (by rw [h2]; decide)] at hD
        exact x_seq (x_if (b := true) (EvT.to (t_or (t_not (t_B (e_isi_tuple hK (e_var rfl)))) (fun _ => t_or (t_tst (e_eqEmptyD hK (e_var rfl) (e_tup (ds := []) a_nilD))) (fun _ => t_not (t_B (e_isi_str hK (e_ixU (d := d0) hK (e_var rfl) e_int (atI_nat (j := 0) rfl))))))) (by rw [h1, hne]; rfl)) (fun _ => x_raise hD (List.nil_sublist _)) (fun h => Bool.noConfusion (show true = false from h)))
      obtain ⟨k, rfl⟩ := hs
      have hkp := kat_of T.v_PARTS k
      rw [parts_at] at hkp
      refine x_seq (x_if (b := false) (EvT.to (t_or (t_not (t_B (e_isi_tuple hK (e_var rfl)))) (fun _ => t_or (t_tst (e_eqEmptyD hK (e_var rfl) (e_tup (ds := []) a_nilD))) (fun _ => t_not (t_B (e_isi_str hK (e_ixU (d := .str k) hK (e_var rfl) e_int (atI_nat (j := 0) rfl))))))) (by rw [hne]; rfl)) (fun h => absurd h (by decide)) fun _ => x_next (x_nx ?_))
      refine x_if (t_tst (e_neI (e_kget (o := (wordAt k).map fun i => ((mk7 i).length + 1 : Int)) e_raw T.t_PARTS (e_ixU (d := .str k) hK (e_var rfl) e_int (atI_nat (j := 0) rfl)) e_int hkp) (e_lenU hK (e_var rfl)))) (fun hb => ?_) fun hb => x_next ?_
      · have h2 : ¬entX (some (.tuple (.str k :: r))) = true := fun h => by
          have h3 : decide (((wordAt k).map fun i => ((mk7 i).length + 1 : Int)).getD 0 = ((r.length + 1 : Nat) : Int)) = true := h
          have h4 : (!decide (((wordAt k).map fun i => ((mk7 i).length + 1 : Int)).getD 0 = ((r.length + 1 : Nat) : Int))) = true := hb
          rw [h3] at h4
          cases h4
        rw [if_neg h2] at hD
        exact x_raise hD (List.nil_sublist _)
      · have h2 : entX (some (.tuple (.str k :: r))) = true := by
          have h4 : (!decide (((wordAt k).map fun i => ((mk7 i).length + 1 : Int)).getD 0 = ((r.length + 1 : Nat) : Int))) = false := hb
          show decide _ = true
          simpa using h4
        rw [if_pos h2] at hD
        exact x_end hnx hD (List.nil_sublist _)
theorem sc_done : FnScope ["floor", "entry", "word"] ["floor", "entry"] (defScope s_done) := ⟨rfl, rfl, rfl, by decide +kernel, rfl, by decide +kernel, by decide +kernel⟩
def g_done (K : PySem.W.Frag) (as : List Sv) (m : Mu) (o : Oc) : Prop := (∃ (a d1 d2 d3 l : Addr) (M : FM) (e : Deed) (Pl : List Int) (Ws : List Str), as = [.r (.ref a), dU e.data] ∧ m = flo (fC K) a d1 d2 d3 l M ∧ Wld Pl Ws ∧ Good Pl Ws M ∧ e.ok Pl Ws ∧ M.sz 39000 ∧ ((∃ d M', Step M e d M' ∧ o = .ret (.d d) (flo (fC K) a d1 d2 d3 l M')) ∨ ∃ c, Ref M e c ∧ o = .exc (He.ga K c) (flo (fC K) a d1 d2 d3 l M))) ∨ ∃ (a d1 d2 d3 l : Addr) (M : FM) (c0 c1 : Int) (x : Option PD) (c t : Str), as = [.r (.ref a), xS x] ∧ m = flo (fC K) a d1 d2 d3 l M ∧ Good (plL c1) (wrL c0) M ∧ M.sz 39000 ∧ Bad (wr c0 0) M x c t ∧ o = .exc (He.ga K c) (flo (fC K) a d1 d2 d3 l M)
theorem ok_done {P : Program} {w : World} {K : PySem.W.Frag} {mg : Str → Option Value} {base : Heap} (T : Tx K mg w) (c : He.SaysD fa fn K) : FnB P w K mg base 5 (He.fAd K ("done", none)) ["floor", "entry"] (spG K 2 false (g_done K)) := by
  obtain ⟨fd_need_entry, g_need_entry, b_need_entry, k_need_entry⟩ := ok_need_entry (P := P) (w := w) (base := base) T c
  obtain ⟨fd_Floor_wish, g_Floor_wish, b_Floor_wish, k_Floor_wish⟩ := ok_Floor_wish (P := P) (w := w) (base := base) T c
  obtain ⟨fd_Floor_come, g_Floor_come, b_Floor_come, k_Floor_come⟩ := ok_Floor_come (P := P) (w := w) (base := base) T c
  obtain ⟨fd_Floor_go, g_Floor_go, b_Floor_go, k_Floor_go⟩ := ok_Floor_go (P := P) (w := w) (base := base) T c
  obtain ⟨fd_Floor_move, g_Floor_move, b_Floor_move, k_Floor_move⟩ := ok_Floor_move (P := P) (w := w) (base := base) T c
  obtain ⟨fd_Floor_hold, g_Floor_hold, b_Floor_hold, k_Floor_hold⟩ := ok_Floor_hold (P := P) (w := w) (base := base) T c
  obtain ⟨fd_Floor_let, g_Floor_let, b_Floor_let, k_Floor_let⟩ := ok_Floor_let (P := P) (w := w) (base := base) T c
  obtain ⟨fd_Floor_take, g_Floor_take, b_Floor_take, k_Floor_take⟩ := ok_Floor_take (P := P) (w := w) (base := base) T c
  obtain ⟨fd_Floor_shift, g_Floor_shift, b_Floor_shift, k_Floor_shift⟩ := ok_Floor_shift (P := P) (w := w) (base := base) T c
  obtain ⟨fd_Floor_counted, g_Floor_counted, b_Floor_counted, k_Floor_counted⟩ := ok_Floor_counted (P := P) (w := w) (base := base) T c
  obtain ⟨fd, F⟩ := c.def_ 37 (d := d_done) rfl
  refine ⟨fd, fn_ok F sc_done rfl fun cdv A outer s H E hr => ⟨_, (pss_cons (ps_expr (pe_call g_need_entry (hr.mono (by decide)) (by rfl) T.m_need_entry k_need_entry b_need_entry .nil (passes_call (takes_of rfl rfl rfl rfl) (fun _ _ _ _ z => z)) (pa_cons (pv 1) pa_nil)))
    (pss_cons (ps_set (i := 2) sc_done.nd rfl (Or.inl rfl) (pe_ix (ix_tup' (K := K) rfl) (pv 1) pe_int (fun _ _ => rfl)))
    (pss_cons (ps_if (pt_cmpR op_eq (pv 2) pe_str (nomark _)) (pss_one (ps_ret (pe_meth (pv 0) T.cl_Floor T.mt_come g_Floor_come (hr.mono (by decide)) b_Floor_come .nil (passes_call (takes_of rfl rfl rfl rfl) (fun _ _ _ _ z => z)) (pa_cons (pe_ix (ix_tup' (K := K) rfl) (pv 1) pe_int (fun _ _ => rfl)) (pa_cons (pe_ix (ix_tup' (K := K) rfl) (pv 1) pe_int (fun _ _ => rfl)) (pa_cons (pe_ix (ix_tup' (K := K) rfl) (pv 1) pe_int (fun _ _ => rfl)) pa_nil)))))) pss_nil)
    (pss_cons (ps_if (pt_cmpR op_eq (pv 2) pe_str (nomark _)) (pss_one (ps_ret (pe_meth (pv 0) T.cl_Floor T.mt_go g_Floor_go (hr.mono (by decide)) b_Floor_go .nil (passes_call (takes_of rfl rfl rfl rfl) (fun _ _ _ _ z => z)) (pa_cons (pe_ix (ix_tup' (K := K) rfl) (pv 1) pe_int (fun _ _ => rfl)) (pa_cons (pe_ix (ix_tup' (K := K) rfl) (pv 1) pe_int (fun _ _ => rfl)) (pa_cons (pe_ix (ix_tup' (K := K) rfl) (pv 1) pe_int (fun _ _ => rfl)) pa_nil)))))) pss_nil)
    (pss_cons (ps_if (pt_cmpR op_eq (pv 2) pe_str (nomark _)) (pss_one (ps_ret (pe_meth (pv 0) T.cl_Floor T.mt_move g_Floor_move (hr.mono (by decide)) b_Floor_move .nil (passes_call (takes_of rfl rfl rfl rfl) (fun _ _ _ _ z => z)) (pa_cons (pe_ix (ix_tup' (K := K) rfl) (pv 1) pe_int (fun _ _ => rfl)) (pa_cons (pe_ix (ix_tup' (K := K) rfl) (pv 1) pe_int (fun _ _ => rfl)) (pa_cons (pe_ix (ix_tup' (K := K) rfl) (pv 1) pe_int (fun _ _ => rfl)) (pa_cons (pe_ix (ix_tup' (K := K) rfl) (pv 1) pe_int (fun _ _ => rfl)) pa_nil))))))) pss_nil)
    (pss_cons (ps_if (pt_cmpR op_eq (pv 2) pe_str (nomark _)) (pss_one (ps_ret (pe_meth (pv 0) T.cl_Floor T.mt_hold g_Floor_hold (hr.mono (by decide)) b_Floor_hold .nil (passes_call (takes_of rfl rfl rfl rfl) (fun _ _ _ _ z => z)) (pa_cons (pe_ix (ix_tup' (K := K) rfl) (pv 1) pe_int (fun _ _ => rfl)) (pa_cons (pe_ix (ix_tup' (K := K) rfl) (pv 1) pe_int (fun _ _ => rfl)) (pa_cons (pe_ix (ix_tup' (K := K) rfl) (pv 1) pe_int (fun _ _ => rfl)) pa_nil)))))) pss_nil)
    (pss_cons (ps_if (pt_cmpR op_eq (pv 2) pe_str (nomark _)) (pss_one (ps_ret (pe_meth (pv 0) T.cl_Floor T.mt_let g_Floor_let (hr.mono (by decide)) b_Floor_let .nil (passes_call (takes_of rfl rfl rfl rfl) (fun _ _ _ _ z => z)) (pa_cons (pe_ix (ix_tup' (K := K) rfl) (pv 1) pe_int (fun _ _ => rfl)) pa_nil)))) pss_nil)
    (pss_cons (ps_if (pt_cmpR op_eq (pv 2) pe_str (nomark _)) (pss_one (ps_ret (pe_meth (pv 0) T.cl_Floor T.mt_take g_Floor_take (hr.mono (by decide)) b_Floor_take .nil (passes_call (takes_of rfl rfl rfl rfl) (fun _ _ _ _ z => z)) (pa_cons (pe_ix (ix_tup' (K := K) rfl) (pv 1) pe_int (fun _ _ => rfl)) pa_nil)))) pss_nil)
    (pss_cons (ps_if (pt_cmpR op_eq (pv 2) pe_str (nomark _)) (pss_one (ps_ret (pe_meth (pv 0) T.cl_Floor T.mt_shift g_Floor_shift (hr.mono (by decide)) b_Floor_shift .nil (passes_call (takes_of rfl rfl rfl rfl) (fun _ _ _ _ z => z)) (pa_cons (pe_ix (ix_tup' (K := K) rfl) (pv 1) pe_int (fun _ _ => rfl)) (pa_cons (pe_ix (ix_tup' (K := K) rfl) (pv 1) pe_int (fun _ _ => rfl)) pa_nil))))) pss_nil)
    (pss_cons (ps_if (pt_cmpR op_eq (pv 2) pe_str (nomark _)) (pss_one (ps_ret (pe_meth (pv 0) T.cl_Floor T.mt_counted g_Floor_counted (hr.mono (by decide)) b_Floor_counted .nil (passes_call (takes_of rfl rfl rfl rfl) (fun _ _ _ _ z => z)) (pa_cons (pe_ix (ix_tup' (K := K) rfl) (pv 1) pe_int (fun _ _ => rfl)) (pa_cons (pe_ix (ix_tup' (K := K) rfl) (pv 1) pe_int (fun _ _ => rfl)) (pa_cons (pe_ix (ix_tup' (K := K) rfl) (pv 1) pe_int (fun _ _ => rfl)) pa_nil)))))) pss_nil)
    (pss_one (ps_ret (pe_meth (pv 0) T.cl_Floor T.mt_wish g_Floor_wish (hr.mono (by decide)) b_Floor_wish .nil (passes_call (takes_of rfl rfl rfl rfl) (fun _ _ _ _ z => z)) (pa_cons (pe_ix (ix_tup' (K := K) rfl) (pv 1) pe_int (fun _ _ => rfl)) (pa_cons (pe_ix (ix_tup' (K := K) rfl) (pv 1) pe_int (fun _ _ => rfl)) pa_nil))))))))))))))), ?_⟩, FunD.bindsN F (fun _ _ _ _ _ _ us hl => match us, hl with | [_, _], _ => rfl), F.kp⟩
  intro Γ as m o D hK hF hO hn hG hnx hD
  try dsimp only [cxOf]
  rcases hG with hG | hG
  · obtain ⟨a, d1, d2, d3, l, M, e, Pl, Ws, rfl, rfl, hW, hGd, hok, hz, ⟨d, M', hs, rfl⟩ | ⟨c, hr, rfl⟩⟩ := hG
    · cases hs with
      | come p w n =>
        refine x_seq (x_drop (e_call hK (a_cons (e_var rfl) a_nil) ⟨some (.tuple _), rfl, rfl, (if_pos (ent_deed _)).symm⟩ (List.nil_sublist _)) (x_nx ?_))
        refine x_let (e_ixU hK (e_var rfl) e_int rfl) ?_
        refine x_seq (x_if (b := true) (EvT.to (t_tst (e_eqS (e_var rfl) e_str)) (by decide)) (fun _ => ?_) (fun h => absurd h (by decide)))
        exact x_ret (E := E) (e_methM0 (m := flo (fC K) a d1 d2 d3 l M) hK (e_var rfl) (List.mem_of_getElem? (i := 0) rfl) rfl (a_cons (e_ixU hK (e_var rfl) e_int rfl) (a_cons (e_ixU hK (e_var rfl) e_int rfl) (a_cons (e_ixU hK (e_var rfl) e_int rfl) a_nil))) ⟨a, d1, d2, d3, l, M, _, _, _, rfl, rfl, (hW.ws _ hok.2.1).st, (hz.mono (by decide)), .inr (.inr (.inr ⟨_, _, _, rfl, rfl, rfl, hW.ws _ hok.2.1, (isWh_ok.mpr ⟨_, rfl, (hW.pl _ hok.1).1, (hW.pl _ hok.1).2⟩), (isWh_ok.mpr ⟨_, rfl, hok.2.2.1, hok.2.2.2⟩), rfl⟩))⟩ rfl (may_all hF rfl)) hD (List.Sublist.refl _)
      | go p w n hf =>
        refine x_seq (x_drop (e_call hK (a_cons (e_var rfl) a_nil) ⟨some (.tuple _), rfl, rfl, (if_pos (ent_deed _)).symm⟩ (List.nil_sublist _)) (x_nx ?_))
        refine x_let (e_ixU hK (e_var rfl) e_int rfl) ?_
        refine x_seq (x_if (b := false) (EvT.to (t_tst (e_eqS (e_var rfl) e_str)) (by decide)) (fun h => absurd h (by decide)) fun _ => x_next (x_nx ?_))
        refine x_seq (x_if (b := true) (EvT.to (t_tst (e_eqS (e_var rfl) e_str)) (by decide)) (fun _ => ?_) (fun h => absurd h (by decide)))
        exact x_ret (E := E) (e_methM0 (m := flo (fC K) a d1 d2 d3 l M) hK (e_var rfl) (List.mem_of_getElem? (i := 0) rfl) rfl (a_cons (e_ixU hK (e_var rfl) e_int rfl) (a_cons (e_ixU hK (e_var rfl) e_int rfl) (a_cons (e_ixU hK (e_var rfl) e_int rfl) a_nil))) ⟨a, d1, d2, d3, l, M, _, _, _, rfl, rfl, (hW.ws _ hok.2.1).st, (hGd.wok hW.st), (hz.mono (by decide)), .inr (.inr (.inr (.inr ⟨_, _, _, rfl, rfl, rfl, hW.ws _ hok.2.1, (isWh_ok.mpr ⟨_, rfl, (hW.pl _ hok.1).1, (hW.pl _ hok.1).2⟩), (isWh_ok.mpr ⟨_, rfl, hok.2.2.1, hok.2.2.2⟩), hf, rfl⟩)))⟩ rfl (may_all hF rfl)) hD (List.Sublist.refl _)
      | move p q w n hpq hf =>
        refine x_seq (x_drop (e_call hK (a_cons (e_var rfl) a_nil) ⟨some (.tuple _), rfl, rfl, (if_pos (ent_deed _)).symm⟩ (List.nil_sublist _)) (x_nx ?_))
        refine x_let (e_ixU hK (e_var rfl) e_int rfl) ?_
        refine x_seq (x_if (b := false) (EvT.to (t_tst (e_eqS (e_var rfl) e_str)) (by decide)) (fun h => absurd h (by decide)) fun _ => x_next (x_nx ?_))
        refine x_seq (x_if (b := false) (EvT.to (t_tst (e_eqS (e_var rfl) e_str)) (by decide)) (fun h => absurd h (by decide)) fun _ => x_next (x_nx ?_))
        refine x_seq (x_if (b := true) (EvT.to (t_tst (e_eqS (e_var rfl) e_str)) (by decide)) (fun _ => ?_) (fun h => absurd h (by decide)))
        exact x_ret (E := E) (e_methM0 (m := flo (fC K) a d1 d2 d3 l M) hK (e_var rfl) (List.mem_of_getElem? (i := 0) rfl) rfl (a_cons (e_ixU hK (e_var rfl) e_int rfl) (a_cons (e_ixU hK (e_var rfl) e_int rfl) (a_cons (e_ixU hK (e_var rfl) e_int rfl) (a_cons (e_ixU hK (e_var rfl) e_int rfl) a_nil)))) ⟨a, d1, d2, d3, l, M, _, _, _, _, rfl, rfl, (hW.ws _ hok.2.2.1).st, (hGd.wok hW.st), (hz.mono (by decide)), .inr (.inr (.inr ⟨_, _, _, rfl, rfl, rfl, hW.ws _ hok.2.2.1, (isWh_ok.mpr ⟨_, rfl, (hW.pl _ hok.1).1, (hW.pl _ hok.1).2⟩), (isWh_ok.mpr ⟨_, rfl, (hW.pl _ hok.2.1).1, (hW.pl _ hok.2.1).2⟩), .inr (.inr ⟨_, rfl, hpq, (isWh_ok.mpr ⟨_, rfl, hok.2.2.2.1, hok.2.2.2.2⟩), .inr ⟨hf, rfl⟩⟩)⟩))⟩ rfl (may_all hF rfl)) hD (List.Sublist.refl _)
      | hold p w n hf =>
        refine x_seq (x_drop (e_call hK (a_cons (e_var rfl) a_nil) ⟨some (.tuple _), rfl, rfl, (if_pos (ent_deed _)).symm⟩ (List.nil_sublist _)) (x_nx ?_))
        refine x_let (e_ixU hK (e_var rfl) e_int rfl) ?_
        refine x_seq (x_if (b := false) (EvT.to (t_tst (e_eqS (e_var rfl) e_str)) (by decide)) (fun h => absurd h (by decide)) fun _ => x_next (x_nx ?_))
        refine x_seq (x_if (b := false) (EvT.to (t_tst (e_eqS (e_var rfl) e_str)) (by decide)) (fun h => absurd h (by decide)) fun _ => x_next (x_nx ?_))
        refine x_seq (x_if (b := false) (EvT.to (t_tst (e_eqS (e_var rfl) e_str)) (by decide)) (fun h => absurd h (by decide)) fun _ => x_next (x_nx ?_))
        refine x_seq (x_if (b := true) (EvT.to (t_tst (e_eqS (e_var rfl) e_str)) (by decide)) (fun _ => ?_) (fun h => absurd h (by decide)))
        exact x_ret (E := E) (e_methM0 (m := flo (fC K) a d1 d2 d3 l M) hK (e_var rfl) (List.mem_of_getElem? (i := 0) rfl) rfl (a_cons (e_ixU hK (e_var rfl) e_int rfl) (a_cons (e_ixU hK (e_var rfl) e_int rfl) (a_cons (e_ixU hK (e_var rfl) e_int rfl) a_nil))) ⟨a, d1, d2, d3, l, M, _, _, _, rfl, rfl, (hW.ws _ hok.2.1).st, (hGd.wok hW.st), (hz.mono (by decide)), .inr (.inr (.inr (.inr ⟨_, _, _, rfl, rfl, rfl, hW.ws _ hok.2.1, (isWh_ok.mpr ⟨_, rfl, (hW.pl _ hok.1).1, (hW.pl _ hok.1).2⟩), (isWh_ok.mpr ⟨_, rfl, hok.2.2.1, hok.2.2.2⟩), hf, rfl⟩)))⟩ rfl (may_all hF rfl)) hD (List.Sublist.refl _)
      | let' k g hg =>
        refine x_seq (x_drop (e_call hK (a_cons (e_var rfl) a_nil) ⟨some (.tuple _), rfl, rfl, (if_pos (ent_deed _)).symm⟩ (List.nil_sublist _)) (x_nx ?_))
        refine x_let (e_ixU hK (e_var rfl) e_int rfl) ?_
        refine x_seq (x_if (b := false) (EvT.to (t_tst (e_eqS (e_var rfl) e_str)) (by decide)) (fun h => absurd h (by decide)) fun _ => x_next (x_nx ?_))
        refine x_seq (x_if (b := false) (EvT.to (t_tst (e_eqS (e_var rfl) e_str)) (by decide)) (fun h => absurd h (by decide)) fun _ => x_next (x_nx ?_))
        refine x_seq (x_if (b := false) (EvT.to (t_tst (e_eqS (e_var rfl) e_str)) (by decide)) (fun h => absurd h (by decide)) fun _ => x_next (x_nx ?_))
        refine x_seq (x_if (b := false) (EvT.to (t_tst (e_eqS (e_var rfl) e_str)) (by decide)) (fun h => absurd h (by decide)) fun _ => x_next (x_nx ?_))
        refine x_seq (x_if (b := true) (EvT.to (t_tst (e_eqS (e_var rfl) e_str)) (by decide)) (fun _ => ?_) (fun h => absurd h (by decide)))
        exact x_ret (E := E) (e_methM0 (m := flo (fC K) a d1 d2 d3 l M) hK (e_var rfl) (List.mem_of_getElem? (i := 0) rfl) rfl (a_cons (e_ixU hK (e_var rfl) e_int rfl) a_nil) ⟨a, d1, d2, d3, l, M, _, rfl, rfl, (hz.mono (by decide)), .inr ⟨_, _, rfl, hg, rfl⟩⟩ rfl (may_all hF rfl)) hD (List.Sublist.refl _)
      | take k g hg =>
        refine x_seq (x_drop (e_call hK (a_cons (e_var rfl) a_nil) ⟨some (.tuple _), rfl, rfl, (if_pos (ent_deed _)).symm⟩ (List.nil_sublist _)) (x_nx ?_))
        refine x_let (e_ixU hK (e_var rfl) e_int rfl) ?_
        refine x_seq (x_if (b := false) (EvT.to (t_tst (e_eqS (e_var rfl) e_str)) (by decide)) (fun h => absurd h (by decide)) fun _ => x_next (x_nx ?_))
        refine x_seq (x_if (b := false) (EvT.to (t_tst (e_eqS (e_var rfl) e_str)) (by decide)) (fun h => absurd h (by decide)) fun _ => x_next (x_nx ?_))
        refine x_seq (x_if (b := false) (EvT.to (t_tst (e_eqS (e_var rfl) e_str)) (by decide)) (fun h => absurd h (by decide)) fun _ => x_next (x_nx ?_))
        refine x_seq (x_if (b := false) (EvT.to (t_tst (e_eqS (e_var rfl) e_str)) (by decide)) (fun h => absurd h (by decide)) fun _ => x_next (x_nx ?_))
        refine x_seq (x_if (b := false) (EvT.to (t_tst (e_eqS (e_var rfl) e_str)) (by decide)) (fun h => absurd h (by decide)) fun _ => x_next (x_nx ?_))
        refine x_seq (x_if (b := true) (EvT.to (t_tst (e_eqS (e_var rfl) e_str)) (by decide)) (fun _ => ?_) (fun h => absurd h (by decide)))
        exact x_ret (E := E) (e_methM0 (m := flo (fC K) a d1 d2 d3 l M) hK (e_var rfl) (List.mem_of_getElem? (i := 0) rfl) rfl (a_cons (e_ixU hK (e_var rfl) e_int rfl) a_nil) ⟨a, d1, d2, d3, l, M, _, rfl, rfl, (hz.mono (by decide)), .inr ⟨_, _, rfl, hg, rfl⟩⟩ rfl (may_all hF rfl)) hD (List.Sublist.refl _)
      | shift k q g hg hne =>
        refine x_seq (x_drop (e_call hK (a_cons (e_var rfl) a_nil) ⟨some (.tuple _), rfl, rfl, (if_pos (ent_deed _)).symm⟩ (List.nil_sublist _)) (x_nx ?_))
        refine x_let (e_ixU hK (e_var rfl) e_int rfl) ?_
        refine x_seq (x_if (b := false) (EvT.to (t_tst (e_eqS (e_var rfl) e_str)) (by decide)) (fun h => absurd h (by decide)) fun _ => x_next (x_nx ?_))
        refine x_seq (x_if (b := false) (EvT.to (t_tst (e_eqS (e_var rfl) e_str)) (by decide)) (fun h => absurd h (by decide)) fun _ => x_next (x_nx ?_))
        refine x_seq (x_if (b := false) (EvT.to (t_tst (e_eqS (e_var rfl) e_str)) (by decide)) (fun h => absurd h (by decide)) fun _ => x_next (x_nx ?_))
        refine x_seq (x_if (b := false) (EvT.to (t_tst (e_eqS (e_var rfl) e_str)) (by decide)) (fun h => absurd h (by decide)) fun _ => x_next (x_nx ?_))
        refine x_seq (x_if (b := false) (EvT.to (t_tst (e_eqS (e_var rfl) e_str)) (by decide)) (fun h => absurd h (by decide)) fun _ => x_next (x_nx ?_))
        refine x_seq (x_if (b := false) (EvT.to (t_tst (e_eqS (e_var rfl) e_str)) (by decide)) (fun h => absurd h (by decide)) fun _ => x_next (x_nx ?_))
        refine x_seq (x_if (b := true) (EvT.to (t_tst (e_eqS (e_var rfl) e_str)) (by decide)) (fun _ => ?_) (fun h => absurd h (by decide)))
        exact x_ret (E := E) (e_methM0 (m := flo (fC K) a d1 d2 d3 l M) hK (e_var rfl) (List.mem_of_getElem? (i := 0) rfl) rfl (a_cons (e_ixU hK (e_var rfl) e_int rfl) (a_cons (e_ixU hK (e_var rfl) e_int rfl) a_nil)) ⟨a, d1, d2, d3, l, M, _, _, rfl, rfl, (hz.mono (by decide)), .inr ⟨_, _, rfl, hg, .inr ⟨_, rfl, (isWh_ok.mpr ⟨_, rfl, (hW.pl _ hok).1, (hW.pl _ hok).2⟩), .inr ⟨hne, rfl⟩⟩⟩⟩ rfl (may_all hF rfl)) hD (List.Sublist.refl _)
      | counted p w n =>
        refine x_seq (x_drop (e_call hK (a_cons (e_var rfl) a_nil) ⟨some (.tuple _), rfl, rfl, (if_pos (ent_deed _)).symm⟩ (List.nil_sublist _)) (x_nx ?_))
        refine x_let (e_ixU hK (e_var rfl) e_int rfl) ?_
        refine x_seq (x_if (b := false) (EvT.to (t_tst (e_eqS (e_var rfl) e_str)) (by decide)) (fun h => absurd h (by decide)) fun _ => x_next (x_nx ?_))
        refine x_seq (x_if (b := false) (EvT.to (t_tst (e_eqS (e_var rfl) e_str)) (by decide)) (fun h => absurd h (by decide)) fun _ => x_next (x_nx ?_))
        refine x_seq (x_if (b := false) (EvT.to (t_tst (e_eqS (e_var rfl) e_str)) (by decide)) (fun h => absurd h (by decide)) fun _ => x_next (x_nx ?_))
        refine x_seq (x_if (b := false) (EvT.to (t_tst (e_eqS (e_var rfl) e_str)) (by decide)) (fun h => absurd h (by decide)) fun _ => x_next (x_nx ?_))
        refine x_seq (x_if (b := false) (EvT.to (t_tst (e_eqS (e_var rfl) e_str)) (by decide)) (fun h => absurd h (by decide)) fun _ => x_next (x_nx ?_))
        refine x_seq (x_if (b := false) (EvT.to (t_tst (e_eqS (e_var rfl) e_str)) (by decide)) (fun h => absurd h (by decide)) fun _ => x_next (x_nx ?_))
        refine x_seq (x_if (b := false) (EvT.to (t_tst (e_eqS (e_var rfl) e_str)) (by decide)) (fun h => absurd h (by decide)) fun _ => x_next (x_nx ?_))
        refine x_seq (x_if (b := true) (EvT.to (t_tst (e_eqS (e_var rfl) e_str)) (by decide)) (fun _ => ?_) (fun h => absurd h (by decide)))
        exact x_ret (E := E) (EvN.fz (n_methM (m := flo (fC K) a d1 d2 d3 l M) (m' := flo (fC K) a d1 d2 d3 l (M.counted p w n).1) (rest := []) hK (e_var rfl) (List.mem_of_getElem? (i := 0) rfl) rfl (a_cons (e_ixU hK (e_var rfl) e_int rfl) (a_cons (e_ixU hK (e_var rfl) e_int rfl) (a_cons (e_ixU hK (e_var rfl) e_int rfl) a_nil))) ⟨a, d1, d2, d3, l, M, _, _, _, rfl, rfl, (hW.ws _ hok.2.1).st, (hGd.wok hW.st), (hz.mono (by decide)), hGd.ndS, .inr (.inr (.inr ⟨_, _, _, rfl, rfl, rfl, hW.ws _ hok.2.1, (isWh_ok.mpr ⟨_, rfl, (hW.pl _ hok.1).1, (hW.pl _ hok.1).2⟩), (isWh_ok.mpr ⟨_, rfl, hok.2.2.1, hok.2.2.2⟩), rfl⟩))⟩ rfl (may_all hF rfl) ha1)) hD (List.Sublist.refl _)
      | wish w n hf =>
        refine x_seq (x_drop (e_call hK (a_cons (e_var rfl) a_nil) ⟨some (.tuple _), rfl, rfl, (if_pos (ent_deed _)).symm⟩ (List.nil_sublist _)) (x_nx ?_))
        refine x_let (e_ixU hK (e_var rfl) e_int rfl) ?_
        refine x_seq (x_if (b := false) (EvT.to (t_tst (e_eqS (e_var rfl) e_str)) (by decide)) (fun h => absurd h (by decide)) fun _ => x_next (x_nx ?_))
        refine x_seq (x_if (b := false) (EvT.to (t_tst (e_eqS (e_var rfl) e_str)) (by decide)) (fun h => absurd h (by decide)) fun _ => x_next (x_nx ?_))
        refine x_seq (x_if (b := false) (EvT.to (t_tst (e_eqS (e_var rfl) e_str)) (by decide)) (fun h => absurd h (by decide)) fun _ => x_next (x_nx ?_))
        refine x_seq (x_if (b := false) (EvT.to (t_tst (e_eqS (e_var rfl) e_str)) (by decide)) (fun h => absurd h (by decide)) fun _ => x_next (x_nx ?_))
        refine x_seq (x_if (b := false) (EvT.to (t_tst (e_eqS (e_var rfl) e_str)) (by decide)) (fun h => absurd h (by decide)) fun _ => x_next (x_nx ?_))
        refine x_seq (x_if (b := false) (EvT.to (t_tst (e_eqS (e_var rfl) e_str)) (by decide)) (fun h => absurd h (by decide)) fun _ => x_next (x_nx ?_))
        refine x_seq (x_if (b := false) (EvT.to (t_tst (e_eqS (e_var rfl) e_str)) (by decide)) (fun h => absurd h (by decide)) fun _ => x_next (x_nx ?_))
        refine x_seq (x_if (b := false) (EvT.to (t_tst (e_eqS (e_var rfl) e_str)) (by decide)) (fun h => absurd h (by decide)) fun _ => x_next (x_nx ?_))
        exact x_ret (E := E) (e_methM0 (m := flo (fC K) a d1 d2 d3 l M) hK (e_var rfl) (List.mem_of_getElem? (i := 0) rfl) rfl (a_cons (e_ixU hK (e_var rfl) e_int rfl) (a_cons (e_ixU hK (e_var rfl) e_int rfl) a_nil)) ⟨a, d1, d2, d3, l, M, _, _, rfl, rfl, (hW.ws _ hok.1).st, (hGd.wok hW.st), (hz.mono (by decide)), .inr (.inr ⟨_, _, rfl, rfl, hW.ws _ hok.1, (isWh_ok.mpr ⟨_, rfl, hok.2.1, hok.2.2⟩), .inr ⟨hf, rfl⟩⟩)⟩ rfl (may_all hF rfl)) hD (List.Sublist.refl _)
    · cases hr with
      | go p w n hf =>
        refine x_seq (x_drop (e_call hK (a_cons (e_var rfl) a_nil) ⟨some (.tuple _), rfl, rfl, (if_pos (ent_deed _)).symm⟩ (List.nil_sublist _)) (x_nx ?_))
        refine x_let (e_ixU hK (e_var rfl) e_int rfl) ?_
        refine x_seq (x_if (b := false) (EvT.to (t_tst (e_eqS (e_var rfl) e_str)) (by decide)) (fun h => absurd h (by decide)) fun _ => x_next (x_nx ?_))
        refine x_seq (x_if (b := true) (EvT.to (t_tst (e_eqS (e_var rfl) e_str)) (by decide)) (fun _ => ?_) (fun h => absurd h (by decide)))
        exact x_retX (ex_meth (ro := false) (m := flo (fC K) a d1 d2 d3 l M) (m' := flo (fC K) a d1 d2 d3 l M) (rest := []) hK (e_var rfl) (List.mem_of_getElem? (i := 0) rfl) rfl (a_cons (e_ixU hK (e_var rfl) e_int rfl) (a_cons (e_ixU hK (e_var rfl) e_int rfl) (a_cons (e_ixU hK (e_var rfl) e_int rfl) a_nil))) ⟨a, d1, d2, d3, l, M, _, _, _, rfl, rfl, (hW.ws _ hok.2.1).st, (hGd.wok hW.st), (hz.mono (by decide)), .inr (.inr (.inr (.inl ⟨_, _, _, rfl, rfl, rfl, hW.ws _ hok.2.1, (isWh_ok.mpr ⟨_, rfl, (hW.pl _ hok.1).1, (hW.pl _ hok.1).2⟩), (isWh_ok.mpr ⟨_, rfl, hok.2.2.1, hok.2.2.2⟩), hf, rfl⟩)))⟩ rfl (may_all hF rfl) hD (List.Sublist.refl _))
      | same p q w n hpq =>
        refine x_seq (x_drop (e_call hK (a_cons (e_var rfl) a_nil) ⟨some (.tuple _), rfl, rfl, (if_pos (ent_deed _)).symm⟩ (List.nil_sublist _)) (x_nx ?_))
        refine x_let (e_ixU hK (e_var rfl) e_int rfl) ?_
        refine x_seq (x_if (b := false) (EvT.to (t_tst (e_eqS (e_var rfl) e_str)) (by decide)) (fun h => absurd h (by decide)) fun _ => x_next (x_nx ?_))
        refine x_seq (x_if (b := false) (EvT.to (t_tst (e_eqS (e_var rfl) e_str)) (by decide)) (fun h => absurd h (by decide)) fun _ => x_next (x_nx ?_))
        refine x_seq (x_if (b := true) (EvT.to (t_tst (e_eqS (e_var rfl) e_str)) (by decide)) (fun _ => ?_) (fun h => absurd h (by decide)))
        exact x_retX (ex_meth (ro := false) (m := flo (fC K) a d1 d2 d3 l M) (m' := flo (fC K) a d1 d2 d3 l M) (rest := []) hK (e_var rfl) (List.mem_of_getElem? (i := 0) rfl) rfl (a_cons (e_ixU hK (e_var rfl) e_int rfl) (a_cons (e_ixU hK (e_var rfl) e_int rfl) (a_cons (e_ixU hK (e_var rfl) e_int rfl) (a_cons (e_ixU hK (e_var rfl) e_int rfl) a_nil)))) ⟨a, d1, d2, d3, l, M, _, _, _, _, rfl, rfl, (hW.ws _ hok.2.2.1).st, (hGd.wok hW.st), (hz.mono (by decide)), .inr (.inr (.inr ⟨_, _, _, rfl, rfl, rfl, hW.ws _ hok.2.2.1, (isWh_ok.mpr ⟨_, rfl, (hW.pl _ hok.1).1, (hW.pl _ hok.1).2⟩), (isWh_ok.mpr ⟨_, rfl, (hW.pl _ hok.2.1).1, (hW.pl _ hok.2.1).2⟩), .inl ⟨hpq, rfl⟩⟩))⟩ rfl (may_all hF rfl) hD (List.Sublist.refl _))
      | move p q w n hpq hf =>
        refine x_seq (x_drop (e_call hK (a_cons (e_var rfl) a_nil) ⟨some (.tuple _), rfl, rfl, (if_pos (ent_deed _)).symm⟩ (List.nil_sublist _)) (x_nx ?_))
        refine x_let (e_ixU hK (e_var rfl) e_int rfl) ?_
        refine x_seq (x_if (b := false) (EvT.to (t_tst (e_eqS (e_var rfl) e_str)) (by decide)) (fun h => absurd h (by decide)) fun _ => x_next (x_nx ?_))
        refine x_seq (x_if (b := false) (EvT.to (t_tst (e_eqS (e_var rfl) e_str)) (by decide)) (fun h => absurd h (by decide)) fun _ => x_next (x_nx ?_))
        refine x_seq (x_if (b := true) (EvT.to (t_tst (e_eqS (e_var rfl) e_str)) (by decide)) (fun _ => ?_) (fun h => absurd h (by decide)))
        exact x_retX (ex_meth (ro := false) (m := flo (fC K) a d1 d2 d3 l M) (m' := flo (fC K) a d1 d2 d3 l M) (rest := []) hK (e_var rfl) (List.mem_of_getElem? (i := 0) rfl) rfl (a_cons (e_ixU hK (e_var rfl) e_int rfl) (a_cons (e_ixU hK (e_var rfl) e_int rfl) (a_cons (e_ixU hK (e_var rfl) e_int rfl) (a_cons (e_ixU hK (e_var rfl) e_int rfl) a_nil)))) ⟨a, d1, d2, d3, l, M, _, _, _, _, rfl, rfl, (hW.ws _ hok.2.2.1).st, (hGd.wok hW.st), (hz.mono (by decide)), .inr (.inr (.inr ⟨_, _, _, rfl, rfl, rfl, hW.ws _ hok.2.2.1, (isWh_ok.mpr ⟨_, rfl, (hW.pl _ hok.1).1, (hW.pl _ hok.1).2⟩), (isWh_ok.mpr ⟨_, rfl, (hW.pl _ hok.2.1).1, (hW.pl _ hok.2.1).2⟩), .inr (.inr ⟨_, rfl, hpq, (isWh_ok.mpr ⟨_, rfl, hok.2.2.2.1, hok.2.2.2.2⟩), .inl ⟨hf, rfl⟩⟩)⟩))⟩ rfl (may_all hF rfl) hD (List.Sublist.refl _))
      | hold p w n hf =>
        refine x_seq (x_drop (e_call hK (a_cons (e_var rfl) a_nil) ⟨some (.tuple _), rfl, rfl, (if_pos (ent_deed _)).symm⟩ (List.nil_sublist _)) (x_nx ?_))
        refine x_let (e_ixU hK (e_var rfl) e_int rfl) ?_
        refine x_seq (x_if (b := false) (EvT.to (t_tst (e_eqS (e_var rfl) e_str)) (by decide)) (fun h => absurd h (by decide)) fun _ => x_next (x_nx ?_))
        refine x_seq (x_if (b := false) (EvT.to (t_tst (e_eqS (e_var rfl) e_str)) (by decide)) (fun h => absurd h (by decide)) fun _ => x_next (x_nx ?_))
        refine x_seq (x_if (b := false) (EvT.to (t_tst (e_eqS (e_var rfl) e_str)) (by decide)) (fun h => absurd h (by decide)) fun _ => x_next (x_nx ?_))
        refine x_seq (x_if (b := true) (EvT.to (t_tst (e_eqS (e_var rfl) e_str)) (by decide)) (fun _ => ?_) (fun h => absurd h (by decide)))
        exact x_retX (ex_meth (ro := false) (m := flo (fC K) a d1 d2 d3 l M) (m' := flo (fC K) a d1 d2 d3 l M) (rest := []) hK (e_var rfl) (List.mem_of_getElem? (i := 0) rfl) rfl (a_cons (e_ixU hK (e_var rfl) e_int rfl) (a_cons (e_ixU hK (e_var rfl) e_int rfl) (a_cons (e_ixU hK (e_var rfl) e_int rfl) a_nil))) ⟨a, d1, d2, d3, l, M, _, _, _, rfl, rfl, (hW.ws _ hok.2.1).st, (hGd.wok hW.st), (hz.mono (by decide)), .inr (.inr (.inr (.inl ⟨_, _, _, rfl, rfl, rfl, hW.ws _ hok.2.1, (isWh_ok.mpr ⟨_, rfl, (hW.pl _ hok.1).1, (hW.pl _ hok.1).2⟩), (isWh_ok.mpr ⟨_, rfl, hok.2.2.1, hok.2.2.2⟩), hf, rfl⟩)))⟩ rfl (may_all hF rfl) hD (List.Sublist.refl _))
      | let' k hg =>
        refine x_seq (x_drop (e_call hK (a_cons (e_var rfl) a_nil) ⟨some (.tuple _), rfl, rfl, (if_pos (ent_deed _)).symm⟩ (List.nil_sublist _)) (x_nx ?_))
        refine x_let (e_ixU hK (e_var rfl) e_int rfl) ?_
        refine x_seq (x_if (b := false) (EvT.to (t_tst (e_eqS (e_var rfl) e_str)) (by decide)) (fun h => absurd h (by decide)) fun _ => x_next (x_nx ?_))
        refine x_seq (x_if (b := false) (EvT.to (t_tst (e_eqS (e_var rfl) e_str)) (by decide)) (fun h => absurd h (by decide)) fun _ => x_next (x_nx ?_))
        refine x_seq (x_if (b := false) (EvT.to (t_tst (e_eqS (e_var rfl) e_str)) (by decide)) (fun h => absurd h (by decide)) fun _ => x_next (x_nx ?_))
        refine x_seq (x_if (b := false) (EvT.to (t_tst (e_eqS (e_var rfl) e_str)) (by decide)) (fun h => absurd h (by decide)) fun _ => x_next (x_nx ?_))
        refine x_seq (x_if (b := true) (EvT.to (t_tst (e_eqS (e_var rfl) e_str)) (by decide)) (fun _ => ?_) (fun h => absurd h (by decide)))
        exact x_retX (ex_meth (ro := false) (m := flo (fC K) a d1 d2 d3 l M) (m' := flo (fC K) a d1 d2 d3 l M) (rest := []) hK (e_var rfl) (List.mem_of_getElem? (i := 0) rfl) rfl (a_cons (e_ixU hK (e_var rfl) e_int rfl) a_nil) ⟨a, d1, d2, d3, l, M, _, rfl, rfl, (hz.mono (by decide)), .inl ⟨by rw [FM.holding_none hg]; rfl, rfl⟩⟩ rfl (may_all hF rfl) hD (List.Sublist.refl _))
      | take k hg =>
        refine x_seq (x_drop (e_call hK (a_cons (e_var rfl) a_nil) ⟨some (.tuple _), rfl, rfl, (if_pos (ent_deed _)).symm⟩ (List.nil_sublist _)) (x_nx ?_))
        refine x_let (e_ixU hK (e_var rfl) e_int rfl) ?_
        refine x_seq (x_if (b := false) (EvT.to (t_tst (e_eqS (e_var rfl) e_str)) (by decide)) (fun h => absurd h (by decide)) fun _ => x_next (x_nx ?_))
        refine x_seq (x_if (b := false) (EvT.to (t_tst (e_eqS (e_var rfl) e_str)) (by decide)) (fun h => absurd h (by decide)) fun _ => x_next (x_nx ?_))
        refine x_seq (x_if (b := false) (EvT.to (t_tst (e_eqS (e_var rfl) e_str)) (by decide)) (fun h => absurd h (by decide)) fun _ => x_next (x_nx ?_))
        refine x_seq (x_if (b := false) (EvT.to (t_tst (e_eqS (e_var rfl) e_str)) (by decide)) (fun h => absurd h (by decide)) fun _ => x_next (x_nx ?_))
        refine x_seq (x_if (b := false) (EvT.to (t_tst (e_eqS (e_var rfl) e_str)) (by decide)) (fun h => absurd h (by decide)) fun _ => x_next (x_nx ?_))
        refine x_seq (x_if (b := true) (EvT.to (t_tst (e_eqS (e_var rfl) e_str)) (by decide)) (fun _ => ?_) (fun h => absurd h (by decide)))
        exact x_retX (ex_meth (ro := false) (m := flo (fC K) a d1 d2 d3 l M) (m' := flo (fC K) a d1 d2 d3 l M) (rest := []) hK (e_var rfl) (List.mem_of_getElem? (i := 0) rfl) rfl (a_cons (e_ixU hK (e_var rfl) e_int rfl) a_nil) ⟨a, d1, d2, d3, l, M, _, rfl, rfl, (hz.mono (by decide)), .inl ⟨by rw [FM.holding_none hg]; rfl, rfl⟩⟩ rfl (may_all hF rfl) hD (List.Sublist.refl _))
      | shift k q hg =>
        refine x_seq (x_drop (e_call hK (a_cons (e_var rfl) a_nil) ⟨some (.tuple _), rfl, rfl, (if_pos (ent_deed _)).symm⟩ (List.nil_sublist _)) (x_nx ?_))
        refine x_let (e_ixU hK (e_var rfl) e_int rfl) ?_
        refine x_seq (x_if (b := false) (EvT.to (t_tst (e_eqS (e_var rfl) e_str)) (by decide)) (fun h => absurd h (by decide)) fun _ => x_next (x_nx ?_))
        refine x_seq (x_if (b := false) (EvT.to (t_tst (e_eqS (e_var rfl) e_str)) (by decide)) (fun h => absurd h (by decide)) fun _ => x_next (x_nx ?_))
        refine x_seq (x_if (b := false) (EvT.to (t_tst (e_eqS (e_var rfl) e_str)) (by decide)) (fun h => absurd h (by decide)) fun _ => x_next (x_nx ?_))
        refine x_seq (x_if (b := false) (EvT.to (t_tst (e_eqS (e_var rfl) e_str)) (by decide)) (fun h => absurd h (by decide)) fun _ => x_next (x_nx ?_))
        refine x_seq (x_if (b := false) (EvT.to (t_tst (e_eqS (e_var rfl) e_str)) (by decide)) (fun h => absurd h (by decide)) fun _ => x_next (x_nx ?_))
        refine x_seq (x_if (b := false) (EvT.to (t_tst (e_eqS (e_var rfl) e_str)) (by decide)) (fun h => absurd h (by decide)) fun _ => x_next (x_nx ?_))
        refine x_seq (x_if (b := true) (EvT.to (t_tst (e_eqS (e_var rfl) e_str)) (by decide)) (fun _ => ?_) (fun h => absurd h (by decide)))
        exact x_retX (ex_meth (ro := false) (m := flo (fC K) a d1 d2 d3 l M) (m' := flo (fC K) a d1 d2 d3 l M) (rest := []) hK (e_var rfl) (List.mem_of_getElem? (i := 0) rfl) rfl (a_cons (e_ixU hK (e_var rfl) e_int rfl) (a_cons (e_ixU hK (e_var rfl) e_int rfl) a_nil)) ⟨a, d1, d2, d3, l, M, _, _, rfl, rfl, (hz.mono (by decide)), .inl ⟨by rw [FM.holding_none hg]; rfl, rfl⟩⟩ rfl (may_all hF rfl) hD (List.Sublist.refl _))
      | sameH k q g hg hne =>
        refine x_seq (x_drop (e_call hK (a_cons (e_var rfl) a_nil) ⟨some (.tuple _), rfl, rfl, (if_pos (ent_deed _)).symm⟩ (List.nil_sublist _)) (x_nx ?_))
        refine x_let (e_ixU hK (e_var rfl) e_int rfl) ?_
        refine x_seq (x_if (b := false) (EvT.to (t_tst (e_eqS (e_var rfl) e_str)) (by decide)) (fun h => absurd h (by decide)) fun _ => x_next (x_nx ?_))
        refine x_seq (x_if (b := false) (EvT.to (t_tst (e_eqS (e_var rfl) e_str)) (by decide)) (fun h => absurd h (by decide)) fun _ => x_next (x_nx ?_))
        refine x_seq (x_if (b := false) (EvT.to (t_tst (e_eqS (e_var rfl) e_str)) (by decide)) (fun h => absurd h (by decide)) fun _ => x_next (x_nx ?_))
        refine x_seq (x_if (b := false) (EvT.to (t_tst (e_eqS (e_var rfl) e_str)) (by decide)) (fun h => absurd h (by decide)) fun _ => x_next (x_nx ?_))
        refine x_seq (x_if (b := false) (EvT.to (t_tst (e_eqS (e_var rfl) e_str)) (by decide)) (fun h => absurd h (by decide)) fun _ => x_next (x_nx ?_))
        refine x_seq (x_if (b := false) (EvT.to (t_tst (e_eqS (e_var rfl) e_str)) (by decide)) (fun h => absurd h (by decide)) fun _ => x_next (x_nx ?_))
        refine x_seq (x_if (b := true) (EvT.to (t_tst (e_eqS (e_var rfl) e_str)) (by decide)) (fun _ => ?_) (fun h => absurd h (by decide)))
        exact x_retX (ex_meth (ro := false) (m := flo (fC K) a d1 d2 d3 l M) (m' := flo (fC K) a d1 d2 d3 l M) (rest := []) hK (e_var rfl) (List.mem_of_getElem? (i := 0) rfl) rfl (a_cons (e_ixU hK (e_var rfl) e_int rfl) (a_cons (e_ixU hK (e_var rfl) e_int rfl) a_nil)) ⟨a, d1, d2, d3, l, M, _, _, rfl, rfl, (hz.mono (by decide)), .inr ⟨_, _, rfl, hg, .inr ⟨_, rfl, (isWh_ok.mpr ⟨_, rfl, (hW.pl _ hok).1, (hW.pl _ hok).2⟩), .inl ⟨hne, rfl⟩⟩⟩⟩ rfl (may_all hF rfl) hD (List.Sublist.refl _))
      | wish w n hf =>
        refine x_seq (x_drop (e_call hK (a_cons (e_var rfl) a_nil) ⟨some (.tuple _), rfl, rfl, (if_pos (ent_deed _)).symm⟩ (List.nil_sublist _)) (x_nx ?_))
        refine x_let (e_ixU hK (e_var rfl) e_int rfl) ?_
        refine x_seq (x_if (b := false) (EvT.to (t_tst (e_eqS (e_var rfl) e_str)) (by decide)) (fun h => absurd h (by decide)) fun _ => x_next (x_nx ?_))
        refine x_seq (x_if (b := false) (EvT.to (t_tst (e_eqS (e_var rfl) e_str)) (by decide)) (fun h => absurd h (by decide)) fun _ => x_next (x_nx ?_))
        refine x_seq (x_if (b := false) (EvT.to (t_tst (e_eqS (e_var rfl) e_str)) (by decide)) (fun h => absurd h (by decide)) fun _ => x_next (x_nx ?_))
        refine x_seq (x_if (b := false) (EvT.to (t_tst (e_eqS (e_var rfl) e_str)) (by decide)) (fun h => absurd h (by decide)) fun _ => x_next (x_nx ?_))
        refine x_seq (x_if (b := false) (EvT.to (t_tst (e_eqS (e_var rfl) e_str)) (by decide)) (fun h => absurd h (by decide)) fun _ => x_next (x_nx ?_))
        refine x_seq (x_if (b := false) (EvT.to (t_tst (e_eqS (e_var rfl) e_str)) (by decide)) (fun h => absurd h (by decide)) fun _ => x_next (x_nx ?_))
        refine x_seq (x_if (b := false) (EvT.to (t_tst (e_eqS (e_var rfl) e_str)) (by decide)) (fun h => absurd h (by decide)) fun _ => x_next (x_nx ?_))
        refine x_seq (x_if (b := false) (EvT.to (t_tst (e_eqS (e_var rfl) e_str)) (by decide)) (fun h => absurd h (by decide)) fun _ => x_next (x_nx ?_))
        exact x_retX (ex_meth (ro := false) (m := flo (fC K) a d1 d2 d3 l M) (m' := flo (fC K) a d1 d2 d3 l M) (rest := []) hK (e_var rfl) (List.mem_of_getElem? (i := 0) rfl) rfl (a_cons (e_ixU hK (e_var rfl) e_int rfl) (a_cons (e_ixU hK (e_var rfl) e_int rfl) a_nil)) ⟨a, d1, d2, d3, l, M, _, _, rfl, rfl, (hW.ws _ hok.1).st, (hGd.wok hW.st), (hz.mono (by decide)), .inr (.inr ⟨_, _, rfl, rfl, hW.ws _ hok.1, (isWh_ok.mpr ⟨_, rfl, hok.2.1, hok.2.2⟩), .inl ⟨hf, rfl⟩⟩)⟩ rfl (may_all hF rfl) hD (List.Sublist.refl _))
  · obtain ⟨a, d1, d2, d3, l, M, c0, c1, x, c, t, rfl, rfl, hGd, hz, hB, rfl⟩ := hG
    cases hB with
    | entry x h =>
      exact x_seq (x_dropX (ex_call (ro := true) (m := []) (m' := []) (rest := flo (fC K) a d1 d2 d3 l M) hK (a_cons (e_var rfl) a_nil) ⟨x, rfl, rfl, (if_neg (by rw [h]; decide)).symm⟩ rfl (fun b hb => nomatch hb) hD (List.Sublist.refl _)))
    | let9 h =>
      refine x_seq (x_drop (e_call hK (a_cons (e_var rfl) a_nil) ⟨some (.tuple _), rfl, rfl, (if_pos (ent_word (r := [_]) wa_let mk_len.2.2.2.2.1)).symm⟩ (List.nil_sublist _)) (x_nx ?_))
      refine x_let (e_ixU hK (e_var rfl) e_int rfl) ?_
      refine x_seq (x_if (b := false) (EvT.to (t_tst (e_eqS (e_var rfl) e_str)) (by decide)) (fun h => absurd h (by decide)) fun _ => x_next (x_nx ?_))
      refine x_seq (x_if (b := false) (EvT.to (t_tst (e_eqS (e_var rfl) e_str)) (by decide)) (fun h => absurd h (by decide)) fun _ => x_next (x_nx ?_))
      refine x_seq (x_if (b := false) (EvT.to (t_tst (e_eqS (e_var rfl) e_str)) (by decide)) (fun h => absurd h (by decide)) fun _ => x_next (x_nx ?_))
      refine x_seq (x_if (b := false) (EvT.to (t_tst (e_eqS (e_var rfl) e_str)) (by decide)) (fun h => absurd h (by decide)) fun _ => x_next (x_nx ?_))
      refine x_seq (x_if (b := true) (EvT.to (t_tst (e_eqS (e_var rfl) e_str)) (by decide)) (fun _ => ?_) (fun h => absurd h (by decide)))
      exact x_retX (ex_meth (ro := false) (m := flo (fC K) a d1 d2 d3 l M) (m' := flo (fC K) a d1 d2 d3 l M) (rest := []) hK (e_var rfl) (List.mem_of_getElem? (i := 0) rfl) rfl (a_cons (e_ixU hK (e_var rfl) e_int rfl) a_nil) ⟨a, d1, d2, d3, l, M, _, rfl, rfl, (hz.mono (by decide)), .inl ⟨by rw [FM.holding_none h]; rfl, rfl⟩⟩ rfl (may_all hF rfl) hD (List.Sublist.refl _))
    | come4 =>
      refine x_seq (x_drop (e_call hK (a_cons (e_var rfl) a_nil) ⟨some (.tuple _), rfl, rfl, (if_pos (ent_word (r := [_, _, _]) wa_come mk_len.1)).symm⟩ (List.nil_sublist _)) (x_nx ?_))
      refine x_let (e_ixU hK (e_var rfl) e_int rfl) ?_
      refine x_seq (x_if (b := true) (EvT.to (t_tst (e_eqS (e_var rfl) e_str)) (by decide)) (fun _ => ?_) (fun h => absurd h (by decide)))
      exact x_retX (ex_meth (ro := false) (m := flo (fC K) a d1 d2 d3 l M) (m' := flo (fC K) a d1 d2 d3 l M) (rest := []) hK (e_var rfl) (List.mem_of_getElem? (i := 0) rfl) rfl (a_cons (e_ixU hK (e_var rfl) e_int rfl) (a_cons (e_ixU hK (e_var rfl) e_int rfl) (a_cons (e_ixU hK (e_var rfl) e_int rfl) a_nil))) ⟨a, d1, d2, d3, l, M, _, _, _, rfl, rfl, (wr_ok c0 0).st, (hz.mono (by decide)), .inr (.inl ⟨(isWareB_ok.mpr ⟨_, rfl, wr_ok c0 0⟩), (by decide +kernel), rfl⟩)⟩ rfl (may_all hF rfl) hD (List.Sublist.refl _))
    | wish7 =>
      refine x_seq (x_drop (e_call hK (a_cons (e_var rfl) a_nil) ⟨some (.tuple _), rfl, rfl, (if_pos (ent_word (r := [_, _]) wa_wish mk_len.2.2.2.2.2.2.2.2)).symm⟩ (List.nil_sublist _)) (x_nx ?_))
      refine x_let (e_ixU hK (e_var rfl) e_int rfl) ?_
      refine x_seq (x_if (b := false) (EvT.to (t_tst (e_eqS (e_var rfl) e_str)) (by decide)) (fun h => absurd h (by decide)) fun _ => x_next (x_nx ?_))
      refine x_seq (x_if (b := false) (EvT.to (t_tst (e_eqS (e_var rfl) e_str)) (by decide)) (fun h => absurd h (by decide)) fun _ => x_next (x_nx ?_))
      refine x_seq (x_if (b := false) (EvT.to (t_tst (e_eqS (e_var rfl) e_str)) (by decide)) (fun h => absurd h (by decide)) fun _ => x_next (x_nx ?_))
      refine x_seq (x_if (b := false) (EvT.to (t_tst (e_eqS (e_var rfl) e_str)) (by decide)) (fun h => absurd h (by decide)) fun _ => x_next (x_nx ?_))
      refine x_seq (x_if (b := false) (EvT.to (t_tst (e_eqS (e_var rfl) e_str)) (by decide)) (fun h => absurd h (by decide)) fun _ => x_next (x_nx ?_))
      refine x_seq (x_if (b := false) (EvT.to (t_tst (e_eqS (e_var rfl) e_str)) (by decide)) (fun h => absurd h (by decide)) fun _ => x_next (x_nx ?_))
      refine x_seq (x_if (b := false) (EvT.to (t_tst (e_eqS (e_var rfl) e_str)) (by decide)) (fun h => absurd h (by decide)) fun _ => x_next (x_nx ?_))
      refine x_seq (x_if (b := false) (EvT.to (t_tst (e_eqS (e_var rfl) e_str)) (by decide)) (fun h => absurd h (by decide)) fun _ => x_next (x_nx ?_))
      exact x_retX (ex_meth (ro := false) (m := flo (fC K) a d1 d2 d3 l M) (m' := flo (fC K) a d1 d2 d3 l M) (rest := []) hK (e_var rfl) (List.mem_of_getElem? (i := 0) rfl) rfl (a_cons (e_ixU hK (e_var rfl) e_int rfl) (a_cons (e_ixU hK (e_var rfl) e_int rfl) a_nil)) ⟨a, d1, d2, d3, l, M, _, _, rfl, rfl, w7_st c0, (hGd.wok (wld c0 c1).st), (hz.mono (by decide)), .inl ⟨w7_no c0, rfl⟩⟩ rfl (may_all hF rfl) hD (List.Sublist.refl _))
    | shift9 h =>
      refine x_seq (x_drop (e_call hK (a_cons (e_var rfl) a_nil) ⟨some (.tuple _), rfl, rfl, (if_pos (ent_word (r := [_, _]) wa_shift mk_len.2.2.2.2.2.2.1)).symm⟩ (List.nil_sublist _)) (x_nx ?_))
      refine x_let (e_ixU hK (e_var rfl) e_int rfl) ?_
      refine x_seq (x_if (b := false) (EvT.to (t_tst (e_eqS (e_var rfl) e_str)) (by decide)) (fun h => absurd h (by decide)) fun _ => x_next (x_nx ?_))
      refine x_seq (x_if (b := false) (EvT.to (t_tst (e_eqS (e_var rfl) e_str)) (by decide)) (fun h => absurd h (by decide)) fun _ => x_next (x_nx ?_))
      refine x_seq (x_if (b := false) (EvT.to (t_tst (e_eqS (e_var rfl) e_str)) (by decide)) (fun h => absurd h (by decide)) fun _ => x_next (x_nx ?_))
      refine x_seq (x_if (b := false) (EvT.to (t_tst (e_eqS (e_var rfl) e_str)) (by decide)) (fun h => absurd h (by decide)) fun _ => x_next (x_nx ?_))
      refine x_seq (x_if (b := false) (EvT.to (t_tst (e_eqS (e_var rfl) e_str)) (by decide)) (fun h => absurd h (by decide)) fun _ => x_next (x_nx ?_))
      refine x_seq (x_if (b := false) (EvT.to (t_tst (e_eqS (e_var rfl) e_str)) (by decide)) (fun h => absurd h (by decide)) fun _ => x_next (x_nx ?_))
      refine x_seq (x_if (b := true) (EvT.to (t_tst (e_eqS (e_var rfl) e_str)) (by decide)) (fun _ => ?_) (fun h => absurd h (by decide)))
      exact x_retX (ex_meth (ro := false) (m := flo (fC K) a d1 d2 d3 l M) (m' := flo (fC K) a d1 d2 d3 l M) (rest := []) hK (e_var rfl) (List.mem_of_getElem? (i := 0) rfl) rfl (a_cons (e_ixU hK (e_var rfl) e_int rfl) (a_cons (e_ixU hK (e_var rfl) e_int rfl) a_nil)) ⟨a, d1, d2, d3, l, M, _, _, rfl, rfl, (hz.mono (by decide)), .inl ⟨by rw [FM.holding_none h]; rfl, rfl⟩⟩ rfl (may_all hF rfl) hD (List.Sublist.refl _))
    | go5 h =>
      refine x_seq (x_drop (e_call hK (a_cons (e_var rfl) a_nil) ⟨some (.tuple _), rfl, rfl, (if_pos (ent_word (r := [_, _, _]) wa_go mk_len.2.1)).symm⟩ (List.nil_sublist _)) (x_nx ?_))
      refine x_let (e_ixU hK (e_var rfl) e_int rfl) ?_
      refine x_seq (x_if (b := false) (EvT.to (t_tst (e_eqS (e_var rfl) e_str)) (by decide)) (fun h => absurd h (by decide)) fun _ => x_next (x_nx ?_))
      refine x_seq (x_if (b := true) (EvT.to (t_tst (e_eqS (e_var rfl) e_str)) (by decide)) (fun _ => ?_) (fun h => absurd h (by decide)))
      exact x_retX (ex_meth (ro := false) (m := flo (fC K) a d1 d2 d3 l M) (m' := flo (fC K) a d1 d2 d3 l M) (rest := []) hK (e_var rfl) (List.mem_of_getElem? (i := 0) rfl) rfl (a_cons (e_ixU hK (e_var rfl) e_int rfl) (a_cons (e_ixU hK (e_var rfl) e_int rfl) (a_cons (e_ixU hK (e_var rfl) e_int rfl) a_nil))) ⟨a, d1, d2, d3, l, M, _, _, _, rfl, rfl, (wz_ok c0).st, (hGd.wok (wld c0 c1).st), (hz.mono (by decide)), .inr (.inr (.inr (.inl ⟨5, _, 1, rfl, rfl, rfl, wz_ok c0, (by decide +kernel), (by decide +kernel), h, rfl⟩)))⟩ rfl (may_all hF rfl) hD (List.Sublist.refl _))
    | wishZ h =>
      refine x_seq (x_drop (e_call hK (a_cons (e_var rfl) a_nil) ⟨some (.tuple _), rfl, rfl, (if_pos (ent_word (r := [_, _]) wa_wish mk_len.2.2.2.2.2.2.2.2)).symm⟩ (List.nil_sublist _)) (x_nx ?_))
      refine x_let (e_ixU hK (e_var rfl) e_int rfl) ?_
      refine x_seq (x_if (b := false) (EvT.to (t_tst (e_eqS (e_var rfl) e_str)) (by decide)) (fun h => absurd h (by decide)) fun _ => x_next (x_nx ?_))
      refine x_seq (x_if (b := false) (EvT.to (t_tst (e_eqS (e_var rfl) e_str)) (by decide)) (fun h => absurd h (by decide)) fun _ => x_next (x_nx ?_))
      refine x_seq (x_if (b := false) (EvT.to (t_tst (e_eqS (e_var rfl) e_str)) (by decide)) (fun h => absurd h (by decide)) fun _ => x_next (x_nx ?_))
      refine x_seq (x_if (b := false) (EvT.to (t_tst (e_eqS (e_var rfl) e_str)) (by decide)) (fun h => absurd h (by decide)) fun _ => x_next (x_nx ?_))
      refine x_seq (x_if (b := false) (EvT.to (t_tst (e_eqS (e_var rfl) e_str)) (by decide)) (fun h => absurd h (by decide)) fun _ => x_next (x_nx ?_))
      refine x_seq (x_if (b := false) (EvT.to (t_tst (e_eqS (e_var rfl) e_str)) (by decide)) (fun h => absurd h (by decide)) fun _ => x_next (x_nx ?_))
      refine x_seq (x_if (b := false) (EvT.to (t_tst (e_eqS (e_var rfl) e_str)) (by decide)) (fun h => absurd h (by decide)) fun _ => x_next (x_nx ?_))
      refine x_seq (x_if (b := false) (EvT.to (t_tst (e_eqS (e_var rfl) e_str)) (by decide)) (fun h => absurd h (by decide)) fun _ => x_next (x_nx ?_))
      exact x_retX (ex_meth (ro := false) (m := flo (fC K) a d1 d2 d3 l M) (m' := flo (fC K) a d1 d2 d3 l M) (rest := []) hK (e_var rfl) (List.mem_of_getElem? (i := 0) rfl) rfl (a_cons (e_ixU hK (e_var rfl) e_int rfl) (a_cons (e_ixU hK (e_var rfl) e_int rfl) a_nil)) ⟨a, d1, d2, d3, l, M, _, _, rfl, rfl, (wz_ok c0).st, (hGd.wok (wld c0 c1).st), (hz.mono (by decide)), .inr (.inr ⟨_, 2, rfl, rfl, wz_ok c0, (by decide +kernel), .inl ⟨h, rfl⟩⟩)⟩ rfl (may_all hF rfl) hD (List.Sublist.refl _))
    | move3 =>
      refine x_seq (x_drop (e_call hK (a_cons (e_var rfl) a_nil) ⟨some (.tuple _), rfl, rfl, (if_pos (ent_word (r := [_, _, _, _]) wa_move mk_len.2.2.1)).symm⟩ (List.nil_sublist _)) (x_nx ?_))
      refine x_let (e_ixU hK (e_var rfl) e_int rfl) ?_
      refine x_seq (x_if (b := false) (EvT.to (t_tst (e_eqS (e_var rfl) e_str)) (by decide)) (fun h => absurd h (by decide)) fun _ => x_next (x_nx ?_))
      refine x_seq (x_if (b := false) (EvT.to (t_tst (e_eqS (e_var rfl) e_str)) (by decide)) (fun h => absurd h (by decide)) fun _ => x_next (x_nx ?_))
      refine x_seq (x_if (b := true) (EvT.to (t_tst (e_eqS (e_var rfl) e_str)) (by decide)) (fun _ => ?_) (fun h => absurd h (by decide)))
      exact x_retX (ex_meth (ro := false) (m := flo (fC K) a d1 d2 d3 l M) (m' := flo (fC K) a d1 d2 d3 l M) (rest := []) hK (e_var rfl) (List.mem_of_getElem? (i := 0) rfl) rfl (a_cons (e_ixU hK (e_var rfl) e_int rfl) (a_cons (e_ixU hK (e_var rfl) e_int rfl) (a_cons (e_ixU hK (e_var rfl) e_int rfl) (a_cons (e_ixU hK (e_var rfl) e_int rfl) a_nil)))) ⟨a, d1, d2, d3, l, M, _, _, _, _, rfl, rfl, (wr_ok c0 0).st, (hGd.wok (wld c0 c1).st), (hz.mono (by decide)), .inr (.inr (.inr ⟨3, 3, _, rfl, rfl, rfl, wr_ok c0 0, (by decide +kernel), (by decide +kernel), .inl ⟨rfl, rfl⟩⟩))⟩ rfl (may_all hF rfl) hD (List.Sublist.refl _))
    | come0 =>
      refine x_seq (x_drop (e_call hK (a_cons (e_var rfl) a_nil) ⟨some (.tuple _), rfl, rfl, (if_pos (ent_word (r := [_, _, _]) wa_come mk_len.1)).symm⟩ (List.nil_sublist _)) (x_nx ?_))
      refine x_let (e_ixU hK (e_var rfl) e_int rfl) ?_
      refine x_seq (x_if (b := true) (EvT.to (t_tst (e_eqS (e_var rfl) e_str)) (by decide)) (fun _ => ?_) (fun h => absurd h (by decide)))
      exact x_retX (ex_meth (ro := false) (m := flo (fC K) a d1 d2 d3 l M) (m' := flo (fC K) a d1 d2 d3 l M) (rest := []) hK (e_var rfl) (List.mem_of_getElem? (i := 0) rfl) rfl (a_cons (e_ixU hK (e_var rfl) e_int rfl) (a_cons (e_ixU hK (e_var rfl) e_int rfl) (a_cons (e_ixU hK (e_var rfl) e_int rfl) a_nil))) ⟨a, d1, d2, d3, l, M, _, _, _, rfl, rfl, (wr_ok c0 0).st, (hz.mono (by decide)), .inr (.inr (.inl ⟨(isWareB_ok.mpr ⟨_, rfl, wr_ok c0 0⟩), (by decide +kernel), (by decide +kernel), rfl⟩))⟩ rfl (may_all hF rfl) hD (List.Sublist.refl _))
theorem sc__law_do : FnScope ["_law_floor", "_law_entry", "_law_word"] ["_law_floor", "_law_entry"] (defScope s__law_do) := ⟨rfl, rfl, rfl, by decide +kernel, rfl, by decide +kernel, by decide +kernel⟩
def g__law_do (K : PySem.W.Frag) (as : List Sv) (m : Mu) (o : Oc) : Prop := ∃ (a d1 d2 d3 l : Addr) (M : FM) (e : Deed) (Pl : List Int) (Ws : List Str), as = [.r (.ref a), dU e.data] ∧ m = flo (fC K) a d1 d2 d3 l M ∧ Wld Pl Ws ∧ Good Pl Ws M ∧ e.ok Pl Ws ∧ M.sz 39000 ∧ ((∃ d M', Step M e d M' ∧ o = .ret (.d d) (flo (fC K) a d1 d2 d3 l M')) ∨ ∃ c, Ref M e c ∧ o = .exc (He.ga K c) (flo (fC K) a d1 d2 d3 l M))
theorem ok__law_do {P : Program} {w : World} {K : PySem.W.Frag} {mg : Str → Option Value} {base : Heap} (T : Tx K mg w) (c : He.SaysD fa fn K) : FnB P w K mg base 5 (He.fAd K ("_law_do", none)) ["_law_floor", "_law_entry"] (spG K 2 false (g__law_do K)) := by
  obtain ⟨fd_Floor_wish, g_Floor_wish, b_Floor_wish, k_Floor_wish⟩ := ok_Floor_wish (P := P) (w := w) (base := base) T c
  obtain ⟨fd_Floor_come, g_Floor_come, b_Floor_come, k_Floor_come⟩ := ok_Floor_come (P := P) (w := w) (base := base) T c
  obtain ⟨fd_Floor_go, g_Floor_go, b_Floor_go, k_Floor_go⟩ := ok_Floor_go (P := P) (w := w) (base := base) T c
  obtain ⟨fd_Floor_move, g_Floor_move, b_Floor_move, k_Floor_move⟩ := ok_Floor_move (P := P) (w := w) (base := base) T c
  obtain ⟨fd_Floor_hold, g_Floor_hold, b_Floor_hold, k_Floor_hold⟩ := ok_Floor_hold (P := P) (w := w) (base := base) T c
  obtain ⟨fd_Floor_let, g_Floor_let, b_Floor_let, k_Floor_let⟩ := ok_Floor_let (P := P) (w := w) (base := base) T c
  obtain ⟨fd_Floor_take, g_Floor_take, b_Floor_take, k_Floor_take⟩ := ok_Floor_take (P := P) (w := w) (base := base) T c
  obtain ⟨fd_Floor_shift, g_Floor_shift, b_Floor_shift, k_Floor_shift⟩ := ok_Floor_shift (P := P) (w := w) (base := base) T c
  obtain ⟨fd_Floor_counted, g_Floor_counted, b_Floor_counted, k_Floor_counted⟩ := ok_Floor_counted (P := P) (w := w) (base := base) T c
  obtain ⟨fd, F⟩ := c.def_ 46 (d := d__law_do) rfl
  refine ⟨fd, fn_ok F sc__law_do rfl fun cdv A outer s H E hr => ⟨_, (pss_cons (ps_set (i := 2) sc__law_do.nd rfl (Or.inl rfl) (pe_ix (ix_tup' (K := K) rfl) (pv 1) pe_int (fun _ _ => rfl)))
    (pss_cons (ps_if (pt_cmpR op_eq (pv 2) pe_str (nomark _)) (pss_one (ps_ret (pe_meth (pv 0) T.cl_Floor T.mt_come g_Floor_come (hr.mono (by decide)) b_Floor_come .nil (passes_call (takes_of rfl rfl rfl rfl) (fun _ _ _ _ z => z)) (pa_cons (pe_ix (ix_tup' (K := K) rfl) (pv 1) pe_int (fun _ _ => rfl)) (pa_cons (pe_ix (ix_tup' (K := K) rfl) (pv 1) pe_int (fun _ _ => rfl)) (pa_cons (pe_ix (ix_tup' (K := K) rfl) (pv 1) pe_int (fun _ _ => rfl)) pa_nil)))))) pss_nil)
    (pss_cons (ps_if (pt_cmpR op_eq (pv 2) pe_str (nomark _)) (pss_one (ps_ret (pe_meth (pv 0) T.cl_Floor T.mt_go g_Floor_go (hr.mono (by decide)) b_Floor_go .nil (passes_call (takes_of rfl rfl rfl rfl) (fun _ _ _ _ z => z)) (pa_cons (pe_ix (ix_tup' (K := K) rfl) (pv 1) pe_int (fun _ _ => rfl)) (pa_cons (pe_ix (ix_tup' (K := K) rfl) (pv 1) pe_int (fun _ _ => rfl)) (pa_cons (pe_ix (ix_tup' (K := K) rfl) (pv 1) pe_int (fun _ _ => rfl)) pa_nil)))))) pss_nil)
    (pss_cons (ps_if (pt_cmpR op_eq (pv 2) pe_str (nomark _)) (pss_one (ps_ret (pe_meth (pv 0) T.cl_Floor T.mt_move g_Floor_move (hr.mono (by decide)) b_Floor_move .nil (passes_call (takes_of rfl rfl rfl rfl) (fun _ _ _ _ z => z)) (pa_cons (pe_ix (ix_tup' (K := K) rfl) (pv 1) pe_int (fun _ _ => rfl)) (pa_cons (pe_ix (ix_tup' (K := K) rfl) (pv 1) pe_int (fun _ _ => rfl)) (pa_cons (pe_ix (ix_tup' (K := K) rfl) (pv 1) pe_int (fun _ _ => rfl)) (pa_cons (pe_ix (ix_tup' (K := K) rfl) (pv 1) pe_int (fun _ _ => rfl)) pa_nil))))))) pss_nil)
    (pss_cons (ps_if (pt_cmpR op_eq (pv 2) pe_str (nomark _)) (pss_one (ps_ret (pe_meth (pv 0) T.cl_Floor T.mt_hold g_Floor_hold (hr.mono (by decide)) b_Floor_hold .nil (passes_call (takes_of rfl rfl rfl rfl) (fun _ _ _ _ z => z)) (pa_cons (pe_ix (ix_tup' (K := K) rfl) (pv 1) pe_int (fun _ _ => rfl)) (pa_cons (pe_ix (ix_tup' (K := K) rfl) (pv 1) pe_int (fun _ _ => rfl)) (pa_cons (pe_ix (ix_tup' (K := K) rfl) (pv 1) pe_int (fun _ _ => rfl)) pa_nil)))))) pss_nil)
    (pss_cons (ps_if (pt_cmpR op_eq (pv 2) pe_str (nomark _)) (pss_one (ps_ret (pe_meth (pv 0) T.cl_Floor T.mt_let g_Floor_let (hr.mono (by decide)) b_Floor_let .nil (passes_call (takes_of rfl rfl rfl rfl) (fun _ _ _ _ z => z)) (pa_cons (pe_ix (ix_tup' (K := K) rfl) (pv 1) pe_int (fun _ _ => rfl)) pa_nil)))) pss_nil)
    (pss_cons (ps_if (pt_cmpR op_eq (pv 2) pe_str (nomark _)) (pss_one (ps_ret (pe_meth (pv 0) T.cl_Floor T.mt_take g_Floor_take (hr.mono (by decide)) b_Floor_take .nil (passes_call (takes_of rfl rfl rfl rfl) (fun _ _ _ _ z => z)) (pa_cons (pe_ix (ix_tup' (K := K) rfl) (pv 1) pe_int (fun _ _ => rfl)) pa_nil)))) pss_nil)
    (pss_cons (ps_if (pt_cmpR op_eq (pv 2) pe_str (nomark _)) (pss_one (ps_ret (pe_meth (pv 0) T.cl_Floor T.mt_shift g_Floor_shift (hr.mono (by decide)) b_Floor_shift .nil (passes_call (takes_of rfl rfl rfl rfl) (fun _ _ _ _ z => z)) (pa_cons (pe_ix (ix_tup' (K := K) rfl) (pv 1) pe_int (fun _ _ => rfl)) (pa_cons (pe_ix (ix_tup' (K := K) rfl) (pv 1) pe_int (fun _ _ => rfl)) pa_nil))))) pss_nil)
    (pss_cons (ps_if (pt_cmpR op_eq (pv 2) pe_str (nomark _)) (pss_one (ps_ret (pe_meth (pv 0) T.cl_Floor T.mt_counted g_Floor_counted (hr.mono (by decide)) b_Floor_counted .nil (passes_call (takes_of rfl rfl rfl rfl) (fun _ _ _ _ z => z)) (pa_cons (pe_ix (ix_tup' (K := K) rfl) (pv 1) pe_int (fun _ _ => rfl)) (pa_cons (pe_ix (ix_tup' (K := K) rfl) (pv 1) pe_int (fun _ _ => rfl)) (pa_cons (pe_ix (ix_tup' (K := K) rfl) (pv 1) pe_int (fun _ _ => rfl)) pa_nil)))))) pss_nil)
    (pss_one (ps_ret (pe_meth (pv 0) T.cl_Floor T.mt_wish g_Floor_wish (hr.mono (by decide)) b_Floor_wish .nil (passes_call (takes_of rfl rfl rfl rfl) (fun _ _ _ _ z => z)) (pa_cons (pe_ix (ix_tup' (K := K) rfl) (pv 1) pe_int (fun _ _ => rfl)) (pa_cons (pe_ix (ix_tup' (K := K) rfl) (pv 1) pe_int (fun _ _ => rfl)) pa_nil)))))))))))))), ?_⟩, FunD.bindsN F (fun _ _ _ _ _ _ us hl => match us, hl with | [_, _], _ => rfl), F.kp⟩
  intro Γ as m o D hK hF hO hn hG hnx hD
  try dsimp only [cxOf]
  obtain ⟨a, d1, d2, d3, l, M, e, Pl, Ws, rfl, rfl, hW, hGd, hok, hz, ⟨d, M', hs, rfl⟩ | ⟨c, hr, rfl⟩⟩ := hG
  · cases hs with
    | come p w n =>
      refine x_let (e_ixU hK (e_var rfl) e_int rfl) ?_
      refine x_seq (x_if (b := true) (EvT.to (t_tst (e_eqS (e_var rfl) e_str)) (by decide)) (fun _ => ?_) (fun h => absurd h (by decide)))
      exact x_ret (E := E) (e_methM0 (m := flo (fC K) a d1 d2 d3 l M) hK (e_var rfl) (List.mem_of_getElem? (i := 0) rfl) rfl (a_cons (e_ixU hK (e_var rfl) e_int rfl) (a_cons (e_ixU hK (e_var rfl) e_int rfl) (a_cons (e_ixU hK (e_var rfl) e_int rfl) a_nil))) ⟨a, d1, d2, d3, l, M, _, _, _, rfl, rfl, (hW.ws _ hok.2.1).st, (hz.mono (by decide)), .inr (.inr (.inr ⟨_, _, _, rfl, rfl, rfl, hW.ws _ hok.2.1, (isWh_ok.mpr ⟨_, rfl, (hW.pl _ hok.1).1, (hW.pl _ hok.1).2⟩), (isWh_ok.mpr ⟨_, rfl, hok.2.2.1, hok.2.2.2⟩), rfl⟩))⟩ rfl (may_all hF rfl)) hD (List.Sublist.refl _)
    | go p w n hf =>
      refine x_let (e_ixU hK (e_var rfl) e_int rfl) ?_
      refine x_seq (x_if (b := false) (EvT.to (t_tst (e_eqS (e_var rfl) e_str)) (by decide)) (fun h => absurd h (by decide)) fun _ => x_next (x_nx ?_))
      refine x_seq (x_if (b := true) (EvT.to (t_tst (e_eqS (e_var rfl) e_str)) (by decide)) (fun _ => ?_) (fun h => absurd h (by decide)))
      exact x_ret (E := E) (e_methM0 (m := flo (fC K) a d1 d2 d3 l M) hK (e_var rfl) (List.mem_of_getElem? (i := 0) rfl) rfl (a_cons (e_ixU hK (e_var rfl) e_int rfl) (a_cons (e_ixU hK (e_var rfl) e_int rfl) (a_cons (e_ixU hK (e_var rfl) e_int rfl) a_nil))) ⟨a, d1, d2, d3, l, M, _, _, _, rfl, rfl, (hW.ws _ hok.2.1).st, (hGd.wok hW.st), (hz.mono (by decide)), .inr (.inr (.inr (.inr ⟨_, _, _, rfl, rfl, rfl, hW.ws _ hok.2.1, (isWh_ok.mpr ⟨_, rfl, (hW.pl _ hok.1).1, (hW.pl _ hok.1).2⟩), (isWh_ok.mpr ⟨_, rfl, hok.2.2.1, hok.2.2.2⟩), hf, rfl⟩)))⟩ rfl (may_all hF rfl)) hD (List.Sublist.refl _)
    | move p q w n hpq hf =>
      refine x_let (e_ixU hK (e_var rfl) e_int rfl) ?_
      refine x_seq (x_if (b := false) (EvT.to (t_tst (e_eqS (e_var rfl) e_str)) (by decide)) (fun h => absurd h (by decide)) fun _ => x_next (x_nx ?_))
      refine x_seq (x_if (b := false) (EvT.to (t_tst (e_eqS (e_var rfl) e_str)) (by decide)) (fun h => absurd h (by decide)) fun _ => x_next (x_nx ?_))
      refine x_seq (x_if (b := true) (EvT.to (t_tst (e_eqS (e_var rfl) e_str)) (by decide)) (fun _ => ?_) (fun h => absurd h (by decide)))
      exact x_ret (E := E) (e_methM0 (m := flo (fC K) a d1 d2 d3 l M) hK (e_var rfl) (List.mem_of_getElem? (i := 0) rfl) rfl (a_cons (e_ixU hK (e_var rfl) e_int rfl) (a_cons (e_ixU hK (e_var rfl) e_int rfl) (a_cons (e_ixU hK (e_var rfl) e_int rfl) (a_cons (e_ixU hK (e_var rfl) e_int rfl) a_nil)))) ⟨a, d1, d2, d3, l, M, _, _, _, _, rfl, rfl, (hW.ws _ hok.2.2.1).st, (hGd.wok hW.st), (hz.mono (by decide)), .inr (.inr (.inr ⟨_, _, _, rfl, rfl, rfl, hW.ws _ hok.2.2.1, (isWh_ok.mpr ⟨_, rfl, (hW.pl _ hok.1).1, (hW.pl _ hok.1).2⟩), (isWh_ok.mpr ⟨_, rfl, (hW.pl _ hok.2.1).1, (hW.pl _ hok.2.1).2⟩), .inr (.inr ⟨_, rfl, hpq, (isWh_ok.mpr ⟨_, rfl, hok.2.2.2.1, hok.2.2.2.2⟩), .inr ⟨hf, rfl⟩⟩)⟩))⟩ rfl (may_all hF rfl)) hD (List.Sublist.refl _)
    | hold p w n hf =>
      refine x_let (e_ixU hK (e_var rfl) e_int rfl) ?_
      refine x_seq (x_if (b := false) (EvT.to (t_tst (e_eqS (e_var rfl) e_str)) (by decide)) (fun h => absurd h (by decide)) fun _ => x_next (x_nx ?_))
      refine x_seq (x_if (b := false) (EvT.to (t_tst (e_eqS (e_var rfl) e_str)) (by decide)) (fun h => absurd h (by decide)) fun _ => x_next (x_nx ?_))
      refine x_seq (x_if (b := false) (EvT.to (t_tst (e_eqS (e_var rfl) e_str)) (by decide)) (fun h => absurd h (by decide)) fun _ => x_next (x_nx ?_))
      refine x_seq (x_if (b := true) (EvT.to (t_tst (e_eqS (e_var rfl) e_str)) (by decide)) (fun _ => ?_) (fun h => absurd h (by decide)))
      exact x_ret (E := E) (e_methM0 (m := flo (fC K) a d1 d2 d3 l M) hK (e_var rfl) (List.mem_of_getElem? (i := 0) rfl) rfl (a_cons (e_ixU hK (e_var rfl) e_int rfl) (a_cons (e_ixU hK (e_var rfl) e_int rfl) (a_cons (e_ixU hK (e_var rfl) e_int rfl) a_nil))) ⟨a, d1, d2, d3, l, M, _, _, _, rfl, rfl, (hW.ws _ hok.2.1).st, (hGd.wok hW.st), (hz.mono (by decide)), .inr (.inr (.inr (.inr ⟨_, _, _, rfl, rfl, rfl, hW.ws _ hok.2.1, (isWh_ok.mpr ⟨_, rfl, (hW.pl _ hok.1).1, (hW.pl _ hok.1).2⟩), (isWh_ok.mpr ⟨_, rfl, hok.2.2.1, hok.2.2.2⟩), hf, rfl⟩)))⟩ rfl (may_all hF rfl)) hD (List.Sublist.refl _)
    | let' k g hg =>
      refine x_let (e_ixU hK (e_var rfl) e_int rfl) ?_
      refine x_seq (x_if (b := false) (EvT.to (t_tst (e_eqS (e_var rfl) e_str)) (by decide)) (fun h => absurd h (by decide)) fun _ => x_next (x_nx ?_))
      refine x_seq (x_if (b := false) (EvT.to (t_tst (e_eqS (e_var rfl) e_str)) (by decide)) (fun h => absurd h (by decide)) fun _ => x_next (x_nx ?_))
      refine x_seq (x_if (b := false) (EvT.to (t_tst (e_eqS (e_var rfl) e_str)) (by decide)) (fun h => absurd h (by decide)) fun _ => x_next (x_nx ?_))
      refine x_seq (x_if (b := false) (EvT.to (t_tst (e_eqS (e_var rfl) e_str)) (by decide)) (fun h => absurd h (by decide)) fun _ => x_next (x_nx ?_))
      refine x_seq (x_if (b := true) (EvT.to (t_tst (e_eqS (e_var rfl) e_str)) (by decide)) (fun _ => ?_) (fun h => absurd h (by decide)))
      exact x_ret (E := E) (e_methM0 (m := flo (fC K) a d1 d2 d3 l M) hK (e_var rfl) (List.mem_of_getElem? (i := 0) rfl) rfl (a_cons (e_ixU hK (e_var rfl) e_int rfl) a_nil) ⟨a, d1, d2, d3, l, M, _, rfl, rfl, (hz.mono (by decide)), .inr ⟨_, _, rfl, hg, rfl⟩⟩ rfl (may_all hF rfl)) hD (List.Sublist.refl _)
    | take k g hg =>
      refine x_let (e_ixU hK (e_var rfl) e_int rfl) ?_
      refine x_seq (x_if (b := false) (EvT.to (t_tst (e_eqS (e_var rfl) e_str)) (by decide)) (fun h => absurd h (by decide)) fun _ => x_next (x_nx ?_))
      refine x_seq (x_if (b := false) (EvT.to (t_tst (e_eqS (e_var rfl) e_str)) (by decide)) (fun h => absurd h (by decide)) fun _ => x_next (x_nx ?_))
      refine x_seq (x_if (b := false) (EvT.to (t_tst (e_eqS (e_var rfl) e_str)) (by decide)) (fun h => absurd h (by decide)) fun _ => x_next (x_nx ?_))
      refine x_seq (x_if (b := false) (EvT.to (t_tst (e_eqS (e_var rfl) e_str)) (by decide)) (fun h => absurd h (by decide)) fun _ => x_next (x_nx ?_))
      refine x_seq (x_if (b := false) (EvT.to (t_tst (e_eqS (e_var rfl) e_str)) (by decide)) (fun h => absurd h (by decide)) fun _ => x_next (x_nx ?_))
      refine x_seq (x_if (b := true) (EvT.to (t_tst (e_eqS (e_var rfl) e_str)) (by decide)) (fun _ => ?_) (fun h => absurd h (by decide)))
      exact x_ret (E := E) (e_methM0 (m := flo (fC K) a d1 d2 d3 l M) hK (e_var rfl) (List.mem_of_getElem? (i := 0) rfl) rfl (a_cons (e_ixU hK (e_var rfl) e_int rfl) a_nil) ⟨a, d1, d2, d3, l, M, _, rfl, rfl, (hz.mono (by decide)), .inr ⟨_, _, rfl, hg, rfl⟩⟩ rfl (may_all hF rfl)) hD (List.Sublist.refl _)
    | shift k q g hg hne =>
      refine x_let (e_ixU hK (e_var rfl) e_int rfl) ?_
      refine x_seq (x_if (b := false) (EvT.to (t_tst (e_eqS (e_var rfl) e_str)) (by decide)) (fun h => absurd h (by decide)) fun _ => x_next (x_nx ?_))
      refine x_seq (x_if (b := false) (EvT.to (t_tst (e_eqS (e_var rfl) e_str)) (by decide)) (fun h => absurd h (by decide)) fun _ => x_next (x_nx ?_))
      refine x_seq (x_if (b := false) (EvT.to (t_tst (e_eqS (e_var rfl) e_str)) (by decide)) (fun h => absurd h (by decide)) fun _ => x_next (x_nx ?_))
      refine x_seq (x_if (b := false) (EvT.to (t_tst (e_eqS (e_var rfl) e_str)) (by decide)) (fun h => absurd h (by decide)) fun _ => x_next (x_nx ?_))
      refine x_seq (x_if (b := false) (EvT.to (t_tst (e_eqS (e_var rfl) e_str)) (by decide)) (fun h => absurd h (by decide)) fun _ => x_next (x_nx ?_))
      refine x_seq (x_if (b := false) (EvT.to (t_tst (e_eqS (e_var rfl) e_str)) (by decide)) (fun h => absurd h (by decide)) fun _ => x_next (x_nx ?_))
      refine x_seq (x_if (b := true) (EvT.to (t_tst (e_eqS (e_var rfl) e_str)) (by decide)) (fun _ => ?_) (fun h => absurd h (by decide)))
      exact x_ret (E := E) (e_methM0 (m := flo (fC K) a d1 d2 d3 l M) hK (e_var rfl) (List.mem_of_getElem? (i := 0) rfl) rfl (a_cons (e_ixU hK (e_var rfl) e_int rfl) (a_cons (e_ixU hK (e_var rfl) e_int rfl) a_nil)) ⟨a, d1, d2, d3, l, M, _, _, rfl, rfl, (hz.mono (by decide)), .inr ⟨_, _, rfl, hg, .inr ⟨_, rfl, (isWh_ok.mpr ⟨_, rfl, (hW.pl _ hok).1, (hW.pl _ hok).2⟩), .inr ⟨hne, rfl⟩⟩⟩⟩ rfl (may_all hF rfl)) hD (List.Sublist.refl _)
    | counted p w n =>
      refine x_let (e_ixU hK (e_var rfl) e_int rfl) ?_
      refine x_seq (x_if (b := false) (EvT.to (t_tst (e_eqS (e_var rfl) e_str)) (by decide)) (fun h => absurd h (by decide)) fun _ => x_next (x_nx ?_))
      refine x_seq (x_if (b := false) (EvT.to (t_tst (e_eqS (e_var rfl) e_str)) (by decide)) (fun h => absurd h (by decide)) fun _ => x_next (x_nx ?_))
      refine x_seq (x_if (b := false) (EvT.to (t_tst (e_eqS (e_var rfl) e_str)) (by decide)) (fun h => absurd h (by decide)) fun _ => x_next (x_nx ?_))
      refine x_seq (x_if (b := false) (EvT.to (t_tst (e_eqS (e_var rfl) e_str)) (by decide)) (fun h => absurd h (by decide)) fun _ => x_next (x_nx ?_))
      refine x_seq (x_if (b := false) (EvT.to (t_tst (e_eqS (e_var rfl) e_str)) (by decide)) (fun h => absurd h (by decide)) fun _ => x_next (x_nx ?_))
      refine x_seq (x_if (b := false) (EvT.to (t_tst (e_eqS (e_var rfl) e_str)) (by decide)) (fun h => absurd h (by decide)) fun _ => x_next (x_nx ?_))
      refine x_seq (x_if (b := false) (EvT.to (t_tst (e_eqS (e_var rfl) e_str)) (by decide)) (fun h => absurd h (by decide)) fun _ => x_next (x_nx ?_))
      refine x_seq (x_if (b := true) (EvT.to (t_tst (e_eqS (e_var rfl) e_str)) (by decide)) (fun _ => ?_) (fun h => absurd h (by decide)))
      exact x_ret (E := E) (EvN.fz (n_methM (m := flo (fC K) a d1 d2 d3 l M) (m' := flo (fC K) a d1 d2 d3 l (M.counted p w n).1) (rest := []) hK (e_var rfl) (List.mem_of_getElem? (i := 0) rfl) rfl (a_cons (e_ixU hK (e_var rfl) e_int rfl) (a_cons (e_ixU hK (e_var rfl) e_int rfl) (a_cons (e_ixU hK (e_var rfl) e_int rfl) a_nil))) ⟨a, d1, d2, d3, l, M, _, _, _, rfl, rfl, (hW.ws _ hok.2.1).st, (hGd.wok hW.st), (hz.mono (by decide)), hGd.ndS, .inr (.inr (.inr ⟨_, _, _, rfl, rfl, rfl, hW.ws _ hok.2.1, (isWh_ok.mpr ⟨_, rfl, (hW.pl _ hok.1).1, (hW.pl _ hok.1).2⟩), (isWh_ok.mpr ⟨_, rfl, hok.2.2.1, hok.2.2.2⟩), rfl⟩))⟩ rfl (may_all hF rfl) ha1)) hD (List.Sublist.refl _)
    | wish w n hf =>
      refine x_let (e_ixU hK (e_var rfl) e_int rfl) ?_
      refine x_seq (x_if (b := false) (EvT.to (t_tst (e_eqS (e_var rfl) e_str)) (by decide)) (fun h => absurd h (by decide)) fun _ => x_next (x_nx ?_))
      refine x_seq (x_if (b := false) (EvT.to (t_tst (e_eqS (e_var rfl) e_str)) (by decide)) (fun h => absurd h (by decide)) fun _ => x_next (x_nx ?_))
      refine x_seq (x_if (b := false) (EvT.to (t_tst (e_eqS (e_var rfl) e_str)) (by decide)) (fun h => absurd h (by decide)) fun _ => x_next (x_nx ?_))
      refine x_seq (x_if (b := false) (EvT.to (t_tst (e_eqS (e_var rfl) e_str)) (by decide)) (fun h => absurd h (by decide)) fun _ => x_next (x_nx ?_))
      refine x_seq (x_if (b := false) (EvT.to (t_tst (e_eqS (e_var rfl) e_str)) (by decide)) (fun h => absurd h (by decide)) fun _ => x_next (x_nx ?_))
      refine x_seq (x_if (b := false) (EvT.to (t_tst (e_eqS (e_var rfl) e_str)) (by decide)) (fun h => absurd h (by decide)) fun _ => x_next (x_nx ?_))
      refine x_seq (x_if (b := false) (EvT.to (t_tst (e_eqS (e_var rfl) e_str)) (by decide)) (fun h => absurd h (by decide)) fun _ => x_next (x_nx ?_))
      refine x_seq (x_if (b := false) (EvT.to (t_tst (e_eqS (e_var rfl) e_str)) (by decide)) (fun h => absurd h (by decide)) fun _ => x_next (x_nx ?_))
      exact x_ret (E := E) (e_methM0 (m := flo (fC K) a d1 d2 d3 l M) hK (e_var rfl) (List.mem_of_getElem? (i := 0) rfl) rfl (a_cons (e_ixU hK (e_var rfl) e_int rfl) (a_cons (e_ixU hK (e_var rfl) e_int rfl) a_nil)) ⟨a, d1, d2, d3, l, M, _, _, rfl, rfl, (hW.ws _ hok.1).st, (hGd.wok hW.st), (hz.mono (by decide)), .inr (.inr ⟨_, _, rfl, rfl, hW.ws _ hok.1, (isWh_ok.mpr ⟨_, rfl, hok.2.1, hok.2.2⟩), .inr ⟨hf, rfl⟩⟩)⟩ rfl (may_all hF rfl)) hD (List.Sublist.refl _)
  · cases hr with
    | go p w n hf =>
      refine x_let (e_ixU hK (e_var rfl) e_int rfl) ?_
      refine x_seq (x_if (b := false) (EvT.to (t_tst (e_eqS (e_var rfl) e_str)) (by decide)) (fun h => absurd h (by decide)) fun _ => x_next (x_nx ?_))
      refine x_seq (x_if (b := true) (EvT.to (t_tst (e_eqS (e_var rfl) e_str)) (by decide)) (fun _ => ?_) (fun h => absurd h (by decide)))
      exact x_retX (ex_meth (ro := false) (m := flo (fC K) a d1 d2 d3 l M) (m' := flo (fC K) a d1 d2 d3 l M) (rest := []) hK (e_var rfl) (List.mem_of_getElem? (i := 0) rfl) rfl (a_cons (e_ixU hK (e_var rfl) e_int rfl) (a_cons (e_ixU hK (e_var rfl) e_int rfl) (a_cons (e_ixU hK (e_var rfl) e_int rfl) a_nil))) ⟨a, d1, d2, d3, l, M, _, _, _, rfl, rfl, (hW.ws _ hok.2.1).st, (hGd.wok hW.st), (hz.mono (by decide)), .inr (.inr (.inr (.inl ⟨_, _, _, rfl, rfl, rfl, hW.ws _ hok.2.1, (isWh_ok.mpr ⟨_, rfl, (hW.pl _ hok.1).1, (hW.pl _ hok.1).2⟩), (isWh_ok.mpr ⟨_, rfl, hok.2.2.1, hok.2.2.2⟩), hf, rfl⟩)))⟩ rfl (may_all hF rfl) hD (List.Sublist.refl _))
    | same p q w n hpq =>
      refine x_let (e_ixU hK (e_var rfl) e_int rfl) ?_
      refine x_seq (x_if (b := false) (EvT.to (t_tst (e_eqS (e_var rfl) e_str)) (by decide)) (fun h => absurd h (by decide)) fun _ => x_next (x_nx ?_))
      refine x_seq (x_if (b := false) (EvT.to (t_tst (e_eqS (e_var rfl) e_str)) (by decide)) (fun h => absurd h (by decide)) fun _ => x_next (x_nx ?_))
      refine x_seq (x_if (b := true) (EvT.to (t_tst (e_eqS (e_var rfl) e_str)) (by decide)) (fun _ => ?_) (fun h => absurd h (by decide)))
      exact x_retX (ex_meth (ro := false) (m := flo (fC K) a d1 d2 d3 l M) (m' := flo (fC K) a d1 d2 d3 l M) (rest := []) hK (e_var rfl) (List.mem_of_getElem? (i := 0) rfl) rfl (a_cons (e_ixU hK (e_var rfl) e_int rfl) (a_cons (e_ixU hK (e_var rfl) e_int rfl) (a_cons (e_ixU hK (e_var rfl) e_int rfl) (a_cons (e_ixU hK (e_var rfl) e_int rfl) a_nil)))) ⟨a, d1, d2, d3, l, M, _, _, _, _, rfl, rfl, (hW.ws _ hok.2.2.1).st, (hGd.wok hW.st), (hz.mono (by decide)), .inr (.inr (.inr ⟨_, _, _, rfl, rfl, rfl, hW.ws _ hok.2.2.1, (isWh_ok.mpr ⟨_, rfl, (hW.pl _ hok.1).1, (hW.pl _ hok.1).2⟩), (isWh_ok.mpr ⟨_, rfl, (hW.pl _ hok.2.1).1, (hW.pl _ hok.2.1).2⟩), .inl ⟨hpq, rfl⟩⟩))⟩ rfl (may_all hF rfl) hD (List.Sublist.refl _))
    | move p q w n hpq hf =>
      refine x_let (e_ixU hK (e_var rfl) e_int rfl) ?_
      refine x_seq (x_if (b := false) (EvT.to (t_tst (e_eqS (e_var rfl) e_str)) (by decide)) (fun h => absurd h (by decide)) fun _ => x_next (x_nx ?_))
      refine x_seq (x_if (b := false) (EvT.to (t_tst (e_eqS (e_var rfl) e_str)) (by decide)) (fun h => absurd h (by decide)) fun _ => x_next (x_nx ?_))
      refine x_seq (x_if (b := true) (EvT.to (t_tst (e_eqS (e_var rfl) e_str)) (by decide)) (fun _ => ?_) (fun h => absurd h (by decide)))
      exact x_retX (ex_meth (ro := false) (m := flo (fC K) a d1 d2 d3 l M) (m' := flo (fC K) a d1 d2 d3 l M) (rest := []) hK (e_var rfl) (List.mem_of_getElem? (i := 0) rfl) rfl (a_cons (e_ixU hK (e_var rfl) e_int rfl) (a_cons (e_ixU hK (e_var rfl) e_int rfl) (a_cons (e_ixU hK (e_var rfl) e_int rfl) (a_cons (e_ixU hK (e_var rfl) e_int rfl) a_nil)))) ⟨a, d1, d2, d3, l, M, _, _, _, _, rfl, rfl, (hW.ws _ hok.2.2.1).st, (hGd.wok hW.st), (hz.mono (by decide)), .inr (.inr (.inr ⟨_, _, _, rfl, rfl, rfl, hW.ws _ hok.2.2.1, (isWh_ok.mpr ⟨_, rfl, (hW.pl _ hok.1).1, (hW.pl _ hok.1).2⟩), (isWh_ok.mpr ⟨_, rfl, (hW.pl _ hok.2.1).1, (hW.pl _ hok.2.1).2⟩), .inr (.inr ⟨_, rfl, hpq, (isWh_ok.mpr ⟨_, rfl, hok.2.2.2.1, hok.2.2.2.2⟩), .inl ⟨hf, rfl⟩⟩)⟩))⟩ rfl (may_all hF rfl) hD (List.Sublist.refl _))
    | hold p w n hf =>
      refine x_let (e_ixU hK (e_var rfl) e_int rfl) ?_
      refine x_seq (x_if (b := false) (EvT.to (t_tst (e_eqS (e_var rfl) e_str)) (by decide)) (fun h => absurd h (by decide)) fun _ => x_next (x_nx ?_))
      refine x_seq (x_if (b := false) (EvT.to (t_tst (e_eqS (e_var rfl) e_str)) (by decide)) (fun h => absurd h (by decide)) fun _ => x_next (x_nx ?_))
      refine x_seq (x_if (b := false) (EvT.to (t_tst (e_eqS (e_var rfl) e_str)) (by decide)) (fun h => absurd h (by decide)) fun _ => x_next (x_nx ?_))
      refine x_seq (x_if (b := true) (EvT.to (t_tst (e_eqS (e_var rfl) e_str)) (by decide)) (fun _ => ?_) (fun h => absurd h (by decide)))
      exact x_retX (ex_meth (ro := false) (m := flo (fC K) a d1 d2 d3 l M) (m' := flo (fC K) a d1 d2 d3 l M) (rest := []) hK (e_var rfl) (List.mem_of_getElem? (i := 0) rfl) rfl (a_cons (e_ixU hK (e_var rfl) e_int rfl) (a_cons (e_ixU hK (e_var rfl) e_int rfl) (a_cons (e_ixU hK (e_var rfl) e_int rfl) a_nil))) ⟨a, d1, d2, d3, l, M, _, _, _, rfl, rfl, (hW.ws _ hok.2.1).st, (hGd.wok hW.st), (hz.mono (by decide)), .inr (.inr (.inr (.inl ⟨_, _, _, rfl, rfl, rfl, hW.ws _ hok.2.1, (isWh_ok.mpr ⟨_, rfl, (hW.pl _ hok.1).1, (hW.pl _ hok.1).2⟩), (isWh_ok.mpr ⟨_, rfl, hok.2.2.1, hok.2.2.2⟩), hf, rfl⟩)))⟩ rfl (may_all hF rfl) hD (List.Sublist.refl _))
    | let' k hg =>
      refine x_let (e_ixU hK (e_var rfl) e_int rfl) ?_
      refine x_seq (x_if (b := false) (EvT.to (t_tst (e_eqS (e_var rfl) e_str)) (by decide)) (fun h => absurd h (by decide)) fun _ => x_next (x_nx ?_))
      refine x_seq (x_if (b := false) (EvT.to (t_tst (e_eqS (e_var rfl) e_str)) (by decide)) (fun h => absurd h (by decide)) fun _ => x_next (x_nx ?_))
      refine x_seq (x_if (b := false) (EvT.to (t_tst (e_eqS (e_var rfl) e_str)) (by decide)) (fun h => absurd h (by decide)) fun _ => x_next (x_nx ?_))
      refine x_seq (x_if (b := false) (EvT.to (t_tst (e_eqS (e_var rfl) e_str)) (by decide)) (fun h => absurd h (by decide)) fun _ => x_next (x_nx ?_))
      refine x_seq (x_if (b := true) (EvT.to (t_tst (e_eqS (e_var rfl) e_str)) (by decide)) (fun _ => ?_) (fun h => absurd h (by decide)))
      exact x_retX (ex_meth (ro := false) (m := flo (fC K) a d1 d2 d3 l M) (m' := flo (fC K) a d1 d2 d3 l M) (rest := []) hK (e_var rfl) (List.mem_of_getElem? (i := 0) rfl) rfl (a_cons (e_ixU hK (e_var rfl) e_int rfl) a_nil) ⟨a, d1, d2, d3, l, M, _, rfl, rfl, (hz.mono (by decide)), .inl ⟨by rw [FM.holding_none hg]; rfl, rfl⟩⟩ rfl (may_all hF rfl) hD (List.Sublist.refl _))
    | take k hg =>
      refine x_let (e_ixU hK (e_var rfl) e_int rfl) ?_
      refine x_seq (x_if (b := false) (EvT.to (t_tst (e_eqS (e_var rfl) e_str)) (by decide)) (fun h => absurd h (by decide)) fun _ => x_next (x_nx ?_))
      refine x_seq (x_if (b := false) (EvT.to (t_tst (e_eqS (e_var rfl) e_str)) (by decide)) (fun h => absurd h (by decide)) fun _ => x_next (x_nx ?_))
      refine x_seq (x_if (b := false) (EvT.to (t_tst (e_eqS (e_var rfl) e_str)) (by decide)) (fun h => absurd h (by decide)) fun _ => x_next (x_nx ?_))
      refine x_seq (x_if (b := false) (EvT.to (t_tst (e_eqS (e_var rfl) e_str)) (by decide)) (fun h => absurd h (by decide)) fun _ => x_next (x_nx ?_))
      refine x_seq (x_if (b := false) (EvT.to (t_tst (e_eqS (e_var rfl) e_str)) (by decide)) (fun h => absurd h (by decide)) fun _ => x_next (x_nx ?_))
      refine x_seq (x_if (b := true) (EvT.to (t_tst (e_eqS (e_var rfl) e_str)) (by decide)) (fun _ => ?_) (fun h => absurd h (by decide)))
      exact x_retX (ex_meth (ro := false) (m := flo (fC K) a d1 d2 d3 l M) (m' := flo (fC K) a d1 d2 d3 l M) (rest := []) hK (e_var rfl) (List.mem_of_getElem? (i := 0) rfl) rfl (a_cons (e_ixU hK (e_var rfl) e_int rfl) a_nil) ⟨a, d1, d2, d3, l, M, _, rfl, rfl, (hz.mono (by decide)), .inl ⟨by rw [FM.holding_none hg]; rfl, rfl⟩⟩ rfl (may_all hF rfl) hD (List.Sublist.refl _))
    | shift k q hg =>
      refine x_let (e_ixU hK (e_var rfl) e_int rfl) ?_
      refine x_seq (x_if (b := false) (EvT.to (t_tst (e_eqS (e_var rfl) e_str)) (by decide)) (fun h => absurd h (by decide)) fun _ => x_next (x_nx ?_))
      refine x_seq (x_if (b := false) (EvT.to (t_tst (e_eqS (e_var rfl) e_str)) (by decide)) (fun h => absurd h (by decide)) fun _ => x_next (x_nx ?_))
      refine x_seq (x_if (b := false) (EvT.to (t_tst (e_eqS (e_var rfl) e_str)) (by decide)) (fun h => absurd h (by decide)) fun _ => x_next (x_nx ?_))
      refine x_seq (x_if (b := false) (EvT.to (t_tst (e_eqS (e_var rfl) e_str)) (by decide)) (fun h => absurd h (by decide)) fun _ => x_next (x_nx ?_))
      refine x_seq (x_if (b := false) (EvT.to (t_tst (e_eqS (e_var rfl) e_str)) (by decide)) (fun h => absurd h (by decide)) fun _ => x_next (x_nx ?_))
      refine x_seq (x_if (b := false) (EvT.to (t_tst (e_eqS (e_var rfl) e_str)) (by decide)) (fun h => absurd h (by decide)) fun _ => x_next (x_nx ?_))
      refine x_seq (x_if (b := true) (EvT.to (t_tst (e_eqS (e_var rfl) e_str)) (by decide)) (fun _ => ?_) (fun h => absurd h (by decide)))
      exact x_retX (ex_meth (ro := false) (m := flo (fC K) a d1 d2 d3 l M) (m' := flo (fC K) a d1 d2 d3 l M) (rest := []) hK (e_var rfl) (List.mem_of_getElem? (i := 0) rfl) rfl (a_cons (e_ixU hK (e_var rfl) e_int rfl) (a_cons (e_ixU hK (e_var rfl) e_int rfl) a_nil)) ⟨a, d1, d2, d3, l, M, _, _, rfl, rfl, (hz.mono (by decide)), .inl ⟨by rw [FM.holding_none hg]; rfl, rfl⟩⟩ rfl (may_all hF rfl) hD (List.Sublist.refl _))
    | sameH k q g hg hne =>
      refine x_let (e_ixU hK (e_var rfl) e_int rfl) ?_
      refine x_seq (x_if (b := false) (EvT.to (t_tst (e_eqS (e_var rfl) e_str)) (by decide)) (fun h => absurd h (by decide)) fun _ => x_next (x_nx ?_))
      refine x_seq (x_if (b := false) (EvT.to (t_tst (e_eqS (e_var rfl) e_str)) (by decide)) (fun h => absurd h (by decide)) fun _ => x_next (x_nx ?_))
      refine x_seq (x_if (b := false) (EvT.to (t_tst (e_eqS (e_var rfl) e_str)) (by decide)) (fun h => absurd h (by decide)) fun _ => x_next (x_nx ?_))
      refine x_seq (x_if (b := false) (EvT.to (t_tst (e_eqS (e_var rfl) e_str)) (by decide)) (fun h => absurd h (by decide)) fun _ => x_next (x_nx ?_))
      refine x_seq (x_if (b := false) (EvT.to (t_tst (e_eqS (e_var rfl) e_str)) (by decide)) (fun h => absurd h (by decide)) fun _ => x_next (x_nx ?_))
      refine x_seq (x_if (b := false) (EvT.to (t_tst (e_eqS (e_var rfl) e_str)) (by decide)) (fun h => absurd h (by decide)) fun _ => x_next (x_nx ?_))
      refine x_seq (x_if (b := true) (EvT.to (t_tst (e_eqS (e_var rfl) e_str)) (by decide)) (fun _ => ?_) (fun h => absurd h (by decide)))
      exact x_retX (ex_meth (ro := false) (m := flo (fC K) a d1 d2 d3 l M) (m' := flo (fC K) a d1 d2 d3 l M) (rest := []) hK (e_var rfl) (List.mem_of_getElem? (i := 0) rfl) rfl (a_cons (e_ixU hK (e_var rfl) e_int rfl) (a_cons (e_ixU hK (e_var rfl) e_int rfl) a_nil)) ⟨a, d1, d2, d3, l, M, _, _, rfl, rfl, (hz.mono (by decide)), .inr ⟨_, _, rfl, hg, .inr ⟨_, rfl, (isWh_ok.mpr ⟨_, rfl, (hW.pl _ hok).1, (hW.pl _ hok).2⟩), .inl ⟨hne, rfl⟩⟩⟩⟩ rfl (may_all hF rfl) hD (List.Sublist.refl _))
    | wish w n hf =>
      refine x_let (e_ixU hK (e_var rfl) e_int rfl) ?_
      refine x_seq (x_if (b := false) (EvT.to (t_tst (e_eqS (e_var rfl) e_str)) (by decide)) (fun h => absurd h (by decide)) fun _ => x_next (x_nx ?_))
      refine x_seq (x_if (b := false) (EvT.to (t_tst (e_eqS (e_var rfl) e_str)) (by decide)) (fun h => absurd h (by decide)) fun _ => x_next (x_nx ?_))
      refine x_seq (x_if (b := false) (EvT.to (t_tst (e_eqS (e_var rfl) e_str)) (by decide)) (fun h => absurd h (by decide)) fun _ => x_next (x_nx ?_))
      refine x_seq (x_if (b := false) (EvT.to (t_tst (e_eqS (e_var rfl) e_str)) (by decide)) (fun h => absurd h (by decide)) fun _ => x_next (x_nx ?_))
      refine x_seq (x_if (b := false) (EvT.to (t_tst (e_eqS (e_var rfl) e_str)) (by decide)) (fun h => absurd h (by decide)) fun _ => x_next (x_nx ?_))
      refine x_seq (x_if (b := false) (EvT.to (t_tst (e_eqS (e_var rfl) e_str)) (by decide)) (fun h => absurd h (by decide)) fun _ => x_next (x_nx ?_))
      refine x_seq (x_if (b := false) (EvT.to (t_tst (e_eqS (e_var rfl) e_str)) (by decide)) (fun h => absurd h (by decide)) fun _ => x_next (x_nx ?_))
      refine x_seq (x_if (b := false) (EvT.to (t_tst (e_eqS (e_var rfl) e_str)) (by decide)) (fun h => absurd h (by decide)) fun _ => x_next (x_nx ?_))
      exact x_retX (ex_meth (ro := false) (m := flo (fC K) a d1 d2 d3 l M) (m' := flo (fC K) a d1 d2 d3 l M) (rest := []) hK (e_var rfl) (List.mem_of_getElem? (i := 0) rfl) rfl (a_cons (e_ixU hK (e_var rfl) e_int rfl) (a_cons (e_ixU hK (e_var rfl) e_int rfl) a_nil)) ⟨a, d1, d2, d3, l, M, _, _, rfl, rfl, (hW.ws _ hok.1).st, (hGd.wok hW.st), (hz.mono (by decide)), .inr (.inr ⟨_, _, rfl, rfl, hW.ws _ hok.1, (isWh_ok.mpr ⟨_, rfl, hok.2.1, hok.2.2⟩), .inl ⟨hf, rfl⟩⟩)⟩ rfl (may_all hF rfl) hD (List.Sublist.refl _))
theorem sc__law_tried : FnScope ["_law_floor", "_law_entry"] ["_law_floor", "_law_entry"] (defScope s__law_tried) := ⟨rfl, rfl, rfl, by decide +kernel, rfl, by decide +kernel, by decide +kernel⟩
def g__law_tried (K : PySem.W.Frag) (as : List Sv) (m : Mu) (o : Oc) : Prop := ∃ (a d1 d2 d3 l : Addr) (M : FM) (e : Deed) (Pl : List Int) (Ws : List Str), as = [.r (.ref a), dU e.data] ∧ m = flo (fC K) a d1 d2 d3 l M ∧ Wld Pl Ws ∧ Good Pl Ws M ∧ e.ok Pl Ws ∧ M.sz 39000 ∧ ((∃ d M', Step M e d M' ∧ o = .ret (dL [d]) (flo (fC K) a d1 d2 d3 l M')) ∨ ∃ c, Ref M e c ∧ o = .ret (dL []) (flo (fC K) a d1 d2 d3 l M))
theorem ok__law_tried {P : Program} {w : World} {K : PySem.W.Frag} {mg : Str → Option Value} {base : Heap} (T : Tx K mg w) (c : He.SaysD fa fn K) : FnB P w K mg base 6 (He.fAd K ("_law_tried", none)) ["_law_floor", "_law_entry"] (spG K 2 false (g__law_tried K)) := by
  obtain ⟨fd__law_do, g__law_do, b__law_do, k__law_do⟩ := ok__law_do (P := P) (w := w) (base := base) T c
  obtain ⟨fd, F⟩ := c.def_ 48 (d := d__law_tried) rfl
  refine ⟨fd, fn_ok F sc__law_tried rfl fun cdv A outer s H E hr => ⟨_, (pss_one (ps_try_only rfl rfl ⟨by rfl, by decide, .inl T.m_StockError⟩ (takes_of rfl rfl rfl rfl) (fun W pn xe htk hown => (pss_one (ps_ret (pe_lst (pa_cons (pe_callSD g__law_do (hr.mono (by decide)) (by rfl) T.m__law_do k__law_do b__law_do .nil (passAt htk) (pa_cons (pv 0) (pa_cons (pv 1) pa_nil))) pa_nil))))) (fun _ _ _ _ _ _ _ => (pss_one (ps_ret (pe_lst pa_nil)))))), ?_⟩, FunD.bindsN F (fun _ _ _ _ _ _ us hl => match us, hl with | [_, _], _ => rfl), F.kp⟩
  intro Γ as m o D hK hF hO hn hG hnx hD
  try dsimp only [cxOf]
  obtain ⟨a, d1, d2, d3, l, M, e, Pl, Ws, rfl, rfl, hW, hGd, hok, hz, ⟨d, M', hs, rfl⟩ | ⟨c, hr, rfl⟩⟩ := hG
  · intro σ W A
    exact sx_run (x_ret (E := E) (e_lst (ds := [_]) (a_consD (e_callMSD (m := flo (fC K) a d1 d2 d3 l M) (m' := flo (fC K) a d1 d2 d3 l M') (rest := []) hK (a_cons (e_var rfl) (a_cons (e_var rfl) a_nil)) ⟨a, d1, d2, d3, l, M, e, Pl, Ws, rfl, rfl, hW, hGd, hok, hz, .inl ⟨_, M', hs, rfl⟩⟩ rfl (may_all hF rfl)) a_nilD)) hD (List.Sublist.refl _)) A
  · intro σ W A
    rcases hr.cls with rfl | rfl | rfl
    · exact sx_run (x_retX (ex_lst1 (ex_callSD (ro := false) (m := flo (fC K) a d1 d2 d3 l M) (m' := flo (fC K) a d1 d2 d3 l M) (rest := []) hK (a_cons (e_var rfl) (a_cons (e_var rfl) a_nil)) ⟨a, d1, d2, d3, l, M, e, Pl, Ws, rfl, rfl, hW, hGd, hok, hz, .inr ⟨_, hr, rfl⟩⟩ rfl (may_all hF rfl) (wi_yes T.em_TooFew_StockError fun _ => x_ret (E := E) (e_lst (ds := []) a_nilD) hD (List.Sublist.refl _))))) A
    · exact sx_run (x_retX (ex_lst1 (ex_callSD (ro := false) (m := flo (fC K) a d1 d2 d3 l M) (m' := flo (fC K) a d1 d2 d3 l M) (rest := []) hK (a_cons (e_var rfl) (a_cons (e_var rfl) a_nil)) ⟨a, d1, d2, d3, l, M, e, Pl, Ws, rfl, rfl, hW, hGd, hok, hz, .inr ⟨_, hr, rfl⟩⟩ rfl (may_all hF rfl) (wi_yes T.em_SamePlace_StockError fun _ => x_ret (E := E) (e_lst (ds := []) a_nilD) hD (List.Sublist.refl _))))) A
    · exact sx_run (x_retX (ex_lst1 (ex_callSD (ro := false) (m := flo (fC K) a d1 d2 d3 l M) (m' := flo (fC K) a d1 d2 d3 l M) (rest := []) hK (a_cons (e_var rfl) (a_cons (e_var rfl) a_nil)) ⟨a, d1, d2, d3, l, M, e, Pl, Ws, rfl, rfl, hW, hGd, hok, hz, .inr ⟨_, hr, rfl⟩⟩ rfl (may_all hF rfl) (wi_yes T.em_NoHold_StockError fun _ => x_ret (E := E) (e_lst (ds := []) a_nilD) hD (List.Sublist.refl _))))) A
theorem kit_BadWare_BadWare {K : PySem.W.Frag} {mg : Str → Option Value} {w : World} (T : Tx K mg w) : PySem.W.kitOne K (.ref (He.ga K "BadWare")) (clsV K "BadWare") = some true := exB_kit T.xc (List.mem_of_getElem? (i := 0) rfl)
theorem kit_BadWare_BadPlace {K : PySem.W.Frag} {mg : Str → Option Value} {w : World} (T : Tx K mg w) : PySem.W.kitOne K (.ref (He.ga K "BadWare")) (clsV K "BadPlace") = some false := exB_kit T.xc (List.mem_of_getElem? (i := 1) rfl)
theorem kit_BadWare_BadMany {K : PySem.W.Frag} {mg : Str → Option Value} {w : World} (T : Tx K mg w) : PySem.W.kitOne K (.ref (He.ga K "BadWare")) (clsV K "BadMany") = some false := exB_kit T.xc (List.mem_of_getElem? (i := 2) rfl)
theorem kit_BadWare_TooFew {K : PySem.W.Frag} {mg : Str → Option Value} {w : World} (T : Tx K mg w) : PySem.W.kitOne K (.ref (He.ga K "BadWare")) (clsV K "TooFew") = some false := exB_kit T.xc (List.mem_of_getElem? (i := 3) rfl)
theorem kit_BadWare_SamePlace {K : PySem.W.Frag} {mg : Str → Option Value} {w : World} (T : Tx K mg w) : PySem.W.kitOne K (.ref (He.ga K "BadWare")) (clsV K "SamePlace") = some false := exB_kit T.xc (List.mem_of_getElem? (i := 4) rfl)
theorem kit_BadWare_NoHold {K : PySem.W.Frag} {mg : Str → Option Value} {w : World} (T : Tx K mg w) : PySem.W.kitOne K (.ref (He.ga K "BadWare")) (clsV K "NoHold") = some false := exB_kit T.xc (List.mem_of_getElem? (i := 5) rfl)
theorem kit_BadWare_NoEntry {K : PySem.W.Frag} {mg : Str → Option Value} {w : World} (T : Tx K mg w) : PySem.W.kitOne K (.ref (He.ga K "BadWare")) (clsV K "NoEntry") = some false := exB_kit T.xc (List.mem_of_getElem? (i := 6) rfl)
theorem kit_BadWare_NoLine {K : PySem.W.Frag} {mg : Str → Option Value} {w : World} (T : Tx K mg w) : PySem.W.kitOne K (.ref (He.ga K "BadWare")) (clsV K "NoLine") = some false := exB_kit T.xc (List.mem_of_getElem? (i := 7) rfl)
theorem kit_BadWare_ValueError {K : PySem.W.Frag} {mg : Str → Option Value} {w : World} (T : Tx K mg w) : PySem.W.kitOne K (.ref (He.ga K "BadWare")) (clsV K "ValueError") = some true := exB_kit T.xc (List.mem_of_getElem? (i := 8) rfl)
theorem kit_BadPlace_BadWare {K : PySem.W.Frag} {mg : Str → Option Value} {w : World} (T : Tx K mg w) : PySem.W.kitOne K (.ref (He.ga K "BadPlace")) (clsV K "BadWare") = some false := exB_kit T.xc (List.mem_of_getElem? (i := 9) rfl)
theorem kit_BadPlace_BadPlace {K : PySem.W.Frag} {mg : Str → Option Value} {w : World} (T : Tx K mg w) : PySem.W.kitOne K (.ref (He.ga K "BadPlace")) (clsV K "BadPlace") = some true := exB_kit T.xc (List.mem_of_getElem? (i := 10) rfl)
theorem kit_BadPlace_BadMany {K : PySem.W.Frag} {mg : Str → Option Value} {w : World} (T : Tx K mg w) : PySem.W.kitOne K (.ref (He.ga K "BadPlace")) (clsV K "BadMany") = some false := exB_kit T.xc (List.mem_of_getElem? (i := 11) rfl)
theorem kit_BadPlace_TooFew {K : PySem.W.Frag} {mg : Str → Option Value} {w : World} (T : Tx K mg w) : PySem.W.kitOne K (.ref (He.ga K "BadPlace")) (clsV K "TooFew") = some false := exB_kit T.xc (List.mem_of_getElem? (i := 12) rfl)
theorem kit_BadPlace_SamePlace {K : PySem.W.Frag} {mg : Str → Option Value} {w : World} (T : Tx K mg w) : PySem.W.kitOne K (.ref (He.ga K "BadPlace")) (clsV K "SamePlace") = some false := exB_kit T.xc (List.mem_of_getElem? (i := 13) rfl)
theorem kit_BadPlace_NoHold {K : PySem.W.Frag} {mg : Str → Option Value} {w : World} (T : Tx K mg w) : PySem.W.kitOne K (.ref (He.ga K "BadPlace")) (clsV K "NoHold") = some false := exB_kit T.xc (List.mem_of_getElem? (i := 14) rfl)
theorem kit_BadPlace_NoEntry {K : PySem.W.Frag} {mg : Str → Option Value} {w : World} (T : Tx K mg w) : PySem.W.kitOne K (.ref (He.ga K "BadPlace")) (clsV K "NoEntry") = some false := exB_kit T.xc (List.mem_of_getElem? (i := 15) rfl)
theorem kit_BadPlace_NoLine {K : PySem.W.Frag} {mg : Str → Option Value} {w : World} (T : Tx K mg w) : PySem.W.kitOne K (.ref (He.ga K "BadPlace")) (clsV K "NoLine") = some false := exB_kit T.xc (List.mem_of_getElem? (i := 16) rfl)
theorem kit_BadPlace_ValueError {K : PySem.W.Frag} {mg : Str → Option Value} {w : World} (T : Tx K mg w) : PySem.W.kitOne K (.ref (He.ga K "BadPlace")) (clsV K "ValueError") = some true := exB_kit T.xc (List.mem_of_getElem? (i := 17) rfl)
theorem kit_BadMany_BadWare {K : PySem.W.Frag} {mg : Str → Option Value} {w : World} (T : Tx K mg w) : PySem.W.kitOne K (.ref (He.ga K "BadMany")) (clsV K "BadWare") = some false := exB_kit T.xc (List.mem_of_getElem? (i := 18) rfl)
theorem kit_BadMany_BadPlace {K : PySem.W.Frag} {mg : Str → Option Value} {w : World} (T : Tx K mg w) : PySem.W.kitOne K (.ref (He.ga K "BadMany")) (clsV K "BadPlace") = some false := exB_kit T.xc (List.mem_of_getElem? (i := 19) rfl)
theorem kit_BadMany_BadMany {K : PySem.W.Frag} {mg : Str → Option Value} {w : World} (T : Tx K mg w) : PySem.W.kitOne K (.ref (He.ga K "BadMany")) (clsV K "BadMany") = some true := exB_kit T.xc (List.mem_of_getElem? (i := 20) rfl)
theorem kit_BadMany_TooFew {K : PySem.W.Frag} {mg : Str → Option Value} {w : World} (T : Tx K mg w) : PySem.W.kitOne K (.ref (He.ga K "BadMany")) (clsV K "TooFew") = some false := exB_kit T.xc (List.mem_of_getElem? (i := 21) rfl)
theorem kit_BadMany_SamePlace {K : PySem.W.Frag} {mg : Str → Option Value} {w : World} (T : Tx K mg w) : PySem.W.kitOne K (.ref (He.ga K "BadMany")) (clsV K "SamePlace") = some false := exB_kit T.xc (List.mem_of_getElem? (i := 22) rfl)
theorem kit_BadMany_NoHold {K : PySem.W.Frag} {mg : Str → Option Value} {w : World} (T : Tx K mg w) : PySem.W.kitOne K (.ref (He.ga K "BadMany")) (clsV K "NoHold") = some false := exB_kit T.xc (List.mem_of_getElem? (i := 23) rfl)
theorem kit_BadMany_NoEntry {K : PySem.W.Frag} {mg : Str → Option Value} {w : World} (T : Tx K mg w) : PySem.W.kitOne K (.ref (He.ga K "BadMany")) (clsV K "NoEntry") = some false := exB_kit T.xc (List.mem_of_getElem? (i := 24) rfl)
theorem kit_BadMany_NoLine {K : PySem.W.Frag} {mg : Str → Option Value} {w : World} (T : Tx K mg w) : PySem.W.kitOne K (.ref (He.ga K "BadMany")) (clsV K "NoLine") = some false := exB_kit T.xc (List.mem_of_getElem? (i := 25) rfl)
theorem kit_BadMany_ValueError {K : PySem.W.Frag} {mg : Str → Option Value} {w : World} (T : Tx K mg w) : PySem.W.kitOne K (.ref (He.ga K "BadMany")) (clsV K "ValueError") = some true := exB_kit T.xc (List.mem_of_getElem? (i := 26) rfl)
theorem kit_TooFew_BadWare {K : PySem.W.Frag} {mg : Str → Option Value} {w : World} (T : Tx K mg w) : PySem.W.kitOne K (.ref (He.ga K "TooFew")) (clsV K "BadWare") = some false := exB_kit T.xc (List.mem_of_getElem? (i := 27) rfl)
theorem kit_TooFew_BadPlace {K : PySem.W.Frag} {mg : Str → Option Value} {w : World} (T : Tx K mg w) : PySem.W.kitOne K (.ref (He.ga K "TooFew")) (clsV K "BadPlace") = some false := exB_kit T.xc (List.mem_of_getElem? (i := 28) rfl)
theorem kit_TooFew_BadMany {K : PySem.W.Frag} {mg : Str → Option Value} {w : World} (T : Tx K mg w) : PySem.W.kitOne K (.ref (He.ga K "TooFew")) (clsV K "BadMany") = some false := exB_kit T.xc (List.mem_of_getElem? (i := 29) rfl)
theorem kit_TooFew_TooFew {K : PySem.W.Frag} {mg : Str → Option Value} {w : World} (T : Tx K mg w) : PySem.W.kitOne K (.ref (He.ga K "TooFew")) (clsV K "TooFew") = some true := exB_kit T.xc (List.mem_of_getElem? (i := 30) rfl)
theorem kit_TooFew_SamePlace {K : PySem.W.Frag} {mg : Str → Option Value} {w : World} (T : Tx K mg w) : PySem.W.kitOne K (.ref (He.ga K "TooFew")) (clsV K "SamePlace") = some false := exB_kit T.xc (List.mem_of_getElem? (i := 31) rfl)
theorem kit_TooFew_NoHold {K : PySem.W.Frag} {mg : Str → Option Value} {w : World} (T : Tx K mg w) : PySem.W.kitOne K (.ref (He.ga K "TooFew")) (clsV K "NoHold") = some false := exB_kit T.xc (List.mem_of_getElem? (i := 32) rfl)
theorem kit_TooFew_NoEntry {K : PySem.W.Frag} {mg : Str → Option Value} {w : World} (T : Tx K mg w) : PySem.W.kitOne K (.ref (He.ga K "TooFew")) (clsV K "NoEntry") = some false := exB_kit T.xc (List.mem_of_getElem? (i := 33) rfl)
theorem kit_TooFew_NoLine {K : PySem.W.Frag} {mg : Str → Option Value} {w : World} (T : Tx K mg w) : PySem.W.kitOne K (.ref (He.ga K "TooFew")) (clsV K "NoLine") = some false := exB_kit T.xc (List.mem_of_getElem? (i := 34) rfl)
theorem kit_TooFew_ValueError {K : PySem.W.Frag} {mg : Str → Option Value} {w : World} (T : Tx K mg w) : PySem.W.kitOne K (.ref (He.ga K "TooFew")) (clsV K "ValueError") = some true := exB_kit T.xc (List.mem_of_getElem? (i := 35) rfl)
theorem kit_SamePlace_BadWare {K : PySem.W.Frag} {mg : Str → Option Value} {w : World} (T : Tx K mg w) : PySem.W.kitOne K (.ref (He.ga K "SamePlace")) (clsV K "BadWare") = some false := exB_kit T.xc (List.mem_of_getElem? (i := 36) rfl)
theorem kit_SamePlace_BadPlace {K : PySem.W.Frag} {mg : Str → Option Value} {w : World} (T : Tx K mg w) : PySem.W.kitOne K (.ref (He.ga K "SamePlace")) (clsV K "BadPlace") = some false := exB_kit T.xc (List.mem_of_getElem? (i := 37) rfl)
theorem kit_SamePlace_BadMany {K : PySem.W.Frag} {mg : Str → Option Value} {w : World} (T : Tx K mg w) : PySem.W.kitOne K (.ref (He.ga K "SamePlace")) (clsV K "BadMany") = some false := exB_kit T.xc (List.mem_of_getElem? (i := 38) rfl)
theorem kit_SamePlace_TooFew {K : PySem.W.Frag} {mg : Str → Option Value} {w : World} (T : Tx K mg w) : PySem.W.kitOne K (.ref (He.ga K "SamePlace")) (clsV K "TooFew") = some false := exB_kit T.xc (List.mem_of_getElem? (i := 39) rfl)
theorem kit_SamePlace_SamePlace {K : PySem.W.Frag} {mg : Str → Option Value} {w : World} (T : Tx K mg w) : PySem.W.kitOne K (.ref (He.ga K "SamePlace")) (clsV K "SamePlace") = some true := exB_kit T.xc (List.mem_of_getElem? (i := 40) rfl)
theorem kit_SamePlace_NoHold {K : PySem.W.Frag} {mg : Str → Option Value} {w : World} (T : Tx K mg w) : PySem.W.kitOne K (.ref (He.ga K "SamePlace")) (clsV K "NoHold") = some false := exB_kit T.xc (List.mem_of_getElem? (i := 41) rfl)
theorem kit_SamePlace_NoEntry {K : PySem.W.Frag} {mg : Str → Option Value} {w : World} (T : Tx K mg w) : PySem.W.kitOne K (.ref (He.ga K "SamePlace")) (clsV K "NoEntry") = some false := exB_kit T.xc (List.mem_of_getElem? (i := 42) rfl)
theorem kit_SamePlace_NoLine {K : PySem.W.Frag} {mg : Str → Option Value} {w : World} (T : Tx K mg w) : PySem.W.kitOne K (.ref (He.ga K "SamePlace")) (clsV K "NoLine") = some false := exB_kit T.xc (List.mem_of_getElem? (i := 43) rfl)
theorem kit_SamePlace_ValueError {K : PySem.W.Frag} {mg : Str → Option Value} {w : World} (T : Tx K mg w) : PySem.W.kitOne K (.ref (He.ga K "SamePlace")) (clsV K "ValueError") = some true := exB_kit T.xc (List.mem_of_getElem? (i := 44) rfl)
theorem kit_NoHold_BadWare {K : PySem.W.Frag} {mg : Str → Option Value} {w : World} (T : Tx K mg w) : PySem.W.kitOne K (.ref (He.ga K "NoHold")) (clsV K "BadWare") = some false := exB_kit T.xc (List.mem_of_getElem? (i := 45) rfl)
theorem kit_NoHold_BadPlace {K : PySem.W.Frag} {mg : Str → Option Value} {w : World} (T : Tx K mg w) : PySem.W.kitOne K (.ref (He.ga K "NoHold")) (clsV K "BadPlace") = some false := exB_kit T.xc (List.mem_of_getElem? (i := 46) rfl)
theorem kit_NoHold_BadMany {K : PySem.W.Frag} {mg : Str → Option Value} {w : World} (T : Tx K mg w) : PySem.W.kitOne K (.ref (He.ga K "NoHold")) (clsV K "BadMany") = some false := exB_kit T.xc (List.mem_of_getElem? (i := 47) rfl)
theorem kit_NoHold_TooFew {K : PySem.W.Frag} {mg : Str → Option Value} {w : World} (T : Tx K mg w) : PySem.W.kitOne K (.ref (He.ga K "NoHold")) (clsV K "TooFew") = some false := exB_kit T.xc (List.mem_of_getElem? (i := 48) rfl)
theorem kit_NoHold_SamePlace {K : PySem.W.Frag} {mg : Str → Option Value} {w : World} (T : Tx K mg w) : PySem.W.kitOne K (.ref (He.ga K "NoHold")) (clsV K "SamePlace") = some false := exB_kit T.xc (List.mem_of_getElem? (i := 49) rfl)
theorem kit_NoHold_NoHold {K : PySem.W.Frag} {mg : Str → Option Value} {w : World} (T : Tx K mg w) : PySem.W.kitOne K (.ref (He.ga K "NoHold")) (clsV K "NoHold") = some true := exB_kit T.xc (List.mem_of_getElem? (i := 50) rfl)
theorem kit_NoHold_NoEntry {K : PySem.W.Frag} {mg : Str → Option Value} {w : World} (T : Tx K mg w) : PySem.W.kitOne K (.ref (He.ga K "NoHold")) (clsV K "NoEntry") = some false := exB_kit T.xc (List.mem_of_getElem? (i := 51) rfl)
theorem kit_NoHold_NoLine {K : PySem.W.Frag} {mg : Str → Option Value} {w : World} (T : Tx K mg w) : PySem.W.kitOne K (.ref (He.ga K "NoHold")) (clsV K "NoLine") = some false := exB_kit T.xc (List.mem_of_getElem? (i := 52) rfl)
theorem kit_NoHold_ValueError {K : PySem.W.Frag} {mg : Str → Option Value} {w : World} (T : Tx K mg w) : PySem.W.kitOne K (.ref (He.ga K "NoHold")) (clsV K "ValueError") = some true := exB_kit T.xc (List.mem_of_getElem? (i := 53) rfl)
theorem kit_NoEntry_BadWare {K : PySem.W.Frag} {mg : Str → Option Value} {w : World} (T : Tx K mg w) : PySem.W.kitOne K (.ref (He.ga K "NoEntry")) (clsV K "BadWare") = some false := exB_kit T.xc (List.mem_of_getElem? (i := 54) rfl)
theorem kit_NoEntry_BadPlace {K : PySem.W.Frag} {mg : Str → Option Value} {w : World} (T : Tx K mg w) : PySem.W.kitOne K (.ref (He.ga K "NoEntry")) (clsV K "BadPlace") = some false := exB_kit T.xc (List.mem_of_getElem? (i := 55) rfl)
theorem kit_NoEntry_BadMany {K : PySem.W.Frag} {mg : Str → Option Value} {w : World} (T : Tx K mg w) : PySem.W.kitOne K (.ref (He.ga K "NoEntry")) (clsV K "BadMany") = some false := exB_kit T.xc (List.mem_of_getElem? (i := 56) rfl)
theorem kit_NoEntry_TooFew {K : PySem.W.Frag} {mg : Str → Option Value} {w : World} (T : Tx K mg w) : PySem.W.kitOne K (.ref (He.ga K "NoEntry")) (clsV K "TooFew") = some false := exB_kit T.xc (List.mem_of_getElem? (i := 57) rfl)
theorem kit_NoEntry_SamePlace {K : PySem.W.Frag} {mg : Str → Option Value} {w : World} (T : Tx K mg w) : PySem.W.kitOne K (.ref (He.ga K "NoEntry")) (clsV K "SamePlace") = some false := exB_kit T.xc (List.mem_of_getElem? (i := 58) rfl)
theorem kit_NoEntry_NoHold {K : PySem.W.Frag} {mg : Str → Option Value} {w : World} (T : Tx K mg w) : PySem.W.kitOne K (.ref (He.ga K "NoEntry")) (clsV K "NoHold") = some false := exB_kit T.xc (List.mem_of_getElem? (i := 59) rfl)
theorem kit_NoEntry_NoEntry {K : PySem.W.Frag} {mg : Str → Option Value} {w : World} (T : Tx K mg w) : PySem.W.kitOne K (.ref (He.ga K "NoEntry")) (clsV K "NoEntry") = some true := exB_kit T.xc (List.mem_of_getElem? (i := 60) rfl)
theorem kit_NoEntry_NoLine {K : PySem.W.Frag} {mg : Str → Option Value} {w : World} (T : Tx K mg w) : PySem.W.kitOne K (.ref (He.ga K "NoEntry")) (clsV K "NoLine") = some false := exB_kit T.xc (List.mem_of_getElem? (i := 61) rfl)
theorem kit_NoEntry_ValueError {K : PySem.W.Frag} {mg : Str → Option Value} {w : World} (T : Tx K mg w) : PySem.W.kitOne K (.ref (He.ga K "NoEntry")) (clsV K "ValueError") = some true := exB_kit T.xc (List.mem_of_getElem? (i := 62) rfl)
theorem sc__law_names : FnScope ["_law_e", "_law_found"] ["_law_e"] (defScope s__law_names) := ⟨rfl, rfl, rfl, by decide +kernel, rfl, by decide +kernel, by decide +kernel⟩
def g__law_names (K : PySem.W.Frag) (a C : Addr) (as : List Sv) (m : Mu) (o : Oc) : Prop := ∃ c t, Cl13 c t ∧ C = He.ga K c ∧ as = [.r (.ref a)] ∧ m = [] ∧ o = .ret (dS t) []
theorem ok__law_names {P : Program} {w : World} {K : PySem.W.Frag} {mg : Str → Option Value} {base : Heap} (T : Tx K mg w) (c : He.SaysD fa fn K) : ∃ fd, FnE P w K mg base 1 (He.fAd K ("_law_names", none)) fd ["_law_e"] (fun a C => spG K 1 true (g__law_names K a C)) ∧ Binds K fd ["_law_e"] [] ∧ PySem.W.keepIn K (.ref (He.fAd K ("_law_names", none))) = true := by
  obtain ⟨fd, F⟩ := c.def_ 51 (d := d__law_names) rfl
  refine ⟨fd, fnE_ok F sc__law_names rfl fun a oe C cdv A outer s H E hz hf hC hr => ⟨_, (pss_cons (ps_set (i := 1) sc__law_names.nd rfl (Or.inl rfl) (pe_op op_add_str (pe_op op_mulS pe_str (pe_callTy call_int1 (by rfl) T.z_int (by decide +kernel) (pa_cons (pe_callB (call_isP (K := K) (a := a) (oe := oe) (C := C) rfl List.mem_cons_self hC hz hf) (by rfl) T.z_isinstance (by decide +kernel) (pa_cons (pv 0) (pa_cons (pe_glob (v := .ref (He.ga K "BadWare")) rfl T.m_BadWare rfl) pa_nil))) pa_nil))) (pe_op op_mulS pe_str (pe_callTy call_int1 (by rfl) T.z_int (by decide +kernel) (pa_cons (pe_callB (call_isP (K := K) (a := a) (oe := oe) (C := C) rfl List.mem_cons_self hC hz hf) (by rfl) T.z_isinstance (by decide +kernel) (pa_cons (pv 0) (pa_cons (pe_glob (v := .ref (He.ga K "BadPlace")) rfl T.m_BadPlace rfl) pa_nil))) pa_nil)))))
    (pss_cons (ps_set (i := 1) sc__law_names.nd rfl (Or.inl rfl) (pe_op op_add_str (pe_op op_add_str (pv 1) (pe_op op_mulS pe_str (pe_callTy call_int1 (by rfl) T.z_int (by decide +kernel) (pa_cons (pe_callB (call_isP (K := K) (a := a) (oe := oe) (C := C) rfl List.mem_cons_self hC hz hf) (by rfl) T.z_isinstance (by decide +kernel) (pa_cons (pv 0) (pa_cons (pe_glob (v := .ref (He.ga K "BadMany")) rfl T.m_BadMany rfl) pa_nil))) pa_nil)))) (pe_op op_mulS pe_str (pe_callTy call_int1 (by rfl) T.z_int (by decide +kernel) (pa_cons (pe_callB (call_isP (K := K) (a := a) (oe := oe) (C := C) rfl List.mem_cons_self hC hz hf) (by rfl) T.z_isinstance (by decide +kernel) (pa_cons (pv 0) (pa_cons (pe_glob (v := .ref (He.ga K "TooFew")) rfl T.m_TooFew rfl) pa_nil))) pa_nil)))))
    (pss_cons (ps_set (i := 1) sc__law_names.nd rfl (Or.inl rfl) (pe_op op_add_str (pe_op op_add_str (pv 1) (pe_op op_mulS pe_str (pe_callTy call_int1 (by rfl) T.z_int (by decide +kernel) (pa_cons (pe_callB (call_isP (K := K) (a := a) (oe := oe) (C := C) rfl List.mem_cons_self hC hz hf) (by rfl) T.z_isinstance (by decide +kernel) (pa_cons (pv 0) (pa_cons (pe_glob (v := .ref (He.ga K "SamePlace")) rfl T.m_SamePlace rfl) pa_nil))) pa_nil)))) (pe_op op_mulS pe_str (pe_callTy call_int1 (by rfl) T.z_int (by decide +kernel) (pa_cons (pe_callB (call_isP (K := K) (a := a) (oe := oe) (C := C) rfl List.mem_cons_self hC hz hf) (by rfl) T.z_isinstance (by decide +kernel) (pa_cons (pv 0) (pa_cons (pe_glob (v := .ref (He.ga K "NoHold")) rfl T.m_NoHold rfl) pa_nil))) pa_nil)))))
    (pss_cons (ps_set (i := 1) sc__law_names.nd rfl (Or.inl rfl) (pe_op op_add_str (pe_op op_add_str (pv 1) (pe_op op_mulS pe_str (pe_callTy call_int1 (by rfl) T.z_int (by decide +kernel) (pa_cons (pe_callB (call_isP (K := K) (a := a) (oe := oe) (C := C) rfl List.mem_cons_self hC hz hf) (by rfl) T.z_isinstance (by decide +kernel) (pa_cons (pv 0) (pa_cons (pe_glob (v := .ref (He.ga K "NoEntry")) rfl T.m_NoEntry rfl) pa_nil))) pa_nil)))) (pe_op op_mulS pe_str (pe_callTy call_int1 (by rfl) T.z_int (by decide +kernel) (pa_cons (pe_callB (call_isP (K := K) (a := a) (oe := oe) (C := C) rfl List.mem_cons_self hC hz hf) (by rfl) T.z_isinstance (by decide +kernel) (pa_cons (pv 0) (pa_cons (pe_glob (v := .ref (He.ga K "NoLine")) rfl T.m_NoLine rfl) pa_nil))) pa_nil)))))
    (pss_one (ps_ret (pe_op op_add_str (pv 1) (pe_op op_mulS pe_str (pe_callTy call_int1 (by rfl) T.z_int (by decide +kernel) (pa_cons (pe_not (pe_callB (call_isP (K := K) (a := a) (oe := oe) (C := C) rfl List.mem_cons_self hC hz hf) (by rfl) T.z_isinstance (by decide +kernel) (pa_cons (pv 0) (pa_cons (pe_bltn (v := .ty "ValueError") rfl T.z_ValueError (by decide +kernel) rfl) pa_nil)))) pa_nil)))))))))), ?_⟩, FunD.bindsN F (fun _ _ _ _ _ _ us hl => match us, hl with | [_], _ => rfl), F.kp⟩
  intro Γ as m o D hK hF hO hn hG hnx hD
  try dsimp only [L2H.cxH, cxOf]
  obtain ⟨c, t, hc, rfl, rfl, rfl, rfl⟩ := hG
  cases hc with
  | ware =>
    refine x_let (s := dS "ware") (Ev.to (e_addS (e_mulB e_str (e_isE (e_var rfl) (fun u hu => clsV_ref ne_BadWare hu) (kit_BadWare_BadWare T))) (e_mulB e_str (e_isE (e_var rfl) (fun u hu => clsV_ref ne_BadPlace hu) (kit_BadWare_BadPlace T))) (by decide +kernel)) (congrArg dS (by decide +kernel))) ?_
    refine x_let (s := dS "ware") (Ev.to (e_addS (e_addS (e_var (s := dS "ware") rfl) (e_mulB e_str (e_isE (e_var rfl) (fun u hu => clsV_ref ne_BadMany hu) (kit_BadWare_BadMany T))) (by decide +kernel)) (e_mulB e_str (e_isE (e_var rfl) (fun u hu => clsV_ref ne_TooFew hu) (kit_BadWare_TooFew T))) (by decide +kernel)) (congrArg dS (by decide +kernel))) ?_
    refine x_let (s := dS "ware") (Ev.to (e_addS (e_addS (e_var (s := dS "ware") rfl) (e_mulB e_str (e_isE (e_var rfl) (fun u hu => clsV_ref ne_SamePlace hu) (kit_BadWare_SamePlace T))) (by decide +kernel)) (e_mulB e_str (e_isE (e_var rfl) (fun u hu => clsV_ref ne_NoHold hu) (kit_BadWare_NoHold T))) (by decide +kernel)) (congrArg dS (by decide +kernel))) ?_
    refine x_let (s := dS "ware") (Ev.to (e_addS (e_addS (e_var (s := dS "ware") rfl) (e_mulB e_str (e_isE (e_var rfl) (fun u hu => clsV_ref ne_NoEntry hu) (kit_BadWare_NoEntry T))) (by decide +kernel)) (e_mulB e_str (e_isE (e_var rfl) (fun u hu => clsV_ref ne_NoLine hu) (kit_BadWare_NoLine T))) (by decide +kernel)) (congrArg dS (by decide +kernel))) ?_
    exact x_ret (E := E) (s := dS "ware") (Ev.to (e_addS (e_var (s := dS "ware") rfl) (e_mulB e_str (e_notV (e_isE (e_var rfl) (fun u hu => clsV_val hu) (kit_BadWare_ValueError T)))) (by decide +kernel)) (congrArg dS (by decide +kernel))) hD (List.Sublist.refl _)
  | place =>
    refine x_let (s := dS "place") (Ev.to (e_addS (e_mulB e_str (e_isE (e_var rfl) (fun u hu => clsV_ref ne_BadWare hu) (kit_BadPlace_BadWare T))) (e_mulB e_str (e_isE (e_var rfl) (fun u hu => clsV_ref ne_BadPlace hu) (kit_BadPlace_BadPlace T))) (by decide +kernel)) (congrArg dS (by decide +kernel))) ?_
    refine x_let (s := dS "place") (Ev.to (e_addS (e_addS (e_var (s := dS "place") rfl) (e_mulB e_str (e_isE (e_var rfl) (fun u hu => clsV_ref ne_BadMany hu) (kit_BadPlace_BadMany T))) (by decide +kernel)) (e_mulB e_str (e_isE (e_var rfl) (fun u hu => clsV_ref ne_TooFew hu) (kit_BadPlace_TooFew T))) (by decide +kernel)) (congrArg dS (by decide +kernel))) ?_
    refine x_let (s := dS "place") (Ev.to (e_addS (e_addS (e_var (s := dS "place") rfl) (e_mulB e_str (e_isE (e_var rfl) (fun u hu => clsV_ref ne_SamePlace hu) (kit_BadPlace_SamePlace T))) (by decide +kernel)) (e_mulB e_str (e_isE (e_var rfl) (fun u hu => clsV_ref ne_NoHold hu) (kit_BadPlace_NoHold T))) (by decide +kernel)) (congrArg dS (by decide +kernel))) ?_
    refine x_let (s := dS "place") (Ev.to (e_addS (e_addS (e_var (s := dS "place") rfl) (e_mulB e_str (e_isE (e_var rfl) (fun u hu => clsV_ref ne_NoEntry hu) (kit_BadPlace_NoEntry T))) (by decide +kernel)) (e_mulB e_str (e_isE (e_var rfl) (fun u hu => clsV_ref ne_NoLine hu) (kit_BadPlace_NoLine T))) (by decide +kernel)) (congrArg dS (by decide +kernel))) ?_
    exact x_ret (E := E) (s := dS "place") (Ev.to (e_addS (e_var (s := dS "place") rfl) (e_mulB e_str (e_notV (e_isE (e_var rfl) (fun u hu => clsV_val hu) (kit_BadPlace_ValueError T)))) (by decide +kernel)) (congrArg dS (by decide +kernel))) hD (List.Sublist.refl _)
  | many =>
    refine x_let (s := dS "") (Ev.to (e_addS (e_mulB e_str (e_isE (e_var rfl) (fun u hu => clsV_ref ne_BadWare hu) (kit_BadMany_BadWare T))) (e_mulB e_str (e_isE (e_var rfl) (fun u hu => clsV_ref ne_BadPlace hu) (kit_BadMany_BadPlace T))) (by decide +kernel)) (congrArg dS (by decide +kernel))) ?_
    refine x_let (s := dS "many") (Ev.to (e_addS (e_addS (e_var (s := dS "") rfl) (e_mulB e_str (e_isE (e_var rfl) (fun u hu => clsV_ref ne_BadMany hu) (kit_BadMany_BadMany T))) (by decide +kernel)) (e_mulB e_str (e_isE (e_var rfl) (fun u hu => clsV_ref ne_TooFew hu) (kit_BadMany_TooFew T))) (by decide +kernel)) (congrArg dS (by decide +kernel))) ?_
    refine x_let (s := dS "many") (Ev.to (e_addS (e_addS (e_var (s := dS "many") rfl) (e_mulB e_str (e_isE (e_var rfl) (fun u hu => clsV_ref ne_SamePlace hu) (kit_BadMany_SamePlace T))) (by decide +kernel)) (e_mulB e_str (e_isE (e_var rfl) (fun u hu => clsV_ref ne_NoHold hu) (kit_BadMany_NoHold T))) (by decide +kernel)) (congrArg dS (by decide +kernel))) ?_
    refine x_let (s := dS "many") (Ev.to (e_addS (e_addS (e_var (s := dS "many") rfl) (e_mulB e_str (e_isE (e_var rfl) (fun u hu => clsV_ref ne_NoEntry hu) (kit_BadMany_NoEntry T))) (by decide +kernel)) (e_mulB e_str (e_isE (e_var rfl) (fun u hu => clsV_ref ne_NoLine hu) (kit_BadMany_NoLine T))) (by decide +kernel)) (congrArg dS (by decide +kernel))) ?_
    exact x_ret (E := E) (s := dS "many") (Ev.to (e_addS (e_var (s := dS "many") rfl) (e_mulB e_str (e_notV (e_isE (e_var rfl) (fun u hu => clsV_val hu) (kit_BadMany_ValueError T)))) (by decide +kernel)) (congrArg dS (by decide +kernel))) hD (List.Sublist.refl _)
  | few =>
    refine x_let (s := dS "") (Ev.to (e_addS (e_mulB e_str (e_isE (e_var rfl) (fun u hu => clsV_ref ne_BadWare hu) (kit_TooFew_BadWare T))) (e_mulB e_str (e_isE (e_var rfl) (fun u hu => clsV_ref ne_BadPlace hu) (kit_TooFew_BadPlace T))) (by decide +kernel)) (congrArg dS (by decide +kernel))) ?_
    refine x_let (s := dS "few") (Ev.to (e_addS (e_addS (e_var (s := dS "") rfl) (e_mulB e_str (e_isE (e_var rfl) (fun u hu => clsV_ref ne_BadMany hu) (kit_TooFew_BadMany T))) (by decide +kernel)) (e_mulB e_str (e_isE (e_var rfl) (fun u hu => clsV_ref ne_TooFew hu) (kit_TooFew_TooFew T))) (by decide +kernel)) (congrArg dS (by decide +kernel))) ?_
    refine x_let (s := dS "few") (Ev.to (e_addS (e_addS (e_var (s := dS "few") rfl) (e_mulB e_str (e_isE (e_var rfl) (fun u hu => clsV_ref ne_SamePlace hu) (kit_TooFew_SamePlace T))) (by decide +kernel)) (e_mulB e_str (e_isE (e_var rfl) (fun u hu => clsV_ref ne_NoHold hu) (kit_TooFew_NoHold T))) (by decide +kernel)) (congrArg dS (by decide +kernel))) ?_
    refine x_let (s := dS "few") (Ev.to (e_addS (e_addS (e_var (s := dS "few") rfl) (e_mulB e_str (e_isE (e_var rfl) (fun u hu => clsV_ref ne_NoEntry hu) (kit_TooFew_NoEntry T))) (by decide +kernel)) (e_mulB e_str (e_isE (e_var rfl) (fun u hu => clsV_ref ne_NoLine hu) (kit_TooFew_NoLine T))) (by decide +kernel)) (congrArg dS (by decide +kernel))) ?_
    exact x_ret (E := E) (s := dS "few") (Ev.to (e_addS (e_var (s := dS "few") rfl) (e_mulB e_str (e_notV (e_isE (e_var rfl) (fun u hu => clsV_val hu) (kit_TooFew_ValueError T)))) (by decide +kernel)) (congrArg dS (by decide +kernel))) hD (List.Sublist.refl _)
  | same =>
    refine x_let (s := dS "") (Ev.to (e_addS (e_mulB e_str (e_isE (e_var rfl) (fun u hu => clsV_ref ne_BadWare hu) (kit_SamePlace_BadWare T))) (e_mulB e_str (e_isE (e_var rfl) (fun u hu => clsV_ref ne_BadPlace hu) (kit_SamePlace_BadPlace T))) (by decide +kernel)) (congrArg dS (by decide +kernel))) ?_
    refine x_let (s := dS "") (Ev.to (e_addS (e_addS (e_var (s := dS "") rfl) (e_mulB e_str (e_isE (e_var rfl) (fun u hu => clsV_ref ne_BadMany hu) (kit_SamePlace_BadMany T))) (by decide +kernel)) (e_mulB e_str (e_isE (e_var rfl) (fun u hu => clsV_ref ne_TooFew hu) (kit_SamePlace_TooFew T))) (by decide +kernel)) (congrArg dS (by decide +kernel))) ?_
    refine x_let (s := dS "same") (Ev.to (e_addS (e_addS (e_var (s := dS "") rfl) (e_mulB e_str (e_isE (e_var rfl) (fun u hu => clsV_ref ne_SamePlace hu) (kit_SamePlace_SamePlace T))) (by decide +kernel)) (e_mulB e_str (e_isE (e_var rfl) (fun u hu => clsV_ref ne_NoHold hu) (kit_SamePlace_NoHold T))) (by decide +kernel)) (congrArg dS (by decide +kernel))) ?_
    refine x_let (s := dS "same") (Ev.to (e_addS (e_addS (e_var (s := dS "same") rfl) (e_mulB e_str (e_isE (e_var rfl) (fun u hu => clsV_ref ne_NoEntry hu) (kit_SamePlace_NoEntry T))) (by decide +kernel)) (e_mulB e_str (e_isE (e_var rfl) (fun u hu => clsV_ref ne_NoLine hu) (kit_SamePlace_NoLine T))) (by decide +kernel)) (congrArg dS (by decide +kernel))) ?_
    exact x_ret (E := E) (s := dS "same") (Ev.to (e_addS (e_var (s := dS "same") rfl) (e_mulB e_str (e_notV (e_isE (e_var rfl) (fun u hu => clsV_val hu) (kit_SamePlace_ValueError T)))) (by decide +kernel)) (congrArg dS (by decide +kernel))) hD (List.Sublist.refl _)
  | hold =>
    refine x_let (s := dS "") (Ev.to (e_addS (e_mulB e_str (e_isE (e_var rfl) (fun u hu => clsV_ref ne_BadWare hu) (kit_NoHold_BadWare T))) (e_mulB e_str (e_isE (e_var rfl) (fun u hu => clsV_ref ne_BadPlace hu) (kit_NoHold_BadPlace T))) (by decide +kernel)) (congrArg dS (by decide +kernel))) ?_
    refine x_let (s := dS "") (Ev.to (e_addS (e_addS (e_var (s := dS "") rfl) (e_mulB e_str (e_isE (e_var rfl) (fun u hu => clsV_ref ne_BadMany hu) (kit_NoHold_BadMany T))) (by decide +kernel)) (e_mulB e_str (e_isE (e_var rfl) (fun u hu => clsV_ref ne_TooFew hu) (kit_NoHold_TooFew T))) (by decide +kernel)) (congrArg dS (by decide +kernel))) ?_
    refine x_let (s := dS "hold") (Ev.to (e_addS (e_addS (e_var (s := dS "") rfl) (e_mulB e_str (e_isE (e_var rfl) (fun u hu => clsV_ref ne_SamePlace hu) (kit_NoHold_SamePlace T))) (by decide +kernel)) (e_mulB e_str (e_isE (e_var rfl) (fun u hu => clsV_ref ne_NoHold hu) (kit_NoHold_NoHold T))) (by decide +kernel)) (congrArg dS (by decide +kernel))) ?_
    refine x_let (s := dS "hold") (Ev.to (e_addS (e_addS (e_var (s := dS "hold") rfl) (e_mulB e_str (e_isE (e_var rfl) (fun u hu => clsV_ref ne_NoEntry hu) (kit_NoHold_NoEntry T))) (by decide +kernel)) (e_mulB e_str (e_isE (e_var rfl) (fun u hu => clsV_ref ne_NoLine hu) (kit_NoHold_NoLine T))) (by decide +kernel)) (congrArg dS (by decide +kernel))) ?_
    exact x_ret (E := E) (s := dS "hold") (Ev.to (e_addS (e_var (s := dS "hold") rfl) (e_mulB e_str (e_notV (e_isE (e_var rfl) (fun u hu => clsV_val hu) (kit_NoHold_ValueError T)))) (by decide +kernel)) (congrArg dS (by decide +kernel))) hD (List.Sublist.refl _)
  | entry =>
    refine x_let (s := dS "") (Ev.to (e_addS (e_mulB e_str (e_isE (e_var rfl) (fun u hu => clsV_ref ne_BadWare hu) (kit_NoEntry_BadWare T))) (e_mulB e_str (e_isE (e_var rfl) (fun u hu => clsV_ref ne_BadPlace hu) (kit_NoEntry_BadPlace T))) (by decide +kernel)) (congrArg dS (by decide +kernel))) ?_
    refine x_let (s := dS "") (Ev.to (e_addS (e_addS (e_var (s := dS "") rfl) (e_mulB e_str (e_isE (e_var rfl) (fun u hu => clsV_ref ne_BadMany hu) (kit_NoEntry_BadMany T))) (by decide +kernel)) (e_mulB e_str (e_isE (e_var rfl) (fun u hu => clsV_ref ne_TooFew hu) (kit_NoEntry_TooFew T))) (by decide +kernel)) (congrArg dS (by decide +kernel))) ?_
    refine x_let (s := dS "") (Ev.to (e_addS (e_addS (e_var (s := dS "") rfl) (e_mulB e_str (e_isE (e_var rfl) (fun u hu => clsV_ref ne_SamePlace hu) (kit_NoEntry_SamePlace T))) (by decide +kernel)) (e_mulB e_str (e_isE (e_var rfl) (fun u hu => clsV_ref ne_NoHold hu) (kit_NoEntry_NoHold T))) (by decide +kernel)) (congrArg dS (by decide +kernel))) ?_
    refine x_let (s := dS "entry") (Ev.to (e_addS (e_addS (e_var (s := dS "") rfl) (e_mulB e_str (e_isE (e_var rfl) (fun u hu => clsV_ref ne_NoEntry hu) (kit_NoEntry_NoEntry T))) (by decide +kernel)) (e_mulB e_str (e_isE (e_var rfl) (fun u hu => clsV_ref ne_NoLine hu) (kit_NoEntry_NoLine T))) (by decide +kernel)) (congrArg dS (by decide +kernel))) ?_
    exact x_ret (E := E) (s := dS "entry") (Ev.to (e_addS (e_var (s := dS "entry") rfl) (e_mulB e_str (e_notV (e_isE (e_var rfl) (fun u hu => clsV_val hu) (kit_NoEntry_ValueError T)))) (by decide +kernel)) (congrArg dS (by decide +kernel))) hD (List.Sublist.refl _)
theorem sc_replayed : FnScope ["book", "floor", "entry"] ["book"] (defScope s_replayed) := ⟨rfl, rfl, rfl, by decide +kernel, rfl, by decide +kernel, by decide +kernel⟩
def g_replayed (K : PySem.W.Frag) (as : List Sv) (m : Mu) (o : Oc) : Prop := ∃ (c0 c1 : Int) (es : List Deed) (ds : List PD) (M : FM) (os : List (Option PD)), Bk c0 c1 es ds M ∧ es.length ≤ 1000 ∧ ((as = [.xl os] ∧ m = []) ∨ ∃ q, as = [.r (.ref q)] ∧ m = [(q, OO.lst (dsB es))] ∧ os = bkX es) ∧ ((os = bkX es ∧ o = .new 5 s1 (fun ps => flo (fC K) (ps.getD 0 0) (ps.getD 1 0) (ps.getD 2 0) (ps.getD 3 0) (ps.getD 4 0) M)) ∨ ∃ x c t rest, os = bkX es ++ x :: rest ∧ Bad (wr c0 0) M x c t ∧ o = .exc (He.ga K c) [])
theorem ok_replayed {P : Program} {w : World} {K : PySem.W.Frag} {mg : Str → Option Value} {base : Heap} (T : Tx K mg w) (c : He.SaysD fa fn K) : FnB P w K mg base 6 (He.fAd K ("replayed", none)) ["book"] (spG K 1 true (g_replayed K)) := by
  obtain ⟨fd_Floor___init__, g_Floor___init__, b_Floor___init__, k_Floor___init__⟩ := ok_Floor___init__ (P := P) (w := w) (base := base) T c
  obtain ⟨fd_done, g_done, b_done, k_done⟩ := ok_done (P := P) (w := w) (base := base) T c
  obtain ⟨fd, F⟩ := c.def_ 38 (d := d_replayed) rfl
  refine ⟨fd, fn_ok F sc_replayed rfl fun cdv A outer s H E hr => ⟨_, (pss_cons (ps_set (i := 1) sc_replayed.nd rfl (Or.inl rfl) (pe_make0 T.mk_Floor g_Floor___init__ (hr.mono (by decide)) (by rfl) T.m_Floor b_Floor___init__ .nil (passes_call (takes_of rfl rfl rfl rfl) (fun _ _ _ _ z => z))))
    (pss_cons (ps_for (passes_of rfl) rfl (pi_list' (K := K) rfl (pv 0)) (pg_name (i := 2) sc_replayed.nd rfl (Or.inl rfl))
      (pss_one (ps_expr (pe_call g_done (hr.mono (by decide)) (by rfl) T.m_done k_done b_done .nil (passes_call (takes_of rfl rfl rfl rfl) (fun _ _ _ _ z => z)) (pa_cons (pv 1) (pa_cons (pv 2) pa_nil))))))
    (pss_one (ps_ret (pv 1))))), ?_⟩, FunD.bindsN F (fun _ _ _ _ _ _ us hl => match us, hl with | [_], _ => rfl), F.kp⟩
  intro Γ as m o D hK hF hO hn hG hnx hD
  try dsimp only [cxOf]
  obtain ⟨c0, c1, es, ds, M, os, hB, hn, has, hor⟩ := hG
  have mk : ∀ (δ : De) (μ : Mu), EvN Γ (tMake (fC K) (spG K 1 false (Sf.g_Floor___init__ K)) [] E tNil) δ μ 5 s1 (fun ps => flo (fC K) (ps.getD 0 0) (ps.getD 1 0) (ps.getD 2 0) (ps.getD 3 0) (ps.getD 4 0) FM.new) μ := fun δ μ =>
    n_make (k := 4) hK (fun a => ⟨a, rfl, rfl, rfl⟩) fun ps h e he => by
      obtain ⟨a, b, c, d, f, rfl⟩ : ∃ a b c d f, ps = [a, b, c, d, f] := five_of h
      simp at he
      rcases he with rfl | rfl | rfl | rfl | rfl <;> simp
  rcases has with ⟨rfl, rfl⟩ | ⟨q, rfl, rfl, hos⟩
  · refine x_letN 1 (mk _ _) fun ps hps hfr => ?_
    obtain ⟨a, d1, d2, d3, l, rfl⟩ : ∃ a b c d f, ps = [a, b, c, d, f] := five_of hps
    have hW := wld c0 c1
    have may : ∀ (M : FM), ∀ b ∈ (flo (fC K) a d1 d2 d3 l M).map (·.1), Γ.may b := fun M b hb => .inr (hfr b (by simpa using hb)).1
    refine x_seq (x_for (w_listX hK (e_var rfl)) (fun i δ μ => ∃ y2 Mi, δ = [some (.xl os), some (.r (.ref a)), y2] ∧ μ = flo (fC K) a d1 d2 d3 l Mi ∧ AtN c0 c1 i Mi ∧ i ≤ es.length ∧ Run Mi (es.drop i) (ds.drop i) M) ⟨_, FM.new, rfl, rfl, AtN.new, Nat.zero_le _, hB.run⟩ ?_ ?_)
    · rintro i s δ μ gh D' hs' ⟨y2, Mi, rfl, rfl, hA, hi, hr⟩ hnx' hct' hrt' _
      refine ⟨_, gt_name, ?_⟩
      rcases Nat.lt_or_ge i es.length with hlt | hge
      · obtain ⟨e, d, M1, he, hd, hst, hr1⟩ := hr.at hlt
        have hx : s = xS (some (.tuple e.data)) := by
          have h0 : os[i]? = some (some (.tuple e.data)) := by
            have h1 : (bkX es)[i]? = some (some (.tuple e.data)) := by rw [List.getElem?_map, he]; rfl
            rcases hor with ⟨rfl, _⟩ | ⟨x, c, t, rest, rfl, _⟩
            · exact h1
            · rw [List.getElem?_append_left (by simpa using hlt)]
              exact h1
          rw [List.getElem?_map, h0] at hs'
          exact (Option.some.inj hs').symm
        subst hx
        have hok := hB.ok e (List.mem_of_getElem? he)
        refine x_drop (e_callM (m := flo (fC K) a d1 d2 d3 l Mi) (m' := flo (fC K) a d1 d2 d3 l M1) (rest := []) hK (a_cons (e_var rfl) (a_cons (e_var rfl) a_nil)) (.inl ⟨a, d1, d2, d3, l, Mi, e, _, _, rfl, rfl, hW, hA.gd, hok, hA.sz.mono (by omega), .inl ⟨d, M1, hst, rfl⟩⟩) rfl (may Mi)) ?_
        rw [List.append_nil]
        exact nx_loop hnx' ⟨_, M1, rfl, rfl, hA.step hok hst, hlt, hr1⟩
      · have hM : Mi = M := hr.done hge
        subst hM
        have hie : i = es.length := by omega
        subst hie
        rcases hor with ⟨rfl, _⟩ | ⟨x, c, t, rest, rfl, hbad, rfl⟩
        · have h1 := (List.getElem?_eq_some_iff.mp hs').1
          simp at h1
        · have hx : s = xS x := by
            rw [List.getElem?_map, List.getElem?_append_right (by simp)] at hs'
            simp at hs'
            exact hs'.symm
          subst hx
          exact x_dropX (ex_call (ro := false) (m := flo (fC K) a d1 d2 d3 l Mi) (m' := flo (fC K) a d1 d2 d3 l Mi) (rest := []) hK (a_cons (e_var rfl) (a_cons (e_var rfl) a_nil)) (.inr ⟨a, d1, d2, d3, l, Mi, c0, c1, x, c, t, rfl, rfl, hA.gd, hA.sz.mono (by omega), hbad, rfl⟩) rfl (may Mi) hD (List.nil_sublist _))
    · rintro δ μ ⟨y2, Mi, rfl, rfl, hA, hi, hr⟩
      rw [List.length_map] at hA hi hr
      rcases hor with ⟨rfl, rfl⟩ | ⟨x, c, t, rest, rfl, hbad, rfl⟩
      · have hM : Mi = M := hr.done (by simp)
        subst hM
        exact x_nx (x_retOwns (E := E) [a, d1, d2, d3, l] rfl (e_var rfl) (fun b hb => ⟨(hfr b hb).1, by simpa using hb⟩) hD (List.Sublist.refl _))
      · simp at hi
        omega
  · rcases hor with ⟨_, rfl⟩ | ⟨x, c, t, rest, hos2, _⟩
    rotate_left
    · rw [hos] at hos2
      have := congrArg List.length hos2
      simp at this
    refine x_letN 1 (mk _ _) fun ps hps hfr => ?_
    obtain ⟨a, d1, d2, d3, l, rfl⟩ : ∃ a b c d f, ps = [a, b, c, d, f] := five_of hps
    have hW := wld c0 c1
    have may : ∀ (M : FM), ∀ b ∈ (flo (fC K) a d1 d2 d3 l M).map (·.1), Γ.may b := fun M b hb => .inr (hfr b (by simpa using hb)).1
    refine x_seq (x_forO (w_listO hK (e_var rfl) (List.mem_of_getElem? (i := 5) rfl)) (fun i δ μ => ∃ y2 Mi, δ = [some (.r (.ref q)), some (.r (.ref a)), y2] ∧ μ = flo (fC K) a d1 d2 d3 l Mi ++ [(q, OO.lst (dsB es))] ∧ AtN c0 c1 i Mi ∧ i ≤ es.length ∧ Run Mi (es.drop i) (ds.drop i) M) ⟨_, FM.new, rfl, rfl, AtN.new, Nat.zero_le _, hB.run⟩ ?_ ?_ ?_)
    · rintro i s δ μ gh D' hs' ⟨y2, Mi, rfl, rfl, hA, hi, hr⟩ hnx' hct' hrt' _
      refine ⟨_, gt_name, ?_⟩
      have hlt : i < es.length := by
        have h1 := (List.getElem?_eq_some_iff.mp hs').1
        simpa [datas] using h1
      obtain ⟨e, d, M1, he, hd, hst, hr1⟩ := hr.at hlt
      have hx : s = .d (.tuple e.data) := by
        unfold datas at hs'
        rw [List.getElem?_map, List.getElem?_map, he] at hs'
        exact (Option.some.inj hs').symm
      subst hx
      have hok := hB.ok e (List.mem_of_getElem? he)
      refine x_drop (e_callM (m := flo (fC K) a d1 d2 d3 l Mi) (m' := flo (fC K) a d1 d2 d3 l M1) (rest := [(q, OO.lst (dsB es))]) hK (a_cons (e_var rfl) (a_cons (e_var rfl) a_nil)) (.inl ⟨a, d1, d2, d3, l, Mi, e, _, _, rfl, rfl, hW, hA.gd, hok, hA.sz.mono (by omega), .inl ⟨d, M1, hst, rfl⟩⟩) rfl (may Mi)) ?_
      exact nx_loop hnx' ⟨_, M1, rfl, rfl, hA.step hok hst, hlt, hr1⟩
    · rintro δ μ ⟨y2, Mi, rfl, rfl, hA, hi, hr⟩
      have hM : Mi = M := hr.done (by simp [datas])
      subst hM
      exact x_nx (x_retOwns (E := E) [a, d1, d2, d3, l] rfl (e_var rfl) (fun b hb => ⟨(hfr b hb).1, show b ∈ [a, d1, d2, d3, l, q] from List.mem_append_left [q] hb⟩) hD (List.sublist_append_left _ _))
    · rintro i δ μ ⟨y2, Mi, rfl, rfl, hA, hi, hr⟩ e he
      rw [List.mem_singleton.mp he]
      exact List.mem_append_right _ List.mem_cons_self
theorem sc_fault : FnScope ["book", "floor", "at", "entry"] ["book"] (defScope s_fault) := ⟨rfl, rfl, rfl, by decide +kernel, rfl, by decide +kernel, by decide +kernel⟩
def g_fault (K : PySem.W.Frag) (as : List Sv) (m : Mu) (o : Oc) : Prop := ∃ (c0 c1 : Int) (es : List Deed) (ds : List PD) (M : FM) (os : List (Option PD)), as = [.xl os] ∧ m = [] ∧ Bk c0 c1 es ds M ∧ es.length ≤ 1000 ∧ ((os = bkX es ∧ o = .ret dN []) ∨ ∃ x c t rest, os = bkX es ++ x :: rest ∧ Bad (wr c0 0) M x c t ∧ o = .ret (dI (es.length : Nat)) [])
theorem ok_fault {P : Program} {w : World} {K : PySem.W.Frag} {mg : Str → Option Value} {base : Heap} (T : Tx K mg w) (c : He.SaysD fa fn K) : FnB P w K mg base 6 (He.fAd K ("fault", none)) ["book"] (spG K 1 true (g_fault K)) := by
  obtain ⟨fd_Floor___init__, g_Floor___init__, b_Floor___init__, k_Floor___init__⟩ := ok_Floor___init__ (P := P) (w := w) (base := base) T c
  obtain ⟨fd_done, g_done, b_done, k_done⟩ := ok_done (P := P) (w := w) (base := base) T c
  obtain ⟨fd, F⟩ := c.def_ 39 (d := d_fault) rfl
  refine ⟨fd, fn_ok F sc_fault rfl fun cdv A outer s H E hr => ⟨_, (pss_cons (ps_set (i := 1) sc_fault.nd rfl (Or.inl rfl) (pe_make0 T.mk_Floor g_Floor___init__ (hr.mono (by decide)) (by rfl) T.m_Floor b_Floor___init__ .nil (passes_call (takes_of rfl rfl rfl rfl) (fun _ _ _ _ z => z))))
    (pss_cons (ps_for (passes_of rfl) rfl (pi_enum (by rfl) T.z_enumerate (pa_cons (pv 0) pa_nil)) (pg_tup' (K := K) (n := 2) rfl rfl (pgs_cons (pg_name (i := 2) sc_fault.nd rfl (Or.inl rfl)) (pgs_cons (pg_name (i := 3) sc_fault.nd rfl (Or.inl rfl)) pgs_nil)))
      (pss_one (ps_try_only rfl rfl ⟨by rfl, by decide, .inl T.m_StockError⟩ (takes_of rfl rfl rfl rfl) (fun W pn xe htk hown => (pss_one (ps_expr (pe_callSD g_done (hr.mono (by decide)) (by rfl) T.m_done k_done b_done .nil (passAt htk) (pa_cons (pv 1) (pa_cons (pv 3) pa_nil)))))) (fun _ _ _ _ _ _ _ => (pss_one (ps_ret (pv 2)))))))
    (pss_one (ps_ret pe_non)))), ?_⟩, FunD.bindsN F (fun _ _ _ _ _ _ us hl => match us, hl with | [_], _ => rfl), F.kp⟩
  intro Γ as m o D hK hF hO hn hG hnx hD
  try dsimp only [cxOf]
  obtain ⟨c0, c1, es, ds, M, os, rfl, rfl, hB, hn, hor⟩ := hG
  have mk : ∀ (δ : De) (μ : Mu), EvN Γ (tMake (fC K) (spG K 1 false (Sf.g_Floor___init__ K)) [] E tNil) δ μ 5 s1 (fun ps => flo (fC K) (ps.getD 0 0) (ps.getD 1 0) (ps.getD 2 0) (ps.getD 3 0) (ps.getD 4 0) FM.new) μ := fun δ μ =>
    n_make (k := 4) hK (fun a => ⟨a, rfl, rfl, rfl⟩) fun ps h e he => by
      obtain ⟨a, b, c, d, f, rfl⟩ : ∃ a b c d f, ps = [a, b, c, d, f] := five_of h
      simp at he
      rcases he with rfl | rfl | rfl | rfl | rfl <;> simp
  refine x_letN 1 (mk _ _) fun ps hps hfr => ?_
  obtain ⟨a, d1, d2, d3, l, rfl⟩ : ∃ a b c d f, ps = [a, b, c, d, f] := five_of hps
  have hW := wld c0 c1
  have may : ∀ (M : FM), ∀ b ∈ (flo (fC K) a d1 d2 d3 l M).map (·.1), Γ.may b := fun M b hb => .inr (hfr b (by simpa using hb)).1
  refine x_seq (x_for (w_enumX hK (e_var rfl)) (fun i δ μ => ∃ y2 y3 Mi, δ = [some (.xl os), some (.r (.ref a)), y2, y3] ∧ μ = flo (fC K) a d1 d2 d3 l Mi ∧ AtN c0 c1 i Mi ∧ i ≤ es.length ∧ Run Mi (es.drop i) (ds.drop i) M) ⟨_, _, FM.new, rfl, rfl, AtN.new, Nat.zero_le _, hB.run⟩ ?_ ?_)
  · rintro i s δ μ gh D' hs' ⟨y2, y3, Mi, rfl, rfl, hA, hi, hr⟩ hnx' hct' hrt' _
    have hio : i < os.length := by
      have h1 := (List.getElem?_eq_some_iff.mp hs').1
      rwa [enumX_len] at h1
    obtain ⟨x0, hx0⟩ : ∃ x0, os[i]? = some x0 := ⟨_, List.getElem?_eq_getElem hio⟩
    have hs0 : s = .xt [some (.int (i : Nat)), x0] := by
      rw [enumX_get hx0] at hs'
      exact (Option.some.inj hs').symm
    subst hs0
    refine ⟨_, gt_tupX hK, ?_⟩
    rcases Nat.lt_or_ge i es.length with hlt | hge
    · obtain ⟨e, d, M1, he, hd, hst, hr1⟩ := hr.at hlt
      have hx : x0 = some (.tuple e.data) := by
        have h1 : (bkX es)[i]? = some (some (.tuple e.data)) := by rw [List.getElem?_map, he]; rfl
        rcases hor with ⟨rfl, _⟩ | ⟨x, c, t, rest, rfl, _⟩
        · rw [h1] at hx0
          exact (Option.some.inj hx0).symm
        · rw [List.getElem?_append_left (by simpa using hlt), h1] at hx0
          exact (Option.some.inj hx0).symm
      subst hx
      have hok := hB.ok e (List.mem_of_getElem? he)
      intro σ W A
      refine sx_run (x_drop (e_callMSD (Γ := { Γ with gh := gh }) (m := flo (fC K) a d1 d2 d3 l Mi) (m' := flo (fC K) a d1 d2 d3 l M1) (rest := []) hK (a_cons (e_var rfl) (a_cons (e_var rfl) a_nil)) (.inl ⟨a, d1, d2, d3, l, Mi, e, _, _, rfl, rfl, hW, hA.gd, hok, hA.sz.mono (by omega), .inl ⟨d, M1, hst, rfl⟩⟩) rfl (may Mi)) ?_) A
      rw [List.append_nil]
      exact nx_loop hnx' ⟨_, _, M1, rfl, rfl, hA.step hok hst, hlt, hr1⟩
    · have hM : Mi = M := hr.done hge
      subst hM
      have hie : i = es.length := by omega
      subst hie
      rcases hor with ⟨rfl, _⟩ | ⟨x, c, t, rest, rfl, hbad, rfl⟩
      · simp at hio
      · have hx : x0 = x := by
          rw [List.getElem?_append_right (by simp)] at hx0
          simp at hx0
          exact hx0.symm
        subst hx
        have hcl := hbad.cls
        intro σ W A
        cases hcl with
        | ware =>
          exact sx_run (x_dropX (ex_callSD (Γ := { Γ with gh := gh }) (ro := false) (m := flo (fC K) a d1 d2 d3 l Mi) (m' := flo (fC K) a d1 d2 d3 l Mi) (rest := []) hK (a_cons (e_var rfl) (a_cons (e_var rfl) a_nil)) (.inr ⟨a, d1, d2, d3, l, Mi, c0, c1, x0, _, _, rfl, rfl, hA.gd, hA.sz.mono (by omega), hbad, rfl⟩) rfl (may Mi) (wi_yes T.em_BadWare_StockError fun _ => x_ret (E := E) (s := dI (es.length : Nat)) (e_var rfl) (by rw [hrt']; exact hD) (List.nil_sublist _)))) A
        | place =>
          exact sx_run (x_dropX (ex_callSD (Γ := { Γ with gh := gh }) (ro := false) (m := flo (fC K) a d1 d2 d3 l Mi) (m' := flo (fC K) a d1 d2 d3 l Mi) (rest := []) hK (a_cons (e_var rfl) (a_cons (e_var rfl) a_nil)) (.inr ⟨a, d1, d2, d3, l, Mi, c0, c1, x0, _, _, rfl, rfl, hA.gd, hA.sz.mono (by omega), hbad, rfl⟩) rfl (may Mi) (wi_yes T.em_BadPlace_StockError fun _ => x_ret (E := E) (s := dI (es.length : Nat)) (e_var rfl) (by rw [hrt']; exact hD) (List.nil_sublist _)))) A
        | many =>
          exact sx_run (x_dropX (ex_callSD (Γ := { Γ with gh := gh }) (ro := false) (m := flo (fC K) a d1 d2 d3 l Mi) (m' := flo (fC K) a d1 d2 d3 l Mi) (rest := []) hK (a_cons (e_var rfl) (a_cons (e_var rfl) a_nil)) (.inr ⟨a, d1, d2, d3, l, Mi, c0, c1, x0, _, _, rfl, rfl, hA.gd, hA.sz.mono (by omega), hbad, rfl⟩) rfl (may Mi) (wi_yes T.em_BadMany_StockError fun _ => x_ret (E := E) (s := dI (es.length : Nat)) (e_var rfl) (by rw [hrt']; exact hD) (List.nil_sublist _)))) A
        | few =>
          exact sx_run (x_dropX (ex_callSD (Γ := { Γ with gh := gh }) (ro := false) (m := flo (fC K) a d1 d2 d3 l Mi) (m' := flo (fC K) a d1 d2 d3 l Mi) (rest := []) hK (a_cons (e_var rfl) (a_cons (e_var rfl) a_nil)) (.inr ⟨a, d1, d2, d3, l, Mi, c0, c1, x0, _, _, rfl, rfl, hA.gd, hA.sz.mono (by omega), hbad, rfl⟩) rfl (may Mi) (wi_yes T.em_TooFew_StockError fun _ => x_ret (E := E) (s := dI (es.length : Nat)) (e_var rfl) (by rw [hrt']; exact hD) (List.nil_sublist _)))) A
        | same =>
          exact sx_run (x_dropX (ex_callSD (Γ := { Γ with gh := gh }) (ro := false) (m := flo (fC K) a d1 d2 d3 l Mi) (m' := flo (fC K) a d1 d2 d3 l Mi) (rest := []) hK (a_cons (e_var rfl) (a_cons (e_var rfl) a_nil)) (.inr ⟨a, d1, d2, d3, l, Mi, c0, c1, x0, _, _, rfl, rfl, hA.gd, hA.sz.mono (by omega), hbad, rfl⟩) rfl (may Mi) (wi_yes T.em_SamePlace_StockError fun _ => x_ret (E := E) (s := dI (es.length : Nat)) (e_var rfl) (by rw [hrt']; exact hD) (List.nil_sublist _)))) A
        | hold =>
          exact sx_run (x_dropX (ex_callSD (Γ := { Γ with gh := gh }) (ro := false) (m := flo (fC K) a d1 d2 d3 l Mi) (m' := flo (fC K) a d1 d2 d3 l Mi) (rest := []) hK (a_cons (e_var rfl) (a_cons (e_var rfl) a_nil)) (.inr ⟨a, d1, d2, d3, l, Mi, c0, c1, x0, _, _, rfl, rfl, hA.gd, hA.sz.mono (by omega), hbad, rfl⟩) rfl (may Mi) (wi_yes T.em_NoHold_StockError fun _ => x_ret (E := E) (s := dI (es.length : Nat)) (e_var rfl) (by rw [hrt']; exact hD) (List.nil_sublist _)))) A
        | entry =>
          exact sx_run (x_dropX (ex_callSD (Γ := { Γ with gh := gh }) (ro := false) (m := flo (fC K) a d1 d2 d3 l Mi) (m' := flo (fC K) a d1 d2 d3 l Mi) (rest := []) hK (a_cons (e_var rfl) (a_cons (e_var rfl) a_nil)) (.inr ⟨a, d1, d2, d3, l, Mi, c0, c1, x0, _, _, rfl, rfl, hA.gd, hA.sz.mono (by omega), hbad, rfl⟩) rfl (may Mi) (wi_yes T.em_NoEntry_StockError fun _ => x_ret (E := E) (s := dI (es.length : Nat)) (e_var rfl) (by rw [hrt']; exact hD) (List.nil_sublist _)))) A
  · rintro δ μ ⟨y2, y3, Mi, rfl, rfl, hA, hi, hr⟩
    rw [enumX_len] at hA hi hr
    rcases hor with ⟨rfl, rfl⟩ | ⟨x, c, t, rest, rfl, hbad, rfl⟩
    · exact x_nx (x_ret (E := E) e_non hD (List.nil_sublist _))
    · simp at hi
      omega
theorem sc__law_refused : FnScope ["_law_book", "_law_e"] ["_law_book"] (defScope s__law_refused) := ⟨rfl, rfl, rfl, by decide +kernel, rfl, by decide +kernel, by decide +kernel⟩
def g__law_refused (K : PySem.W.Frag) (as : List Sv) (m : Mu) (o : Oc) : Prop := ∃ (c0 c1 : Int) (es : List Deed) (ds : List PD) (M : FM) (os : List (Option PD)) (x : Option PD) (c t : Str) (rest : List (Option PD)), as = [.xl os] ∧ m = [] ∧ Bk c0 c1 es ds M ∧ es.length ≤ 1000 ∧ os = bkX es ++ x :: rest ∧ Bad (wr c0 0) M x c t ∧ o = .ret (dS t) []
theorem ok__law_refused {P : Program} {w : World} {K : PySem.W.Frag} {mg : Str → Option Value} {base : Heap} (T : Tx K mg w) (c : He.SaysD fa fn K) : FnB P w K mg base 7 (He.fAd K ("_law_refused", none)) ["_law_book"] (spG K 1 true (g__law_refused K)) := by
  obtain ⟨fd_replayed, g_replayed, b_replayed, k_replayed⟩ := ok_replayed (P := P) (w := w) (base := base) T c
  obtain ⟨fd__law_names, g__law_names, b__law_names, k__law_names⟩ := ok__law_names (P := P) (w := w) (base := base) T c
  obtain ⟨fd, F⟩ := c.def_ 52 (d := d__law_refused) rfl
  refine ⟨fd, fn_ok F sc__law_refused rfl fun cdv A outer s H E hr => ⟨_, (pss_cons (ps_try_as (i := 1) rfl rfl sc__law_refused.nd rfl rfl ⟨by rfl, by decide, .inl T.m_StockError⟩ (takes_of rfl rfl rfl rfl) (fun W pn xe htk hown => (pss_one (ps_expr (pe_callSD g_replayed (hr.mono (by decide)) (by rfl) T.m_replayed k_replayed b_replayed .nil (passAt htk) (pa_cons (pv 0) pa_nil))))) (fun a oe cls d pn hz hf => pss_gd (p := ECls K cls d) fun hE => (pss_one (ps_ret (pe_callE g__law_names (roomH_mark (hr.mono (by decide)) ) List.mem_cons_self (ecls_zc hE hz) hf hE.2.2 (by rfl) T.m__law_names k__law_names b__law_names (pa_cons (pv 1) pa_nil))))))
    (pss_one (ps_ret pe_str))), ?_⟩, FunD.bindsN F (fun _ _ _ _ _ _ us hl => match us, hl with | [_], _ => rfl), F.kp⟩
  intro Γ as m o D hK hF hO hn hG hnx hD
  try dsimp only [cxOf]
  obtain ⟨c0, c1, es, ds, M, os, x, c, t, rest, rfl, rfl, hB, hn, hos, hbad, rfl⟩ := hG
  have hcl := hbad.cls
  cases hcl with
  | ware =>
    refine x_seq (fun σ W A => sx_run (x_dropX (ex_callSD (ro := true) (m := []) (m' := []) (rest := []) hK (a_cons (e_var rfl) a_nil) ⟨c0, c1, es, ds, M, os, hB, hn, .inl ⟨rfl, rfl⟩, .inr ⟨x, _, _, rest, hos, hbad, rfl⟩⟩ rfl (fun b hb => nomatch hb) (wi_yesAs T.em_BadWare_StockError fun ea D' hrt => ?_))) A)
    refine x_gd (exB_cls T.xc (x := "BadWare") (List.mem_of_getElem? (i := 0) rfl)) ?_
    exact x_ret (E := E) (e_callE hK (a_cons (e_var rfl) a_nil) ⟨_, _, .ware, rfl, rfl, rfl, rfl⟩ (List.nil_sublist _)) (by rw [hrt]; exact hD) (List.nil_sublist _)
  | place =>
    refine x_seq (fun σ W A => sx_run (x_dropX (ex_callSD (ro := true) (m := []) (m' := []) (rest := []) hK (a_cons (e_var rfl) a_nil) ⟨c0, c1, es, ds, M, os, hB, hn, .inl ⟨rfl, rfl⟩, .inr ⟨x, _, _, rest, hos, hbad, rfl⟩⟩ rfl (fun b hb => nomatch hb) (wi_yesAs T.em_BadPlace_StockError fun ea D' hrt => ?_))) A)
    refine x_gd (exB_cls T.xc (x := "BadPlace") (List.mem_of_getElem? (i := 1) rfl)) ?_
    exact x_ret (E := E) (e_callE hK (a_cons (e_var rfl) a_nil) ⟨_, _, .place, rfl, rfl, rfl, rfl⟩ (List.nil_sublist _)) (by rw [hrt]; exact hD) (List.nil_sublist _)
  | many =>
    refine x_seq (fun σ W A => sx_run (x_dropX (ex_callSD (ro := true) (m := []) (m' := []) (rest := []) hK (a_cons (e_var rfl) a_nil) ⟨c0, c1, es, ds, M, os, hB, hn, .inl ⟨rfl, rfl⟩, .inr ⟨x, _, _, rest, hos, hbad, rfl⟩⟩ rfl (fun b hb => nomatch hb) (wi_yesAs T.em_BadMany_StockError fun ea D' hrt => ?_))) A)
    refine x_gd (exB_cls T.xc (x := "BadMany") (List.mem_of_getElem? (i := 2) rfl)) ?_
    exact x_ret (E := E) (e_callE hK (a_cons (e_var rfl) a_nil) ⟨_, _, .many, rfl, rfl, rfl, rfl⟩ (List.nil_sublist _)) (by rw [hrt]; exact hD) (List.nil_sublist _)
  | few =>
    refine x_seq (fun σ W A => sx_run (x_dropX (ex_callSD (ro := true) (m := []) (m' := []) (rest := []) hK (a_cons (e_var rfl) a_nil) ⟨c0, c1, es, ds, M, os, hB, hn, .inl ⟨rfl, rfl⟩, .inr ⟨x, _, _, rest, hos, hbad, rfl⟩⟩ rfl (fun b hb => nomatch hb) (wi_yesAs T.em_TooFew_StockError fun ea D' hrt => ?_))) A)
    refine x_gd (exB_cls T.xc (x := "TooFew") (List.mem_of_getElem? (i := 3) rfl)) ?_
    exact x_ret (E := E) (e_callE hK (a_cons (e_var rfl) a_nil) ⟨_, _, .few, rfl, rfl, rfl, rfl⟩ (List.nil_sublist _)) (by rw [hrt]; exact hD) (List.nil_sublist _)
  | same =>
    refine x_seq (fun σ W A => sx_run (x_dropX (ex_callSD (ro := true) (m := []) (m' := []) (rest := []) hK (a_cons (e_var rfl) a_nil) ⟨c0, c1, es, ds, M, os, hB, hn, .inl ⟨rfl, rfl⟩, .inr ⟨x, _, _, rest, hos, hbad, rfl⟩⟩ rfl (fun b hb => nomatch hb) (wi_yesAs T.em_SamePlace_StockError fun ea D' hrt => ?_))) A)
    refine x_gd (exB_cls T.xc (x := "SamePlace") (List.mem_of_getElem? (i := 4) rfl)) ?_
    exact x_ret (E := E) (e_callE hK (a_cons (e_var rfl) a_nil) ⟨_, _, .same, rfl, rfl, rfl, rfl⟩ (List.nil_sublist _)) (by rw [hrt]; exact hD) (List.nil_sublist _)
  | hold =>
    refine x_seq (fun σ W A => sx_run (x_dropX (ex_callSD (ro := true) (m := []) (m' := []) (rest := []) hK (a_cons (e_var rfl) a_nil) ⟨c0, c1, es, ds, M, os, hB, hn, .inl ⟨rfl, rfl⟩, .inr ⟨x, _, _, rest, hos, hbad, rfl⟩⟩ rfl (fun b hb => nomatch hb) (wi_yesAs T.em_NoHold_StockError fun ea D' hrt => ?_))) A)
    refine x_gd (exB_cls T.xc (x := "NoHold") (List.mem_of_getElem? (i := 5) rfl)) ?_
    exact x_ret (E := E) (e_callE hK (a_cons (e_var rfl) a_nil) ⟨_, _, .hold, rfl, rfl, rfl, rfl⟩ (List.nil_sublist _)) (by rw [hrt]; exact hD) (List.nil_sublist _)
  | entry =>
    refine x_seq (fun σ W A => sx_run (x_dropX (ex_callSD (ro := true) (m := []) (m' := []) (rest := []) hK (a_cons (e_var rfl) a_nil) ⟨c0, c1, es, ds, M, os, hB, hn, .inl ⟨rfl, rfl⟩, .inr ⟨x, _, _, rest, hos, hbad, rfl⟩⟩ rfl (fun b hb => nomatch hb) (wi_yesAs T.em_NoEntry_StockError fun ea D' hrt => ?_))) A)
    refine x_gd (exB_cls T.xc (x := "NoEntry") (List.mem_of_getElem? (i := 6) rfl)) ?_
    exact x_ret (E := E) (e_callE hK (a_cons (e_var rfl) a_nil) ⟨_, _, .entry, rfl, rfl, rfl, rfl⟩ (List.nil_sublist _)) (by rw [hrt]; exact hD) (List.nil_sublist _)
theorem sc__law_done_alone : FnScope ["_law_floor", "_law_entry", "_law_e"] ["_law_floor", "_law_entry"] (defScope s__law_done_alone) := ⟨rfl, rfl, rfl, by decide +kernel, rfl, by decide +kernel, by decide +kernel⟩
def g__law_done_alone (K : PySem.W.Frag) (as : List Sv) (m : Mu) (o : Oc) : Prop := ∃ (a d1 d2 d3 l : Addr) (M : FM) (c0 c1 : Int) (x : Option PD) (c t : Str), as = [.r (.ref a), xS x] ∧ m = flo (fC K) a d1 d2 d3 l M ∧ Good (plL c1) (wrL c0) M ∧ M.sz 39000 ∧ Bad (wr c0 0) M x c t ∧ o = .ret (dS t) (flo (fC K) a d1 d2 d3 l M)
theorem ok__law_done_alone {P : Program} {w : World} {K : PySem.W.Frag} {mg : Str → Option Value} {base : Heap} (T : Tx K mg w) (c : He.SaysD fa fn K) : FnB P w K mg base 6 (He.fAd K ("_law_done_alone", none)) ["_law_floor", "_law_entry"] (spG K 2 false (g__law_done_alone K)) := by
  obtain ⟨fd_done, g_done, b_done, k_done⟩ := ok_done (P := P) (w := w) (base := base) T c
  obtain ⟨fd__law_names, g__law_names, b__law_names, k__law_names⟩ := ok__law_names (P := P) (w := w) (base := base) T c
  obtain ⟨fd, F⟩ := c.def_ 53 (d := d__law_done_alone) rfl
  refine ⟨fd, fn_ok F sc__law_done_alone rfl fun cdv A outer s H E hr => ⟨_, (pss_cons (ps_try_as (i := 2) rfl rfl sc__law_done_alone.nd rfl rfl ⟨by rfl, by decide, .inl T.m_StockError⟩ (takes_of rfl rfl rfl rfl) (fun W pn xe htk hown => (pss_one (ps_expr (pe_callSD g_done (hr.mono (by decide)) (by rfl) T.m_done k_done b_done .nil (passAt htk) (pa_cons (pv 0) (pa_cons (pv 1) pa_nil)))))) (fun a oe cls d pn hz hf => pss_gd (p := ECls K cls d) fun hE => (pss_one (ps_ret (pe_callE g__law_names (roomH_mark (hr.mono (by decide)) ) List.mem_cons_self (ecls_zc hE hz) hf hE.2.2 (by rfl) T.m__law_names k__law_names b__law_names (pa_cons (pv 2) pa_nil))))))
    (pss_one (ps_ret pe_str))), ?_⟩, FunD.bindsN F (fun _ _ _ _ _ _ us hl => match us, hl with | [_, _], _ => rfl), F.kp⟩
  intro Γ as m o D hK hF hO hn hG hnx hD
  try dsimp only [cxOf]
  obtain ⟨a, d1, d2, d3, l, M, c0, c1, x, c, t, rfl, rfl, hGd, hz, hbad, rfl⟩ := hG
  have hcl := hbad.cls
  cases hcl with
  | ware =>
    refine x_seq (fun σ W A => sx_run (x_dropX (ex_callSD (ro := false) (m := flo (fC K) a d1 d2 d3 l M) (m' := flo (fC K) a d1 d2 d3 l M) (rest := []) hK (a_cons (e_var rfl) (a_cons (e_var rfl) a_nil)) (.inr ⟨a, d1, d2, d3, l, M, c0, c1, x, _, _, rfl, rfl, hGd, hz, hbad, rfl⟩) rfl (may_all hF rfl) (wi_yesAs T.em_BadWare_StockError fun ea D' hrt => ?_))) A)
    rw [List.append_nil]
    refine x_gd (exB_cls T.xc (x := "BadWare") (List.mem_of_getElem? (i := 0) rfl)) ?_
    exact x_ret (E := E) (e_callE hK (a_cons (e_var rfl) a_nil) ⟨_, _, .ware, rfl, rfl, rfl, rfl⟩ (List.nil_sublist _)) (by rw [hrt]; exact hD) (List.Sublist.refl _)
  | place =>
    refine x_seq (fun σ W A => sx_run (x_dropX (ex_callSD (ro := false) (m := flo (fC K) a d1 d2 d3 l M) (m' := flo (fC K) a d1 d2 d3 l M) (rest := []) hK (a_cons (e_var rfl) (a_cons (e_var rfl) a_nil)) (.inr ⟨a, d1, d2, d3, l, M, c0, c1, x, _, _, rfl, rfl, hGd, hz, hbad, rfl⟩) rfl (may_all hF rfl) (wi_yesAs T.em_BadPlace_StockError fun ea D' hrt => ?_))) A)
    rw [List.append_nil]
    refine x_gd (exB_cls T.xc (x := "BadPlace") (List.mem_of_getElem? (i := 1) rfl)) ?_
    exact x_ret (E := E) (e_callE hK (a_cons (e_var rfl) a_nil) ⟨_, _, .place, rfl, rfl, rfl, rfl⟩ (List.nil_sublist _)) (by rw [hrt]; exact hD) (List.Sublist.refl _)
  | many =>
    refine x_seq (fun σ W A => sx_run (x_dropX (ex_callSD (ro := false) (m := flo (fC K) a d1 d2 d3 l M) (m' := flo (fC K) a d1 d2 d3 l M) (rest := []) hK (a_cons (e_var rfl) (a_cons (e_var rfl) a_nil)) (.inr ⟨a, d1, d2, d3, l, M, c0, c1, x, _, _, rfl, rfl, hGd, hz, hbad, rfl⟩) rfl (may_all hF rfl) (wi_yesAs T.em_BadMany_StockError fun ea D' hrt => ?_))) A)
    rw [List.append_nil]
    refine x_gd (exB_cls T.xc (x := "BadMany") (List.mem_of_getElem? (i := 2) rfl)) ?_
    exact x_ret (E := E) (e_callE hK (a_cons (e_var rfl) a_nil) ⟨_, _, .many, rfl, rfl, rfl, rfl⟩ (List.nil_sublist _)) (by rw [hrt]; exact hD) (List.Sublist.refl _)
  | few =>
    refine x_seq (fun σ W A => sx_run (x_dropX (ex_callSD (ro := false) (m := flo (fC K) a d1 d2 d3 l M) (m' := flo (fC K) a d1 d2 d3 l M) (rest := []) hK (a_cons (e_var rfl) (a_cons (e_var rfl) a_nil)) (.inr ⟨a, d1, d2, d3, l, M, c0, c1, x, _, _, rfl, rfl, hGd, hz, hbad, rfl⟩) rfl (may_all hF rfl) (wi_yesAs T.em_TooFew_StockError fun ea D' hrt => ?_))) A)
    rw [List.append_nil]
    refine x_gd (exB_cls T.xc (x := "TooFew") (List.mem_of_getElem? (i := 3) rfl)) ?_
    exact x_ret (E := E) (e_callE hK (a_cons (e_var rfl) a_nil) ⟨_, _, .few, rfl, rfl, rfl, rfl⟩ (List.nil_sublist _)) (by rw [hrt]; exact hD) (List.Sublist.refl _)
  | same =>
    refine x_seq (fun σ W A => sx_run (x_dropX (ex_callSD (ro := false) (m := flo (fC K) a d1 d2 d3 l M) (m' := flo (fC K) a d1 d2 d3 l M) (rest := []) hK (a_cons (e_var rfl) (a_cons (e_var rfl) a_nil)) (.inr ⟨a, d1, d2, d3, l, M, c0, c1, x, _, _, rfl, rfl, hGd, hz, hbad, rfl⟩) rfl (may_all hF rfl) (wi_yesAs T.em_SamePlace_StockError fun ea D' hrt => ?_))) A)
    rw [List.append_nil]
    refine x_gd (exB_cls T.xc (x := "SamePlace") (List.mem_of_getElem? (i := 4) rfl)) ?_
    exact x_ret (E := E) (e_callE hK (a_cons (e_var rfl) a_nil) ⟨_, _, .same, rfl, rfl, rfl, rfl⟩ (List.nil_sublist _)) (by rw [hrt]; exact hD) (List.Sublist.refl _)
  | hold =>
    refine x_seq (fun σ W A => sx_run (x_dropX (ex_callSD (ro := false) (m := flo (fC K) a d1 d2 d3 l M) (m' := flo (fC K) a d1 d2 d3 l M) (rest := []) hK (a_cons (e_var rfl) (a_cons (e_var rfl) a_nil)) (.inr ⟨a, d1, d2, d3, l, M, c0, c1, x, _, _, rfl, rfl, hGd, hz, hbad, rfl⟩) rfl (may_all hF rfl) (wi_yesAs T.em_NoHold_StockError fun ea D' hrt => ?_))) A)
    rw [List.append_nil]
    refine x_gd (exB_cls T.xc (x := "NoHold") (List.mem_of_getElem? (i := 5) rfl)) ?_
    exact x_ret (E := E) (e_callE hK (a_cons (e_var rfl) a_nil) ⟨_, _, .hold, rfl, rfl, rfl, rfl⟩ (List.nil_sublist _)) (by rw [hrt]; exact hD) (List.Sublist.refl _)
  | entry =>
    refine x_seq (fun σ W A => sx_run (x_dropX (ex_callSD (ro := false) (m := flo (fC K) a d1 d2 d3 l M) (m' := flo (fC K) a d1 d2 d3 l M) (rest := []) hK (a_cons (e_var rfl) (a_cons (e_var rfl) a_nil)) (.inr ⟨a, d1, d2, d3, l, M, c0, c1, x, _, _, rfl, rfl, hGd, hz, hbad, rfl⟩) rfl (may_all hF rfl) (wi_yesAs T.em_NoEntry_StockError fun ea D' hrt => ?_))) A)
    rw [List.append_nil]
    refine x_gd (exB_cls T.xc (x := "NoEntry") (List.mem_of_getElem? (i := 6) rfl)) ?_
    exact x_ret (E := E) (e_callE hK (a_cons (e_var rfl) a_nil) ⟨_, _, .entry, rfl, rfl, rfl, rfl⟩ (List.nil_sublist _)) (by rw [hrt]; exact hD) (List.Sublist.refl _)
theorem sc__law_entry_by : FnScope ["_law_cell", "_law_places_here", "_law_wares_here", "_law_scale_here", "_law_last", "_law_more_here", "_law_place", "_law_goal", "_law_ware", "_law_many", "_law_number", "_law_some"] ["_law_cell", "_law_places_here", "_law_wares_here", "_law_scale_here", "_law_last"] (defScope s__law_entry_by) := ⟨rfl, rfl, rfl, by decide +kernel, rfl, by decide +kernel, by decide +kernel⟩
def g__law_entry_by (K : PySem.W.Frag) (as : List Sv) (m : Mu) (o : Oc) : Prop := ∃ z c0 c1 sc last, as = [dI z, dL (plD c1), dL (wrD c0), dI sc, dI last] ∧ m = [] ∧ 0 ≤ last ∧ o = .ret (dU (entry10 c0 c1 z sc last).data) []
theorem ok__law_entry_by {P : Program} {w : World} {K : PySem.W.Frag} {mg : Str → Option Value} {base : Heap} (T : Tx K mg w) (c : He.SaysD fa fn K) : FnB P w K mg base 1 (He.fAd K ("_law_entry_by", none)) ["_law_cell", "_law_places_here", "_law_wares_here", "_law_scale_here", "_law_last"] (spG K 5 true (g__law_entry_by K)) := by
  obtain ⟨fd, F⟩ := c.def_ 45 (d := d__law_entry_by) rfl
  refine ⟨fd, fn_ok F sc__law_entry_by rfl fun cdv A outer s H E hr => ⟨_, (pss_cons (ps_set (i := 5) sc__law_entry_by.nd rfl (Or.inl rfl) (pe_op op_fdiv (pv 0) pe_int))
    (pss_cons (ps_set (i := 6) sc__law_entry_by.nd rfl (Or.inl rfl) (pe_ix (ix_list' (K := K) rfl) (pv 1) (pe_op op_mod (pv 5) pe_int) (fun _ _ => rfl)))
    (pss_cons (ps_set (i := 7) sc__law_entry_by.nd rfl (Or.inl rfl) (pe_ix (ix_list' (K := K) rfl) (pv 1) (pe_op op_mod (pe_op op_fdiv (pv 5) pe_int) pe_int) (fun _ _ => rfl)))
    (pss_cons (ps_set (i := 8) sc__law_entry_by.nd rfl (Or.inl rfl) (pe_ix (ix_list' (K := K) rfl) (pv 2) (pe_op op_mod (pe_op op_fdiv (pv 5) pe_int) pe_int) (fun _ _ => rfl)))
    (pss_cons (ps_set (i := 9) sc__law_entry_by.nd rfl (Or.inl rfl) (pe_op op_mul (pe_op op_add pe_int (pe_op op_mod (pe_op op_fdiv (pv 5) pe_int) pe_int)) (pv 3)))
    (pss_cons (ps_set (i := 10) sc__law_entry_by.nd rfl (Or.inl rfl) (pe_op op_add pe_int (pe_op op_mod (pv 5) (pe_op op_add (pv 4) pe_int))))
    (pss_cons (ps_set (i := 11) sc__law_entry_by.nd rfl (Or.inl rfl) (pe_lst (pa_cons (pe_tup (pa_cons pe_str (pa_cons (pv 6) (pa_cons (pv 8) (pa_cons (pe_op op_mul pe_int (pv 9)) pa_nil))))) (pa_cons (pe_tup (pa_cons pe_str (pa_cons (pv 6) (pa_cons (pv 8) (pa_cons (pe_op op_mul pe_int (pv 9)) pa_nil))))) (pa_cons (pe_tup (pa_cons pe_str (pa_cons (pv 6) (pa_cons (pv 8) (pa_cons (pv 9) pa_nil))))) (pa_cons (pe_tup (pa_cons pe_str (pa_cons (pv 6) (pa_cons (pv 8) (pa_cons (pv 9) pa_nil))))) (pa_cons (pe_tup (pa_cons pe_str (pa_cons (pv 6) (pa_cons (pv 7) (pa_cons (pv 8) (pa_cons (pv 9) pa_nil)))))) (pa_cons (pe_tup (pa_cons pe_str (pa_cons (pv 6) (pa_cons (pv 8) (pa_cons (pv 9) pa_nil))))) (pa_cons (pe_tup (pa_cons pe_str (pa_cons (pv 6) (pa_cons (pv 8) (pa_cons (pv 9) pa_nil))))) (pa_cons (pe_tup (pa_cons pe_str (pa_cons (pv 10) pa_nil))) (pa_cons (pe_tup (pa_cons pe_str (pa_cons (pv 10) pa_nil))) (pa_cons (pe_tup (pa_cons pe_str (pa_cons (pv 10) (pa_cons (pv 7) pa_nil)))) (pa_cons (pe_tup (pa_cons pe_str (pa_cons (pv 6) (pa_cons (pv 8) (pa_cons (pe_op op_sub (pe_op op_mul pe_int (pv 9)) (pe_op op_mul pe_int (pv 3))) pa_nil))))) (pa_cons (pe_tup (pa_cons pe_str (pa_cons (pv 6) (pa_cons (pv 8) (pa_cons (pe_op op_sub (pv 9) (pv 3)) pa_nil))))) (pa_cons (pe_tup (pa_cons pe_str (pa_cons (pv 8) (pa_cons (pe_op op_mul pe_int (pv 9)) pa_nil)))) (pa_cons (pe_tup (pa_cons pe_str (pa_cons (pv 8) (pa_cons (pv 9) pa_nil)))) (pa_cons (pe_tup (pa_cons pe_str (pa_cons (pv 6) (pa_cons (pv 8) (pa_cons (pe_op op_mul pe_int (pv 9)) pa_nil))))) pa_nil)))))))))))))))))
    (pss_one (ps_ret (pe_ix (ix_list' (K := K) rfl) (pv 11) (pe_op op_mod (pv 0) pe_int) (fun _ _ => rfl))))))))))), ?_⟩, FunD.bindsN F (fun _ _ _ _ _ _ us hl => match us, hl with | [_, _, _, _, _], _ => rfl), F.kp⟩
  intro Γ as m o D hK hF hO hn hG hnx hD
  try dsimp only [cxOf]
  obtain ⟨z, c0, c1, sc, last, rfl, rfl, hl, rfl⟩ := hG
  have ha : (z / 15 % 4).toNat < 4 := by omega
  have hb : (z / 15 / 4 % 4).toNat < 4 := by omega
  have hw : (z / 15 / 16 % 3).toNat < 3 := by omega
  have ea : z / 15 % 4 = ((z / 15 % 4).toNat : Int) := by omega
  have eb : z / 15 / 4 % 4 = ((z / 15 / 4 % 4).toNat : Int) := by omega
  have ew : z / 15 / 16 % 3 = ((z / 15 / 16 % 3).toNat : Int) := by omega
  have he : (z % 15).toNat < 15 := by omega
  have ee : z % 15 = ((z % 15).toNat : Int) := by omega
  refine x_let (e_opIC (e_var rfl) e_int ⟨by decide, by decide⟩) ?_
  refine x_let (s := dI (pl c1 (z / 15 % 4).toNat)) (e_ixL hK (e_var rfl) (Ev.to (e_opIC (e_var rfl) e_int (by show (0 : Int) < 4; decide)) (congrArg dI ea)) (atI_nat (plD_get ha))) ?_
  refine x_let (s := dI (pl c1 (z / 15 / 4 % 4).toNat)) (e_ixL hK (e_var rfl) (Ev.to (e_opIC (e_opIC (e_var rfl) e_int ⟨by decide, by decide⟩) e_int (by show (0 : Int) < 4; decide)) (congrArg dI eb)) (atI_nat (plD_get hb))) ?_
  refine x_let (s := dS (wr c0 (z / 15 / 16 % 3).toNat)) (e_ixL hK (e_var rfl) (Ev.to (e_opIC (e_opIC (e_var rfl) e_int ⟨by decide, by decide⟩) e_int (by show (0 : Int) < 3; decide)) (congrArg dI ew)) (atI_nat (wrD_get hw))) ?_
  refine x_let (e_opIC (e_opI e_int (e_opIC (e_opIC (e_var rfl) e_int ⟨by decide, by decide⟩) e_int (by show (0 : Int) < 12; decide))) (e_var rfl) (.inl ⟨by omega, by omega⟩)) ?_
  refine x_let (e_opI e_int (e_opIC (e_var rfl) (e_opI (e_var rfl) e_int) (by show (0 : Int) < last + 2; omega))) ?_
  refine x_let (s := dL ((List.range 15).map fun k => .tuple (some10 c0 c1 (z / 15) sc last k).data)) (e_lst (ds := (List.range 15).map fun k => .tuple (some10 c0 c1 (z / 15) sc last k).data) (a_consD (e_tup (ds := (some10 c0 c1 (z / 15) sc last 0).data) (a_consD e_str (a_consD (e_var rfl) (a_consD (e_var rfl) (a_consD (e_opIC e_int (e_var rfl) (.inl ⟨by decide, by decide⟩)) a_nilD))))) (a_consD (e_tup (ds := (some10 c0 c1 (z / 15) sc last 1).data) (a_consD e_str (a_consD (e_var rfl) (a_consD (e_var rfl) (a_consD (e_opIC e_int (e_var rfl) (.inl ⟨by decide, by decide⟩)) a_nilD))))) (a_consD (e_tup (ds := (some10 c0 c1 (z / 15) sc last 2).data) (a_consD e_str (a_consD (e_var rfl) (a_consD (e_var rfl) (a_consD (e_var rfl) a_nilD))))) (a_consD (e_tup (ds := (some10 c0 c1 (z / 15) sc last 3).data) (a_consD e_str (a_consD (e_var rfl) (a_consD (e_var rfl) (a_consD (e_var rfl) a_nilD))))) (a_consD (e_tup (ds := (some10 c0 c1 (z / 15) sc last 4).data) (a_consD e_str (a_consD (e_var rfl) (a_consD (e_var rfl) (a_consD (e_var rfl) (a_consD (e_var rfl) a_nilD)))))) (a_consD (e_tup (ds := (some10 c0 c1 (z / 15) sc last 5).data) (a_consD e_str (a_consD (e_var rfl) (a_consD (e_var rfl) (a_consD (e_var rfl) a_nilD))))) (a_consD (e_tup (ds := (some10 c0 c1 (z / 15) sc last 6).data) (a_consD e_str (a_consD (e_var rfl) (a_consD (e_var rfl) (a_consD (e_var rfl) a_nilD))))) (a_consD (e_tup (ds := (some10 c0 c1 (z / 15) sc last 7).data) (a_consD e_str (a_consD (e_var rfl) a_nilD))) (a_consD (e_tup (ds := (some10 c0 c1 (z / 15) sc last 8).data) (a_consD e_str (a_consD (e_var rfl) a_nilD))) (a_consD (e_tup (ds := (some10 c0 c1 (z / 15) sc last 9).data) (a_consD e_str (a_consD (e_var rfl) (a_consD (e_var rfl) a_nilD)))) (a_consD (e_tup (ds := (some10 c0 c1 (z / 15) sc last 10).data) (a_consD e_str (a_consD (e_var rfl) (a_consD (e_var rfl) (a_consD (e_opI (e_opIC e_int (e_var rfl) (.inl ⟨by decide, by decide⟩)) (e_opIC e_int (e_var rfl) (.inl ⟨by decide, by decide⟩))) a_nilD))))) (a_consD (e_tup (ds := (some10 c0 c1 (z / 15) sc last 11).data) (a_consD e_str (a_consD (e_var rfl) (a_consD (e_var rfl) (a_consD (e_opI (e_var rfl) (e_var rfl)) a_nilD))))) (a_consD (e_tup (ds := (some10 c0 c1 (z / 15) sc last 12).data) (a_consD e_str (a_consD (e_var rfl) (a_consD (e_opIC e_int (e_var rfl) (.inl ⟨by decide, by decide⟩)) a_nilD)))) (a_consD (e_tup (ds := (some10 c0 c1 (z / 15) sc last 13).data) (a_consD e_str (a_consD (e_var rfl) (a_consD (e_var rfl) a_nilD)))) (a_consD (e_tup (ds := (some10 c0 c1 (z / 15) sc last 14).data) (a_consD e_str (a_consD (e_var rfl) (a_consD (e_var rfl) (a_consD (e_opIC e_int (e_var rfl) (.inl ⟨by decide, by decide⟩)) a_nilD))))) a_nilD)))))))))))))))) ?_
  exact x_retP (E := E) (e_ixL hK (e_var rfl) (Ev.to (e_opIC (e_var rfl) e_int (by show (0 : Int) < 15; decide)) (congrArg dI ee)) (atI_nat (by rw [List.getElem?_map, List.getElem?_range he]; rfl))) hD
theorem sc__law_seen : FnScope ["_law_floor", "_law_places_here", "_law_wares_here", "_law_found", "_law_ware", "_law_place", "_law_number"] ["_law_floor", "_law_places_here", "_law_wares_here"] (defScope s__law_seen) := ⟨rfl, rfl, rfl, by decide +kernel, rfl, by decide +kernel, by decide +kernel⟩
def g__law_seen (K : PySem.W.Frag) (as : List Sv) (m : Mu) (o : Oc) : Prop := ∃ (a d1 d2 d3 l : Addr) (M : FM) (c0 c1 : Int), as = [.r (.ref a), dL (plD c1), dL (wrD c0)] ∧ m = flo (fC K) a d1 d2 d3 l M ∧ M.wok ∧ M.sz 39000 ∧ o = .ret (dL (seenD M c0 c1)) []
theorem ok__law_seen {P : Program} {w : World} {K : PySem.W.Frag} {mg : Str → Option Value} {base : Heap} (T : Tx K mg w) (c : He.SaysD fa fn K) : FnB P w K mg base 3 (He.fAd K ("_law_seen", none)) ["_law_floor", "_law_places_here", "_law_wares_here"] (spG K 3 true (g__law_seen K)) := by
  obtain ⟨fd_Floor_book, g_Floor_book, b_Floor_book, k_Floor_book⟩ := ok_Floor_book (P := P) (w := w) (base := base) T c
  obtain ⟨fd_Floor_numbers, g_Floor_numbers, b_Floor_numbers, k_Floor_numbers⟩ := ok_Floor_numbers (P := P) (w := w) (base := base) T c
  obtain ⟨fd_Floor_came, g_Floor_came, b_Floor_came, k_Floor_came⟩ := ok_Floor_came (P := P) (w := w) (base := base) T c
  obtain ⟨fd_Floor_went, g_Floor_went, b_Floor_went, k_Floor_went⟩ := ok_Floor_went (P := P) (w := w) (base := base) T c
  obtain ⟨fd_Floor_righted, g_Floor_righted, b_Floor_righted, k_Floor_righted⟩ := ok_Floor_righted (P := P) (w := w) (base := base) T c
  obtain ⟨fd_Floor_whole, g_Floor_whole, b_Floor_whole, k_Floor_whole⟩ := ok_Floor_whole (P := P) (w := w) (base := base) T c
  obtain ⟨fd_Floor_there, g_Floor_there, b_Floor_there, k_Floor_there⟩ := ok_Floor_there (P := P) (w := w) (base := base) T c
  obtain ⟨fd_Floor_held, g_Floor_held, b_Floor_held, k_Floor_held⟩ := ok_Floor_held (P := P) (w := w) (base := base) T c
  obtain ⟨fd_Floor_holding, g_Floor_holding, b_Floor_holding, k_Floor_holding⟩ := ok_Floor_holding (P := P) (w := w) (base := base) T c
  obtain ⟨fd, F⟩ := c.def_ 49 (d := d__law_seen) rfl
  refine ⟨fd, fn_ok F sc__law_seen rfl fun cdv A outer s H E hr => ⟨_, (pss_cons (ps_set (i := 3) sc__law_seen.nd rfl (Or.inl rfl) (pe_lst pa_nil))
    (pss_cons (ps_for (passes_of rfl) rfl (pi_list' (K := K) rfl (pv 2)) (pg_name (i := 4) sc__law_seen.nd rfl (Or.inl rfl))
      (pss_cons (ps_for (passes_of rfl) rfl (pi_list' (K := K) rfl (pv 1)) (pg_name (i := 5) sc__law_seen.nd rfl (Or.inl rfl))
      (pss_one (ps_expr (pe_bm PySem.F.plainAttrs_list PySem.F.slot_list_append PySem.F.type_list_append mt_append (pv 3) (pa_cons (pe_tup (pa_cons (pe_meth (pv 0) T.cl_Floor T.mt_there g_Floor_there (hr.mono (by decide)) b_Floor_there .nil (passes_call (takes_of rfl rfl rfl rfl) (fun _ _ _ _ z => z)) (pa_cons (pv 5) (pa_cons (pv 4) pa_nil))) (pa_cons (pe_meth (pv 0) T.cl_Floor T.mt_held g_Floor_held (hr.mono (by decide)) b_Floor_held .nil (passes_call (takes_of rfl rfl rfl rfl) (fun _ _ _ _ z => z)) (pa_cons (pv 5) (pa_cons (pv 4) pa_nil))) pa_nil))) pa_nil)))))
    (pss_one (ps_expr (pe_bm PySem.F.plainAttrs_list PySem.F.slot_list_append PySem.F.type_list_append mt_append (pv 3) (pa_cons (pe_tup (pa_cons (pe_meth (pv 0) T.cl_Floor T.mt_came g_Floor_came (hr.mono (by decide)) b_Floor_came .nil (passes_call (takes_of rfl rfl rfl rfl) (fun _ _ _ _ z => z)) (pa_cons (pv 4) pa_nil)) (pa_cons (pe_meth (pv 0) T.cl_Floor T.mt_went g_Floor_went (hr.mono (by decide)) b_Floor_went .nil (passes_call (takes_of rfl rfl rfl rfl) (fun _ _ _ _ z => z)) (pa_cons (pv 4) pa_nil)) (pa_cons (pe_meth (pv 0) T.cl_Floor T.mt_righted g_Floor_righted (hr.mono (by decide)) b_Floor_righted .nil (passes_call (takes_of rfl rfl rfl rfl) (fun _ _ _ _ z => z)) (pa_cons (pv 4) pa_nil)) (pa_cons (pe_meth (pv 0) T.cl_Floor T.mt_whole g_Floor_whole (hr.mono (by decide)) b_Floor_whole .nil (passes_call (takes_of rfl rfl rfl rfl) (fun _ _ _ _ z => z)) (pa_cons (pv 4) pa_nil)) pa_nil))))) pa_nil))))))
    (pss_one (ps_ret (pe_op (op_catD (K := K) rfl) (pe_op (op_catD (K := K) rfl) (pe_op (op_catD (K := K) rfl) (pv 3) (pe_lc (own := [("_law_number", 6)]) rfl sc__law_seen.nd (pi_list' (K := K) rfl (pe_meth0 (pv 0) T.cl_Floor T.mt_numbers g_Floor_numbers (hr.mono (by decide)) b_Floor_numbers .nil (passes_call (takes_of rfl rfl rfl rfl) (fun _ _ _ _ z => z)))) (blkOk_by (own := [("_law_number", 6)]) (N := ["_law_floor", "_law_places_here", "_law_wares_here", "_law_found", "_law_ware", "_law_place", "_law_number"]) (sc := defScope s__law_seen) (by decide +kernel)) (fun _ _ _ _ _ => (pg_name (i := 6) sc__law_seen.nd rfl (Or.inl rfl))) (fun _ _ _ _ _ => pts_nil) (fun _ _ _ _ _ => (pe_meth (pv 0) T.cl_Floor T.mt_holding g_Floor_holding (hr.mono (by decide)) b_Floor_holding .nil passL (pa_cons (pv 6) pa_nil))))) (pe_meth0 (pv 0) T.cl_Floor T.mt_numbers g_Floor_numbers (hr.mono (by decide)) b_Floor_numbers .nil (passes_call (takes_of rfl rfl rfl rfl) (fun _ _ _ _ z => z)))) (pe_meth0 (pv 0) T.cl_Floor T.mt_book g_Floor_book (hr.mono (by decide)) b_Floor_book .nil (passes_call (takes_of rfl rfl rfl rfl) (fun _ _ _ _ z => z)))))))), ?_⟩, FunD.bindsN F (fun _ _ _ _ _ _ us hl => match us, hl with | [_, _, _], _ => rfl), F.kp⟩
  intro Γ as m o D hK hF hO hn hG hnx hD
  try dsimp only [cxOf]
  obtain ⟨a, d1, d2, d3, l, M, c0, c1, rfl, rfl, hw, hz, rfl⟩ := hG
  have hst := (wld c0 c1).st
  refine x_letN1 (EvN.to1 (n_lst (ds := []) a_nilD) (o' := .lst (seenT M c0 c1 0)) rfl) fun r hr _ => ?_
  have hsl : ∀ n, (seenT M c0 c1 n).length = 5 * n := fun n => by
    induction n with
    | zero => rfl
    | succ n ih =>
      unfold seenT at ih ⊢
      rw [List.range_succ, List.map_append, List.flatten_append, List.length_append, ih]
      show 5 * n + 5 = _
      omega
  refine x_seq (x_for (w_list (ds := wrD c0) hK (e_var rfl)) (fun i δ μ => ∃ y4 y5 y6, δ = [some (.r (.ref a)), some (dL (plD c1)), some (dL (wrD c0)), some (.r (.ref r)), y4, y5, y6] ∧ μ = (r, OO.lst (seenT M c0 c1 i)) :: flo (fC K) a d1 d2 d3 l M) ⟨_, _, _, rfl, rfl⟩ ?_ ?_)
  · rintro i s δ μ gh D' hs' ⟨y4, y5, y6, rfl, rfl⟩ hnx' hct' hrt' _
    have hi : i < 3 := (List.getElem?_eq_some_iff.mp hs').1
    obtain rfl : s = dS (wr c0 i) := by
      have : (datas (wrD c0))[i]? = some (dS (wr c0 i)) := by
        unfold datas
        rw [List.getElem?_map, wrD_get hi]
        rfl
      rw [this] at hs'
      exact (Option.some.inj hs').symm
    have so := hst _ (wrL_mem hi)
    refine ⟨_, gt_name, ?_⟩
    refine x_seq (x_for (w_list (Γ := { Γ with gh := gh }) (ds := plD c1) hK (e_var rfl)) (fun j δ μ => ∃ y5 y6, δ = [some (.r (.ref a)), some (dL (plD c1)), some (dL (wrD c0)), some (.r (.ref r)), some (dS (wr c0 i)), y5, y6] ∧ μ = (r, OO.lst (seenT M c0 c1 i ++ (((plL c1).take j).map fun p => PyData.tuple [.int (M.there p (wr c0 i)), .int (M.held p (wr c0 i))]))) :: flo (fC K) a d1 d2 d3 l M) ⟨_, _, rfl, by rw [List.take_zero, List.map_nil, List.append_nil]⟩ ?_ ?_)
    · rintro j s δ μ gh2 D3 hs3 ⟨y5, y6, rfl, rfl⟩ hnx3 hct3 hrt3 _
      have hj : j < 4 := (List.getElem?_eq_some_iff.mp hs3).1
      obtain rfl : s = dI (pl c1 j) := by
        have : (datas (plD c1))[j]? = some (dI (pl c1 j)) := by
          unfold datas
          rw [List.getElem?_map, plD_get hj]
          rfl
        rw [this] at hs3
        exact (Option.some.inj hs3).symm
      refine ⟨_, gt_name, ?_⟩
      refine x_app (p := r) (ds := seenT M c0 c1 i ++ (((plL c1).take j).map fun p => PyData.tuple [.int (M.there p (wr c0 i)), .int (M.held p (wr c0 i))])) 0 (e_var rfl) (e_tup (ds := [.int (M.there (pl c1 j) (wr c0 i)), .int (M.held (pl c1 j) (wr c0 i))]) (a_consD (e_meth hK (e_var rfl) (List.mem_of_getElem? (i := 1) rfl) rfl (a_cons (e_var rfl) (a_cons (e_var rfl) a_nil)) ⟨a, d1, d2, d3, l, M, _, _, rfl, rfl, rfl⟩ (List.sublist_cons_self _ _)) (a_consD (e_meth hK (e_var rfl) (List.mem_of_getElem? (i := 1) rfl) rfl (a_cons (e_var rfl) (a_cons (e_var rfl) a_nil)) ⟨a, d1, d2, d3, l, M, _, _, rfl, rfl, rfl, hw, so, hz.mono (by decide)⟩ (List.sublist_cons_self _ _)) a_nilD))) rfl ?_ (.inr hr) ⟨_, (List.mem_of_getElem? (i := 0) rfl)⟩ ?_
      · rw [List.length_append, hsl, List.length_map, List.length_take]
        omega
      · refine nx_loop hnx3 ⟨_, _, rfl, ?_⟩
        rw [take_succ_get (plL_get hj), List.map_append, ← List.append_assoc]
        rfl
    · rintro δ μ ⟨y5, y6, rfl, rfl⟩
      refine x_nx (x_app (p := r) (ds := seenT M c0 c1 i ++ (((plL c1).take 4).map fun p => PyData.tuple [.int (M.there p (wr c0 i)), .int (M.held p (wr c0 i))])) 0 (e_var rfl) (e_tup (ds := [.int (M.total (wr c0 i)).1, .int (M.total (wr c0 i)).2.1, .int (M.total (wr c0 i)).2.2, .int (M.whole (wr c0 i))]) (a_consD (e_meth hK (e_var rfl) (List.mem_of_getElem? (i := 1) rfl) rfl (a_cons (e_var rfl) a_nil) ⟨a, d1, d2, d3, l, M, _, rfl, rfl, rfl⟩ (List.sublist_cons_self _ _)) (a_consD (e_meth hK (e_var rfl) (List.mem_of_getElem? (i := 1) rfl) rfl (a_cons (e_var rfl) a_nil) ⟨a, d1, d2, d3, l, M, _, rfl, rfl, rfl⟩ (List.sublist_cons_self _ _)) (a_consD (e_meth hK (e_var rfl) (List.mem_of_getElem? (i := 1) rfl) rfl (a_cons (e_var rfl) a_nil) ⟨a, d1, d2, d3, l, M, _, rfl, rfl, rfl⟩ (List.sublist_cons_self _ _)) (a_consD (e_meth hK (e_var rfl) (List.mem_of_getElem? (i := 1) rfl) rfl (a_cons (e_var rfl) a_nil) ⟨a, d1, d2, d3, l, M, _, rfl, rfl, rfl, hz.mono (by decide)⟩ (List.sublist_cons_self _ _)) a_nilD))))) rfl ?_ (.inr hr) ⟨_, (List.mem_of_getElem? (i := 0) rfl)⟩ ?_)
      · rw [List.length_append, hsl, List.length_map, List.length_take]
        omega
      · refine nx_loop hnx' ⟨_, _, _, rfl, ?_⟩
        have e : seenT M c0 c1 (i + 1) = seenT M c0 c1 i ++ seenW M c0 c1 i := by
          unfold seenT
          rw [List.range_succ, List.map_append, List.flatten_append]
          simp
        rw [e]
        unfold seenW
        rw [List.append_assoc]
        rfl
  · rintro δ μ ⟨y4, y5, y6, rfl, rfl⟩
    have hnl : M.numbers.length ≤ 39000 := by
      unfold FM.numbers srt
      rw [List.length_mergeSort, List.length_map]
      exact hz.2.1
    have h15 := hsl 3
    refine x_nx (Sx.fzV 3 rfl hr ?_)
    have num : ∀ (gh : List (V × Sv)) (δ : De), δ[0]? = some (some (.r (.ref a))) → Ev { Γ with gh := gh } (tMeth (fC K) "numbers" (spG K 1 true (Sf.g_Floor_numbers K)) [] E (tVar 0) tNil) δ (flo (fC K) a d1 d2 d3 l M) (dL (M.numbers.map .int)) (flo (fC K) a d1 d2 d3 l M) := fun gh δ h0 => EvN.fz (n_meth (Γ := { Γ with gh := gh }) hK (e_var h0) (List.mem_of_getElem? (i := 0) rfl) rfl a_nil ⟨a, d1, d2, d3, l, M, rfl, rfl, rfl⟩ (List.Sublist.refl _) ha1)
    refine x_ret (E := E) (s := dL (seenD M c0 c1)) (e_catD hK (e_catD hK (e_catD hK (e_var rfl) (Ev.to (e_lc (L := M.numbers) (F := fun k => dI k) (p := fun _ => true) (y := fun k => M.holding (.int k)) ((w_list (ds := M.numbers.map .int) hK (num Γ.gh _ rfl)).to (by unfold datas; rw [List.map_map]; rfl)) (fun k hk gh o => ⟨_, gw_name, t_yes, fun _ => (e_meth hK (e_var rfl) (List.mem_of_getElem? (i := 1) rfl) rfl (a_cons (e_var rfl) a_nil) ⟨a, d1, d2, d3, l, M, _, rfl, rfl, rfl⟩ (List.sublist_cons_self _ _))⟩) (by omega)) (s' := dL (M.numbers.map fun k => M.holding (.int k))) (by rw [List.filter_eq_self.mpr (fun _ _ => rfl)])) ?_) (num Γ.gh _ rfl) ?_) (EvN.fz (n_meth hK (e_var rfl) (List.mem_of_getElem? (i := 0) rfl) rfl a_nil ⟨a, d1, d2, d3, l, M, rfl, rfl, rfl⟩ (List.Sublist.refl _) ha1)) ?_) hD (List.nil_sublist _)
    · show (seenT M c0 c1 3).length + _ ≤ _
      rw [h15, List.length_map]
      omega
    · show (seenT M c0 c1 3 ++ _).length + _ ≤ _
      rw [List.length_append, h15, List.length_map, List.length_map]
      omega
    · show (seenT M c0 c1 3 ++ _ ++ _).length + _ ≤ _
      rw [List.length_append, List.length_append, h15, List.length_map, List.length_map]
      have := hz.2.2.2
      omega
theorem sc__law_strange : FnScope ["_law_cell", "_law_ware", "_law_none", "_law_some"] ["_law_cell", "_law_ware"] (defScope s__law_strange) := ⟨rfl, rfl, rfl, by decide +kernel, rfl, by decide +kernel, by decide +kernel⟩
def g__law_strange (K : PySem.W.Frag) (as : List Sv) (m : Mu) (o : Oc) : Prop := ∃ (c : Int) (w : Str), as = [dI c, dS w] ∧ m = [] ∧ w.length ≤ 1000 ∧ o = .ret (.xl [(strX c w).1, some (.str (strX c w).2)]) []
theorem ok__law_strange {P : Program} {w : World} {K : PySem.W.Frag} {mg : Str → Option Value} {base : Heap} (T : Tx K mg w) (c : He.SaysD fa fn K) : FnB P w K mg base 1 (He.fAd K ("_law_strange", none)) ["_law_cell", "_law_ware"] (spG K 2 true (g__law_strange K)) := by
  obtain ⟨fd, F⟩ := c.def_ 50 (d := d__law_strange) rfl
  refine ⟨fd, fn_ok F sc__law_strange rfl fun cdv A outer s H E hr => ⟨_, (pss_cons (ps_set (i := 2) sc__law_strange.nd rfl (Or.inl rfl) (pe_lst (pa_cons pe_non (pa_cons pe_str (pa_cons (pe_tup pa_nil) (pa_cons (pe_tup (pa_cons pe_str pa_nil)) (pa_cons (pe_tup (pa_cons pe_str (pa_cons pe_int pa_nil))) (pa_cons (pe_lst (pa_cons pe_str (pa_cons pe_int pa_nil))) (pa_cons (pe_tup (pa_cons pe_str (pa_cons pe_int (pa_cons (pv 1) pa_nil)))) (pa_cons (pe_tup (pa_cons pe_str (pa_cons (pv 1) (pa_cons pe_int (pa_cons pe_int pa_nil))))) (pa_cons pe_int pa_nil)))))))))))
    (pss_cons (ps_set (i := 2) sc__law_strange.nd rfl (Or.inl rfl) (pe_op (op_catD (K := K) rfl) (pv 2) (pe_lst (pa_cons (pe_tup (pa_cons (pe_lst (pa_cons pe_int pa_nil)) (pa_cons pe_int pa_nil))) (pa_cons (pe_tup (pa_cons pe_dnewK (pa_cons pe_int pa_nil))) (pa_cons (pe_tup (pa_cons (pe_tup (pa_cons pe_str pa_nil)) (pa_cons pe_int pa_nil))) (pa_cons (pe_tup (pa_cons pe_non (pa_cons pe_int pa_nil))) pa_nil)))))))
    (pss_cons (ps_if (pt_cmpR op_lt (pe_op op_mod (pv 0) pe_int) pe_int (nomark _)) (pss_one (ps_ret (pe_lst (pa_cons (pe_ix (ix_list' (K := K) rfl) (pv 2) (pe_op op_mod (pv 0) pe_int) (fun _ _ => rfl)) (pa_cons pe_str pa_nil))))) pss_nil)
    (pss_cons (ps_set (i := 3) sc__law_strange.nd rfl (Or.inl rfl) (pe_lst (pa_cons (pe_lst (pa_cons (pe_tup (pa_cons pe_str (pa_cons (pe_op op_pow pe_int pe_int) pa_nil))) (pa_cons pe_str pa_nil))) (pa_cons (pe_lst (pa_cons (pe_tup (pa_cons pe_str (pa_cons pe_int (pa_cons (pv 1) (pa_cons pe_int pa_nil))))) (pa_cons pe_str pa_nil))) (pa_cons (pe_lst (pa_cons (pe_tup (pa_cons pe_str (pa_cons (pe_op op_add_str (pv 1) pe_str) (pa_cons pe_int pa_nil)))) (pa_cons pe_str pa_nil))) pa_nil)))))
    (pss_cons (ps_set (i := 3) sc__law_strange.nd rfl (Or.inl rfl) (pe_op (op_catD (K := K) rfl) (pv 3) (pe_lst (pa_cons (pe_lst (pa_cons (pe_tup (pa_cons pe_str (pa_cons (pe_op op_pow pe_int pe_int) (pa_cons pe_int pa_nil)))) (pa_cons pe_str pa_nil))) (pa_cons (pe_lst (pa_cons (pe_tup (pa_cons pe_str (pa_cons pe_int (pa_cons (pe_op op_add_str (pv 1) pe_str) (pa_cons pe_int pa_nil))))) (pa_cons pe_str pa_nil))) (pa_cons (pe_lst (pa_cons (pe_tup (pa_cons pe_str (pa_cons (pe_op op_add_str (pv 1) pe_str) (pa_cons pe_int pa_nil)))) (pa_cons pe_str pa_nil))) pa_nil))))))
    (pss_one (ps_ret (pe_ix (ix_list' (K := K) rfl) (pe_op (op_catD (K := K) rfl) (pv 3) (pe_lst (pa_cons (pe_lst (pa_cons (pe_tup (pa_cons pe_str (pa_cons pe_int (pa_cons pe_int (pa_cons (pv 1) (pa_cons pe_int pa_nil)))))) (pa_cons pe_str pa_nil))) (pa_cons (pe_lst (pa_cons (pe_tup (pa_cons pe_str (pa_cons pe_int (pa_cons (pv 1) (pa_cons pe_int pa_nil))))) (pa_cons pe_str pa_nil))) pa_nil)))) (pe_op op_sub (pe_op op_mod (pv 0) pe_int) pe_int) (fun _ _ => rfl))))))))), ?_⟩, FunD.bindsN F (fun _ _ _ _ _ _ us hl => match us, hl with | [_, _], _ => rfl), F.kp⟩
  intro Γ as m o D hK hF hO hn hG hnx hD
  try dsimp only [cxOf]
  obtain ⟨c, w, rfl, rfl, hw, rfl⟩ := hG
  refine x_let (s := .xl [some .none, some (.str "come"), some (.tuple []), some (.tuple [.str "come"]), some (.tuple [.str "fly", .int 1]), some (.list [.str "let", .int 1]), some (.tuple [.str "come", .int 1, .str w]), some (.tuple [.str "wish", .str w, .int 1, .int 1]), some (.int 7)]) (e_lstX (os := [some .none, some (.str "come"), some (.tuple []), some (.tuple [.str "come"]), some (.tuple [.str "fly", .int 1]), some (.list [.str "let", .int 1]), some (.tuple [.str "come", .int 1, .str w]), some (.tuple [.str "wish", .str w, .int 1, .int 1]), some (.int 7)]) (a_cons e_non (a_cons e_str (a_cons (e_tup (ds := []) a_nilD) (a_cons (e_tup (ds := [.str "come"]) (a_consD e_str a_nilD)) (a_cons (e_tup (ds := [.str "fly", .int 1]) (a_consD e_str (a_consD e_int a_nilD))) (a_cons (e_lst (ds := [.str "let", .int 1]) (a_consD e_str (a_consD e_int a_nilD))) (a_cons (e_tup (ds := [.str "come", .int 1, .str w]) (a_consD e_str (a_consD e_int (a_consD (e_var rfl) a_nilD)))) (a_cons (e_tup (ds := [.str "wish", .str w, .int 1, .int 1]) (a_consD e_str (a_consD (e_var rfl) (a_consD e_int (a_consD e_int a_nilD))))) (a_cons e_int a_nil)))))))))) ?_
  refine x_let (s := .xl (noneL w)) (e_catX (os := [some .none, some (.str "come"), some (.tuple []), some (.tuple [.str "come"]), some (.tuple [.str "fly", .int 1]), some (.list [.str "let", .int 1]), some (.tuple [.str "come", .int 1, .str w]), some (.tuple [.str "wish", .str w, .int 1, .int 1]), some (.int 7)]) hK (e_var rfl) (e_lstX (os := [some (.tuple [.list [.int 1], .int 2]), none, some (.tuple [.tuple [.str "let"], .int 1]), some (.tuple [.none, .int 1])]) (a_cons (e_tup (ds := [.list [.int 1], .int 2]) (a_consD (e_lst (ds := [.int 1]) (a_consD e_int a_nilD)) (a_consD e_int a_nilD))) (a_cons (e_rawT e_int) (a_cons (e_tup (ds := [.tuple [.str "let"], .int 1]) (a_consD (e_tup (ds := [.str "let"]) (a_consD e_str a_nilD)) (a_consD e_int a_nilD))) (a_cons (e_tup (ds := [.none, .int 1]) (a_consD e_non (a_consD e_int a_nilD))) a_nil))))) (show 9 + 4 ≤ 1000000 by decide)) ?_
  refine x_seq (x_if (t_tst (e_opB (e_opIC (e_var rfl) e_int (by show (0 : Int) < 21; decide)) e_int)) (fun hb => ?_) fun hb => x_next (x_nx ?_))
  · have hlt : c % 21 < 13 := of_decide_eq_true hb
    have e : strX c w = ((noneL w).getD (c % 21).toNat none, ("entry" : Str)) := by
      unfold strX
      rw [if_pos hlt]
    rw [e] at hD
    have hj : (c % 21).toNat < (noneL w).length := by show _ < 13; omega
    have hat : atI (noneL w) (c % 21) = some ((noneL w).getD (c % 21).toNat none) := by
      have := atI_nat (xs := noneL w) (j := (c % 21).toNat) (v := (noneL w).getD (c % 21).toNat none) (by rw [List.getD_eq_getElem?_getD, List.getElem?_eq_getElem hj]; rfl)
      rwa [show (((c % 21).toNat : Nat) : Int) = c % 21 by omega] at this
    exact x_retP (E := E) (e_lstX (os := [(noneL w).getD (c % 21).toNat none, some (.str "entry")]) (a_cons (e_ixX hK (e_var rfl) (e_opIC (e_var rfl) e_int (by show (0 : Int) < 21; decide)) hat) (a_cons e_str a_nil))) hD
  have hge : ¬c % 21 < 13 := of_decide_eq_false hb
  have e : strX c w = (((someL w).map fun e => (some e.1, e.2)).getD (c % 21 - 13).toNat (none, ("" : Str))) := by
    unfold strX
    rw [if_neg hge]
  rw [e] at hD
  refine x_let (s := dL [.list [.tuple [.str "let", .int ((10 : Int) ^ (9 : Nat))], .str "hold"], .list [.tuple [.str "come", .int 10000, .str w, .int 1], .str "place"], .list [.tuple [.str "wish", .str (w ++ "7"), .int 1], .str "ware"]]) (e_lst (ds := [.list [.tuple [.str "let", .int ((10 : Int) ^ (9 : Nat))], .str "hold"], .list [.tuple [.str "come", .int 10000, .str w, .int 1], .str "place"], .list [.tuple [.str "wish", .str (w ++ "7"), .int 1], .str "ware"]]) (a_consD (e_lst (ds := [.tuple [.str "let", .int ((10 : Int) ^ (9 : Nat))], .str "hold"]) (a_consD (e_tup (ds := [.str "let", .int ((10 : Int) ^ (9 : Nat))]) (a_consD e_str (a_consD (e_opIC (e_int (i := 10)) (e_int (i := 9)) ⟨by decide, by decide, by decide⟩) a_nilD))) (a_consD e_str a_nilD))) (a_consD (e_lst (ds := [.tuple [.str "come", .int 10000, .str w, .int 1], .str "place"]) (a_consD (e_tup (ds := [.str "come", .int 10000, .str w, .int 1]) (a_consD e_str (a_consD e_int (a_consD (e_var rfl) (a_consD e_int a_nilD))))) (a_consD e_str a_nilD))) (a_consD (e_lst (ds := [.tuple [.str "wish", .str (w ++ "7"), .int 1], .str "ware"]) (a_consD (e_tup (ds := [.str "wish", .str (w ++ "7"), .int 1]) (a_consD e_str (a_consD (e_addS (e_var rfl) e_str (by show w.length + 1 ≤ 100000; omega)) (a_consD e_int a_nilD)))) (a_consD e_str a_nilD))) a_nilD)))) ?_
  refine x_let (s := dL [.list [.tuple [.str "let", .int ((10 : Int) ^ (9 : Nat))], .str "hold"], .list [.tuple [.str "come", .int 10000, .str w, .int 1], .str "place"], .list [.tuple [.str "wish", .str (w ++ "7"), .int 1], .str "ware"], .list [.tuple [.str "shift", .int ((10 : Int) ^ (9 : Nat)), .int 3], .str "hold"], .list [.tuple [.str "go", .int 5, .str (w ++ "z"), .int 1], .str "few"], .list [.tuple [.str "wish", .str (w ++ "z"), .int 2], .str "few"]]) (e_catD (ds := [.list [.tuple [.str "let", .int ((10 : Int) ^ (9 : Nat))], .str "hold"], .list [.tuple [.str "come", .int 10000, .str w, .int 1], .str "place"], .list [.tuple [.str "wish", .str (w ++ "7"), .int 1], .str "ware"]]) hK (e_var rfl) (e_lst (ds := [.list [.tuple [.str "shift", .int ((10 : Int) ^ (9 : Nat)), .int 3], .str "hold"], .list [.tuple [.str "go", .int 5, .str (w ++ "z"), .int 1], .str "few"], .list [.tuple [.str "wish", .str (w ++ "z"), .int 2], .str "few"]]) (a_consD (e_lst (ds := [.tuple [.str "shift", .int ((10 : Int) ^ (9 : Nat)), .int 3], .str "hold"]) (a_consD (e_tup (ds := [.str "shift", .int ((10 : Int) ^ (9 : Nat)), .int 3]) (a_consD e_str (a_consD (e_opIC (e_int (i := 10)) (e_int (i := 9)) ⟨by decide, by decide, by decide⟩) (a_consD e_int a_nilD)))) (a_consD e_str a_nilD))) (a_consD (e_lst (ds := [.tuple [.str "go", .int 5, .str (w ++ "z"), .int 1], .str "few"]) (a_consD (e_tup (ds := [.str "go", .int 5, .str (w ++ "z"), .int 1]) (a_consD e_str (a_consD e_int (a_consD (e_addS (e_var rfl) e_str (by show w.length + 1 ≤ 100000; omega)) (a_consD e_int a_nilD))))) (a_consD e_str a_nilD))) (a_consD (e_lst (ds := [.tuple [.str "wish", .str (w ++ "z"), .int 2], .str "few"]) (a_consD (e_tup (ds := [.str "wish", .str (w ++ "z"), .int 2]) (a_consD e_str (a_consD (e_addS (e_var rfl) e_str (by show w.length + 1 ≤ 100000; omega)) (a_consD e_int a_nilD)))) (a_consD e_str a_nilD))) a_nilD)))) (show 3 + 3 ≤ 1000000 by decide)) ?_
  obtain ⟨j, hj, ej⟩ : ∃ j : Nat, j < 8 ∧ c % 21 - 13 = (j : Int) := ⟨(c % 21 - 13).toNat, by omega, by omega⟩
  rw [ej, Int.toNat_natCast] at hD
  have hcase : j = 0 ∨ j = 1 ∨ j = 2 ∨ j = 3 ∨ j = 4 ∨ j = 5 ∨ j = 6 ∨ j = 7 := by omega
  rcases hcase with rfl | rfl | rfl | rfl | rfl | rfl | rfl | rfl
  · exact x_retP (E := E) (s := .xl [some (.tuple [.str "let", .int ((10 : Int) ^ (9 : Nat))]), some (.str "hold")]) (Ev.dx (ds := [.tuple [.str "let", .int ((10 : Int) ^ (9 : Nat))], .str "hold"]) (e_ixL (ds := [.list [.tuple [.str "let", .int ((10 : Int) ^ (9 : Nat))], .str "hold"], .list [.tuple [.str "come", .int 10000, .str w, .int 1], .str "place"], .list [.tuple [.str "wish", .str (w ++ "7"), .int 1], .str "ware"], .list [.tuple [.str "shift", .int ((10 : Int) ^ (9 : Nat)), .int 3], .str "hold"], .list [.tuple [.str "go", .int 5, .str (w ++ "z"), .int 1], .str "few"], .list [.tuple [.str "wish", .str (w ++ "z"), .int 2], .str "few"], .list [.tuple [.str "move", .int 3, .int 3, .str w, .int 1], .str "same"], .list [.tuple [.str "come", .int 3, .str w, .int 0], .str "many"]]) (i := ((0 : Nat) : Int)) hK (e_catD (ds := [.list [.tuple [.str "let", .int ((10 : Int) ^ (9 : Nat))], .str "hold"], .list [.tuple [.str "come", .int 10000, .str w, .int 1], .str "place"], .list [.tuple [.str "wish", .str (w ++ "7"), .int 1], .str "ware"], .list [.tuple [.str "shift", .int ((10 : Int) ^ (9 : Nat)), .int 3], .str "hold"], .list [.tuple [.str "go", .int 5, .str (w ++ "z"), .int 1], .str "few"], .list [.tuple [.str "wish", .str (w ++ "z"), .int 2], .str "few"]]) hK (e_var rfl) (e_lst (ds := [.list [.tuple [.str "move", .int 3, .int 3, .str w, .int 1], .str "same"], .list [.tuple [.str "come", .int 3, .str w, .int 0], .str "many"]]) (a_consD (e_lst (ds := [.tuple [.str "move", .int 3, .int 3, .str w, .int 1], .str "same"]) (a_consD (e_tup (ds := [.str "move", .int 3, .int 3, .str w, .int 1]) (a_consD e_str (a_consD e_int (a_consD e_int (a_consD (e_var rfl) (a_consD e_int a_nilD)))))) (a_consD e_str a_nilD))) (a_consD (e_lst (ds := [.tuple [.str "come", .int 3, .str w, .int 0], .str "many"]) (a_consD (e_tup (ds := [.str "come", .int 3, .str w, .int 0]) (a_consD e_str (a_consD e_int (a_consD (e_var rfl) (a_consD e_int a_nilD))))) (a_consD e_str a_nilD))) a_nilD))) (show 6 + 2 ≤ 1000000 by decide)) (Ev.to (e_opI (e_opIC (e_var rfl) e_int (by show (0 : Int) < 21; decide)) e_int) (congrArg dI ej)) (atI_nat (j := 0) rfl))) hD
  · exact x_retP (E := E) (s := .xl [some (.tuple [.str "come", .int 10000, .str w, .int 1]), some (.str "place")]) (Ev.dx (ds := [.tuple [.str "come", .int 10000, .str w, .int 1], .str "place"]) (e_ixL (ds := [.list [.tuple [.str "let", .int ((10 : Int) ^ (9 : Nat))], .str "hold"], .list [.tuple [.str "come", .int 10000, .str w, .int 1], .str "place"], .list [.tuple [.str "wish", .str (w ++ "7"), .int 1], .str "ware"], .list [.tuple [.str "shift", .int ((10 : Int) ^ (9 : Nat)), .int 3], .str "hold"], .list [.tuple [.str "go", .int 5, .str (w ++ "z"), .int 1], .str "few"], .list [.tuple [.str "wish", .str (w ++ "z"), .int 2], .str "few"], .list [.tuple [.str "move", .int 3, .int 3, .str w, .int 1], .str "same"], .list [.tuple [.str "come", .int 3, .str w, .int 0], .str "many"]]) (i := ((1 : Nat) : Int)) hK (e_catD (ds := [.list [.tuple [.str "let", .int ((10 : Int) ^ (9 : Nat))], .str "hold"], .list [.tuple [.str "come", .int 10000, .str w, .int 1], .str "place"], .list [.tuple [.str "wish", .str (w ++ "7"), .int 1], .str "ware"], .list [.tuple [.str "shift", .int ((10 : Int) ^ (9 : Nat)), .int 3], .str "hold"], .list [.tuple [.str "go", .int 5, .str (w ++ "z"), .int 1], .str "few"], .list [.tuple [.str "wish", .str (w ++ "z"), .int 2], .str "few"]]) hK (e_var rfl) (e_lst (ds := [.list [.tuple [.str "move", .int 3, .int 3, .str w, .int 1], .str "same"], .list [.tuple [.str "come", .int 3, .str w, .int 0], .str "many"]]) (a_consD (e_lst (ds := [.tuple [.str "move", .int 3, .int 3, .str w, .int 1], .str "same"]) (a_consD (e_tup (ds := [.str "move", .int 3, .int 3, .str w, .int 1]) (a_consD e_str (a_consD e_int (a_consD e_int (a_consD (e_var rfl) (a_consD e_int a_nilD)))))) (a_consD e_str a_nilD))) (a_consD (e_lst (ds := [.tuple [.str "come", .int 3, .str w, .int 0], .str "many"]) (a_consD (e_tup (ds := [.str "come", .int 3, .str w, .int 0]) (a_consD e_str (a_consD e_int (a_consD (e_var rfl) (a_consD e_int a_nilD))))) (a_consD e_str a_nilD))) a_nilD))) (show 6 + 2 ≤ 1000000 by decide)) (Ev.to (e_opI (e_opIC (e_var rfl) e_int (by show (0 : Int) < 21; decide)) e_int) (congrArg dI ej)) (atI_nat (j := 1) rfl))) hD
  · exact x_retP (E := E) (s := .xl [some (.tuple [.str "wish", .str (w ++ "7"), .int 1]), some (.str "ware")]) (Ev.dx (ds := [.tuple [.str "wish", .str (w ++ "7"), .int 1], .str "ware"]) (e_ixL (ds := [.list [.tuple [.str "let", .int ((10 : Int) ^ (9 : Nat))], .str "hold"], .list [.tuple [.str "come", .int 10000, .str w, .int 1], .str "place"], .list [.tuple [.str "wish", .str (w ++ "7"), .int 1], .str "ware"], .list [.tuple [.str "shift", .int ((10 : Int) ^ (9 : Nat)), .int 3], .str "hold"], .list [.tuple [.str "go", .int 5, .str (w ++ "z"), .int 1], .str "few"], .list [.tuple [.str "wish", .str (w ++ "z"), .int 2], .str "few"], .list [.tuple [.str "move", .int 3, .int 3, .str w, .int 1], .str "same"], .list [.tuple [.str "come", .int 3, .str w, .int 0], .str "many"]]) (i := ((2 : Nat) : Int)) hK (e_catD (ds := [.list [.tuple [.str "let", .int ((10 : Int) ^ (9 : Nat))], .str "hold"], .list [.tuple [.str "come", .int 10000, .str w, .int 1], .str "place"], .list [.tuple [.str "wish", .str (w ++ "7"), .int 1], .str "ware"], .list [.tuple [.str "shift", .int ((10 : Int) ^ (9 : Nat)), .int 3], .str "hold"], .list [.tuple [.str "go", .int 5, .str (w ++ "z"), .int 1], .str "few"], .list [.tuple [.str "wish", .str (w ++ "z"), .int 2], .str "few"]]) hK (e_var rfl) (e_lst (ds := [.list [.tuple [.str "move", .int 3, .int 3, .str w, .int 1], .str "same"], .list [.tuple [.str "come", .int 3, .str w, .int 0], .str "many"]]) (a_consD (e_lst (ds := [.tuple [.str "move", .int 3, .int 3, .str w, .int 1], .str "same"]) (a_consD (e_tup (ds := [.str "move", .int 3, .int 3, .str w, .int 1]) (a_consD e_str (a_consD e_int (a_consD e_int (a_consD (e_var rfl) (a_consD e_int a_nilD)))))) (a_consD e_str a_nilD))) (a_consD (e_lst (ds := [.tuple [.str "come", .int 3, .str w, .int 0], .str "many"]) (a_consD (e_tup (ds := [.str "come", .int 3, .str w, .int 0]) (a_consD e_str (a_consD e_int (a_consD (e_var rfl) (a_consD e_int a_nilD))))) (a_consD e_str a_nilD))) a_nilD))) (show 6 + 2 ≤ 1000000 by decide)) (Ev.to (e_opI (e_opIC (e_var rfl) e_int (by show (0 : Int) < 21; decide)) e_int) (congrArg dI ej)) (atI_nat (j := 2) rfl))) hD
  · exact x_retP (E := E) (s := .xl [some (.tuple [.str "shift", .int ((10 : Int) ^ (9 : Nat)), .int 3]), some (.str "hold")]) (Ev.dx (ds := [.tuple [.str "shift", .int ((10 : Int) ^ (9 : Nat)), .int 3], .str "hold"]) (e_ixL (ds := [.list [.tuple [.str "let", .int ((10 : Int) ^ (9 : Nat))], .str "hold"], .list [.tuple [.str "come", .int 10000, .str w, .int 1], .str "place"], .list [.tuple [.str "wish", .str (w ++ "7"), .int 1], .str "ware"], .list [.tuple [.str "shift", .int ((10 : Int) ^ (9 : Nat)), .int 3], .str "hold"], .list [.tuple [.str "go", .int 5, .str (w ++ "z"), .int 1], .str "few"], .list [.tuple [.str "wish", .str (w ++ "z"), .int 2], .str "few"], .list [.tuple [.str "move", .int 3, .int 3, .str w, .int 1], .str "same"], .list [.tuple [.str "come", .int 3, .str w, .int 0], .str "many"]]) (i := ((3 : Nat) : Int)) hK (e_catD (ds := [.list [.tuple [.str "let", .int ((10 : Int) ^ (9 : Nat))], .str "hold"], .list [.tuple [.str "come", .int 10000, .str w, .int 1], .str "place"], .list [.tuple [.str "wish", .str (w ++ "7"), .int 1], .str "ware"], .list [.tuple [.str "shift", .int ((10 : Int) ^ (9 : Nat)), .int 3], .str "hold"], .list [.tuple [.str "go", .int 5, .str (w ++ "z"), .int 1], .str "few"], .list [.tuple [.str "wish", .str (w ++ "z"), .int 2], .str "few"]]) hK (e_var rfl) (e_lst (ds := [.list [.tuple [.str "move", .int 3, .int 3, .str w, .int 1], .str "same"], .list [.tuple [.str "come", .int 3, .str w, .int 0], .str "many"]]) (a_consD (e_lst (ds := [.tuple [.str "move", .int 3, .int 3, .str w, .int 1], .str "same"]) (a_consD (e_tup (ds := [.str "move", .int 3, .int 3, .str w, .int 1]) (a_consD e_str (a_consD e_int (a_consD e_int (a_consD (e_var rfl) (a_consD e_int a_nilD)))))) (a_consD e_str a_nilD))) (a_consD (e_lst (ds := [.tuple [.str "come", .int 3, .str w, .int 0], .str "many"]) (a_consD (e_tup (ds := [.str "come", .int 3, .str w, .int 0]) (a_consD e_str (a_consD e_int (a_consD (e_var rfl) (a_consD e_int a_nilD))))) (a_consD e_str a_nilD))) a_nilD))) (show 6 + 2 ≤ 1000000 by decide)) (Ev.to (e_opI (e_opIC (e_var rfl) e_int (by show (0 : Int) < 21; decide)) e_int) (congrArg dI ej)) (atI_nat (j := 3) rfl))) hD
  · exact x_retP (E := E) (s := .xl [some (.tuple [.str "go", .int 5, .str (w ++ "z"), .int 1]), some (.str "few")]) (Ev.dx (ds := [.tuple [.str "go", .int 5, .str (w ++ "z"), .int 1], .str "few"]) (e_ixL (ds := [.list [.tuple [.str "let", .int ((10 : Int) ^ (9 : Nat))], .str "hold"], .list [.tuple [.str "come", .int 10000, .str w, .int 1], .str "place"], .list [.tuple [.str "wish", .str (w ++ "7"), .int 1], .str "ware"], .list [.tuple [.str "shift", .int ((10 : Int) ^ (9 : Nat)), .int 3], .str "hold"], .list [.tuple [.str "go", .int 5, .str (w ++ "z"), .int 1], .str "few"], .list [.tuple [.str "wish", .str (w ++ "z"), .int 2], .str "few"], .list [.tuple [.str "move", .int 3, .int 3, .str w, .int 1], .str "same"], .list [.tuple [.str "come", .int 3, .str w, .int 0], .str "many"]]) (i := ((4 : Nat) : Int)) hK (e_catD (ds := [.list [.tuple [.str "let", .int ((10 : Int) ^ (9 : Nat))], .str "hold"], .list [.tuple [.str "come", .int 10000, .str w, .int 1], .str "place"], .list [.tuple [.str "wish", .str (w ++ "7"), .int 1], .str "ware"], .list [.tuple [.str "shift", .int ((10 : Int) ^ (9 : Nat)), .int 3], .str "hold"], .list [.tuple [.str "go", .int 5, .str (w ++ "z"), .int 1], .str "few"], .list [.tuple [.str "wish", .str (w ++ "z"), .int 2], .str "few"]]) hK (e_var rfl) (e_lst (ds := [.list [.tuple [.str "move", .int 3, .int 3, .str w, .int 1], .str "same"], .list [.tuple [.str "come", .int 3, .str w, .int 0], .str "many"]]) (a_consD (e_lst (ds := [.tuple [.str "move", .int 3, .int 3, .str w, .int 1], .str "same"]) (a_consD (e_tup (ds := [.str "move", .int 3, .int 3, .str w, .int 1]) (a_consD e_str (a_consD e_int (a_consD e_int (a_consD (e_var rfl) (a_consD e_int a_nilD)))))) (a_consD e_str a_nilD))) (a_consD (e_lst (ds := [.tuple [.str "come", .int 3, .str w, .int 0], .str "many"]) (a_consD (e_tup (ds := [.str "come", .int 3, .str w, .int 0]) (a_consD e_str (a_consD e_int (a_consD (e_var rfl) (a_consD e_int a_nilD))))) (a_consD e_str a_nilD))) a_nilD))) (show 6 + 2 ≤ 1000000 by decide)) (Ev.to (e_opI (e_opIC (e_var rfl) e_int (by show (0 : Int) < 21; decide)) e_int) (congrArg dI ej)) (atI_nat (j := 4) rfl))) hD
  · exact x_retP (E := E) (s := .xl [some (.tuple [.str "wish", .str (w ++ "z"), .int 2]), some (.str "few")]) (Ev.dx (ds := [.tuple [.str "wish", .str (w ++ "z"), .int 2], .str "few"]) (e_ixL (ds := [.list [.tuple [.str "let", .int ((10 : Int) ^ (9 : Nat))], .str "hold"], .list [.tuple [.str "come", .int 10000, .str w, .int 1], .str "place"], .list [.tuple [.str "wish", .str (w ++ "7"), .int 1], .str "ware"], .list [.tuple [.str "shift", .int ((10 : Int) ^ (9 : Nat)), .int 3], .str "hold"], .list [.tuple [.str "go", .int 5, .str (w ++ "z"), .int 1], .str "few"], .list [.tuple [.str "wish", .str (w ++ "z"), .int 2], .str "few"], .list [.tuple [.str "move", .int 3, .int 3, .str w, .int 1], .str "same"], .list [.tuple [.str "come", .int 3, .str w, .int 0], .str "many"]]) (i := ((5 : Nat) : Int)) hK (e_catD (ds := [.list [.tuple [.str "let", .int ((10 : Int) ^ (9 : Nat))], .str "hold"], .list [.tuple [.str "come", .int 10000, .str w, .int 1], .str "place"], .list [.tuple [.str "wish", .str (w ++ "7"), .int 1], .str "ware"], .list [.tuple [.str "shift", .int ((10 : Int) ^ (9 : Nat)), .int 3], .str "hold"], .list [.tuple [.str "go", .int 5, .str (w ++ "z"), .int 1], .str "few"], .list [.tuple [.str "wish", .str (w ++ "z"), .int 2], .str "few"]]) hK (e_var rfl) (e_lst (ds := [.list [.tuple [.str "move", .int 3, .int 3, .str w, .int 1], .str "same"], .list [.tuple [.str "come", .int 3, .str w, .int 0], .str "many"]]) (a_consD (e_lst (ds := [.tuple [.str "move", .int 3, .int 3, .str w, .int 1], .str "same"]) (a_consD (e_tup (ds := [.str "move", .int 3, .int 3, .str w, .int 1]) (a_consD e_str (a_consD e_int (a_consD e_int (a_consD (e_var rfl) (a_consD e_int a_nilD)))))) (a_consD e_str a_nilD))) (a_consD (e_lst (ds := [.tuple [.str "come", .int 3, .str w, .int 0], .str "many"]) (a_consD (e_tup (ds := [.str "come", .int 3, .str w, .int 0]) (a_consD e_str (a_consD e_int (a_consD (e_var rfl) (a_consD e_int a_nilD))))) (a_consD e_str a_nilD))) a_nilD))) (show 6 + 2 ≤ 1000000 by decide)) (Ev.to (e_opI (e_opIC (e_var rfl) e_int (by show (0 : Int) < 21; decide)) e_int) (congrArg dI ej)) (atI_nat (j := 5) rfl))) hD
  · exact x_retP (E := E) (s := .xl [some (.tuple [.str "move", .int 3, .int 3, .str w, .int 1]), some (.str "same")]) (Ev.dx (ds := [.tuple [.str "move", .int 3, .int 3, .str w, .int 1], .str "same"]) (e_ixL (ds := [.list [.tuple [.str "let", .int ((10 : Int) ^ (9 : Nat))], .str "hold"], .list [.tuple [.str "come", .int 10000, .str w, .int 1], .str "place"], .list [.tuple [.str "wish", .str (w ++ "7"), .int 1], .str "ware"], .list [.tuple [.str "shift", .int ((10 : Int) ^ (9 : Nat)), .int 3], .str "hold"], .list [.tuple [.str "go", .int 5, .str (w ++ "z"), .int 1], .str "few"], .list [.tuple [.str "wish", .str (w ++ "z"), .int 2], .str "few"], .list [.tuple [.str "move", .int 3, .int 3, .str w, .int 1], .str "same"], .list [.tuple [.str "come", .int 3, .str w, .int 0], .str "many"]]) (i := ((6 : Nat) : Int)) hK (e_catD (ds := [.list [.tuple [.str "let", .int ((10 : Int) ^ (9 : Nat))], .str "hold"], .list [.tuple [.str "come", .int 10000, .str w, .int 1], .str "place"], .list [.tuple [.str "wish", .str (w ++ "7"), .int 1], .str "ware"], .list [.tuple [.str "shift", .int ((10 : Int) ^ (9 : Nat)), .int 3], .str "hold"], .list [.tuple [.str "go", .int 5, .str (w ++ "z"), .int 1], .str "few"], .list [.tuple [.str "wish", .str (w ++ "z"), .int 2], .str "few"]]) hK (e_var rfl) (e_lst (ds := [.list [.tuple [.str "move", .int 3, .int 3, .str w, .int 1], .str "same"], .list [.tuple [.str "come", .int 3, .str w, .int 0], .str "many"]]) (a_consD (e_lst (ds := [.tuple [.str "move", .int 3, .int 3, .str w, .int 1], .str "same"]) (a_consD (e_tup (ds := [.str "move", .int 3, .int 3, .str w, .int 1]) (a_consD e_str (a_consD e_int (a_consD e_int (a_consD (e_var rfl) (a_consD e_int a_nilD)))))) (a_consD e_str a_nilD))) (a_consD (e_lst (ds := [.tuple [.str "come", .int 3, .str w, .int 0], .str "many"]) (a_consD (e_tup (ds := [.str "come", .int 3, .str w, .int 0]) (a_consD e_str (a_consD e_int (a_consD (e_var rfl) (a_consD e_int a_nilD))))) (a_consD e_str a_nilD))) a_nilD))) (show 6 + 2 ≤ 1000000 by decide)) (Ev.to (e_opI (e_opIC (e_var rfl) e_int (by show (0 : Int) < 21; decide)) e_int) (congrArg dI ej)) (atI_nat (j := 6) rfl))) hD
  · exact x_retP (E := E) (s := .xl [some (.tuple [.str "come", .int 3, .str w, .int 0]), some (.str "many")]) (Ev.dx (ds := [.tuple [.str "come", .int 3, .str w, .int 0], .str "many"]) (e_ixL (ds := [.list [.tuple [.str "let", .int ((10 : Int) ^ (9 : Nat))], .str "hold"], .list [.tuple [.str "come", .int 10000, .str w, .int 1], .str "place"], .list [.tuple [.str "wish", .str (w ++ "7"), .int 1], .str "ware"], .list [.tuple [.str "shift", .int ((10 : Int) ^ (9 : Nat)), .int 3], .str "hold"], .list [.tuple [.str "go", .int 5, .str (w ++ "z"), .int 1], .str "few"], .list [.tuple [.str "wish", .str (w ++ "z"), .int 2], .str "few"], .list [.tuple [.str "move", .int 3, .int 3, .str w, .int 1], .str "same"], .list [.tuple [.str "come", .int 3, .str w, .int 0], .str "many"]]) (i := ((7 : Nat) : Int)) hK (e_catD (ds := [.list [.tuple [.str "let", .int ((10 : Int) ^ (9 : Nat))], .str "hold"], .list [.tuple [.str "come", .int 10000, .str w, .int 1], .str "place"], .list [.tuple [.str "wish", .str (w ++ "7"), .int 1], .str "ware"], .list [.tuple [.str "shift", .int ((10 : Int) ^ (9 : Nat)), .int 3], .str "hold"], .list [.tuple [.str "go", .int 5, .str (w ++ "z"), .int 1], .str "few"], .list [.tuple [.str "wish", .str (w ++ "z"), .int 2], .str "few"]]) hK (e_var rfl) (e_lst (ds := [.list [.tuple [.str "move", .int 3, .int 3, .str w, .int 1], .str "same"], .list [.tuple [.str "come", .int 3, .str w, .int 0], .str "many"]]) (a_consD (e_lst (ds := [.tuple [.str "move", .int 3, .int 3, .str w, .int 1], .str "same"]) (a_consD (e_tup (ds := [.str "move", .int 3, .int 3, .str w, .int 1]) (a_consD e_str (a_consD e_int (a_consD e_int (a_consD (e_var rfl) (a_consD e_int a_nilD)))))) (a_consD e_str a_nilD))) (a_consD (e_lst (ds := [.tuple [.str "come", .int 3, .str w, .int 0], .str "many"]) (a_consD (e_tup (ds := [.str "come", .int 3, .str w, .int 0]) (a_consD e_str (a_consD e_int (a_consD (e_var rfl) (a_consD e_int a_nilD))))) (a_consD e_str a_nilD))) a_nilD))) (show 6 + 2 ≤ 1000000 by decide)) (Ev.to (e_opI (e_opIC (e_var rfl) e_int (by show (0 : Int) < 21; decide)) e_int) (congrArg dI ej)) (atI_nat (j := 7) rfl))) hD
theorem sc__law_next : FnScope ["_law_floor", "_law_place", "_law_ware"] ["_law_floor", "_law_place", "_law_ware"] (defScope s__law_next) := ⟨rfl, rfl, rfl, by decide +kernel, rfl, by decide +kernel, by decide +kernel⟩
def g__law_next (K : PySem.W.Frag) (as : List Sv) (m : Mu) (o : Oc) : Prop := ∃ (a d1 d2 d3 l : Addr) (M : FM) (c0 c1 : Int) (n : Nat), as = [.r (.ref a), dI (pl c1 0), dS (wr c0 0)] ∧ m = flo (fC K) a d1 d2 d3 l M ∧ AtN c0 c1 n M ∧ n ≤ 1000 ∧ o = .ret (dL [.int (M.last + 1), .int (M.last + 1 + 1)]) (flo (fC K) a d1 d2 d3 l (nextM M (pl c1 0) (wr c0 0)))
theorem ok__law_next {P : Program} {w : World} {K : PySem.W.Frag} {mg : Str → Option Value} {base : Heap} (T : Tx K mg w) (c : He.SaysD fa fn K) : FnB P w K mg base 5 (He.fAd K ("_law_next", none)) ["_law_floor", "_law_place", "_law_ware"] (spG K 3 false (g__law_next K)) := by
  obtain ⟨fd_Floor_come, g_Floor_come, b_Floor_come, k_Floor_come⟩ := ok_Floor_come (P := P) (w := w) (base := base) T c
  obtain ⟨fd_Floor_hold, g_Floor_hold, b_Floor_hold, k_Floor_hold⟩ := ok_Floor_hold (P := P) (w := w) (base := base) T c
  obtain ⟨fd, F⟩ := c.def_ 54 (d := d__law_next) rfl
  refine ⟨fd, fn_ok F sc__law_next rfl fun cdv A outer s H E hr => ⟨_, (pss_cons (ps_expr (pe_meth (pv 0) T.cl_Floor T.mt_come g_Floor_come (hr.mono (by decide)) b_Floor_come .nil (passes_call (takes_of rfl rfl rfl rfl) (fun _ _ _ _ z => z)) (pa_cons (pv 1) (pa_cons (pv 2) (pa_cons pe_int pa_nil)))))
    (pss_one (ps_ret (pe_lst (pa_cons (pe_meth (pv 0) T.cl_Floor T.mt_hold g_Floor_hold (hr.mono (by decide)) b_Floor_hold .nil (passes_call (takes_of rfl rfl rfl rfl) (fun _ _ _ _ z => z)) (pa_cons (pv 1) (pa_cons (pv 2) (pa_cons pe_int pa_nil)))) (pa_cons (pe_meth (pv 0) T.cl_Floor T.mt_hold g_Floor_hold (hr.mono (by decide)) b_Floor_hold .nil (passes_call (takes_of rfl rfl rfl rfl) (fun _ _ _ _ z => z)) (pa_cons (pv 1) (pa_cons (pv 2) (pa_cons pe_int pa_nil)))) pa_nil)))))), ?_⟩, FunD.bindsN F (fun _ _ _ _ _ _ us hl => match us, hl with | [_, _, _], _ => rfl), F.kp⟩
  intro Γ as m o D hK hF hO hn hG hnx hD
  try dsimp only [cxOf]
  obtain ⟨a, d1, d2, d3, l, M, c0, c1, n, rfl, rfl, hA, hn, rfl⟩ := hG
  obtain ⟨s1, a1, l1, a2, l2⟩ := next_ok hA
  refine x_seq (x_drop (e_methM0 (m := flo (fC K) a d1 d2 d3 l M) (m' := flo (fC K) a d1 d2 d3 l (M.come (pl c1 0) (wr c0 0) 2)) hK (e_var rfl) (List.mem_of_getElem? (i := 0) rfl) rfl (a_cons (e_var rfl) (a_cons (e_var rfl) (a_cons e_int a_nil))) ⟨a, d1, d2, d3, l, M, _, _, _, rfl, rfl, (wr_ok c0 0).st, hA.sz.mono (by omega), .inr (.inr (.inr ⟨_, _, _, rfl, rfl, rfl, wr_ok c0 0, (isWh_ok.mpr ⟨_, rfl, (pl_ok c1 0).1, (pl_ok c1 0).2⟩), (by decide +kernel), rfl⟩))⟩ rfl (may_all hF rfl)) (x_nx ?_))
  exact x_ret (E := E) (e_lst (ds := [.int (M.last + 1), .int (M.last + 1 + 1)]) (a_consD (e_methM0 (m := flo (fC K) a d1 d2 d3 l (M.come (pl c1 0) (wr c0 0) 2)) (m' := flo (fC K) a d1 d2 d3 l ((M.come (pl c1 0) (wr c0 0) 2).hold (pl c1 0) (wr c0 0) 1)) hK (e_var rfl) (List.mem_of_getElem? (i := 0) rfl) rfl (a_cons (e_var rfl) (a_cons (e_var rfl) (a_cons e_int a_nil))) ⟨a, d1, d2, d3, l, (M.come (pl c1 0) (wr c0 0) 2), _, _, _, rfl, rfl, (wr_ok c0 0).st, a1.gd.wok (wld c0 c1).st, a1.sz.mono (by omega), .inr (.inr (.inr (.inr ⟨_, _, _, rfl, rfl, rfl, wr_ok c0 0, (isWh_ok.mpr ⟨_, rfl, (pl_ok c1 0).1, (pl_ok c1 0).2⟩), (by decide +kernel), l1, rfl⟩)))⟩ rfl (may_all hF rfl)) (a_consD (e_methM0 (m := flo (fC K) a d1 d2 d3 l ((M.come (pl c1 0) (wr c0 0) 2).hold (pl c1 0) (wr c0 0) 1)) (m' := flo (fC K) a d1 d2 d3 l (nextM M (pl c1 0) (wr c0 0))) hK (e_var rfl) (List.mem_of_getElem? (i := 0) rfl) rfl (a_cons (e_var rfl) (a_cons (e_var rfl) (a_cons e_int a_nil))) ⟨a, d1, d2, d3, l, ((M.come (pl c1 0) (wr c0 0) 2).hold (pl c1 0) (wr c0 0) 1), _, _, _, rfl, rfl, (wr_ok c0 0).st, a2.gd.wok (wld c0 c1).st, a2.sz.mono (by omega), .inr (.inr (.inr (.inr ⟨_, _, _, rfl, rfl, rfl, wr_ok c0 0, (isWh_ok.mpr ⟨_, rfl, (pl_ok c1 0).1, (pl_ok c1 0).2⟩), (by decide +kernel), l2, rfl⟩)))⟩ rfl (may_all hF rfl)) a_nilD))) hD (List.Sublist.refl _)
theorem sc__law_same_again : FnScope ["_law_book", "_law_gave", "_law_floor", "_law_entry", "_law_found"] ["_law_book", "_law_gave"] (defScope s__law_same_again) := ⟨rfl, rfl, rfl, by decide +kernel, rfl, by decide +kernel, by decide +kernel⟩
def g__law_same_again (K : PySem.W.Frag) (as : List Sv) (m : Mu) (o : Oc) : Prop := ∃ (c0 c1 : Int) (es : List Deed) (ds : List PD) (M : FM), as = [dL (dsB es), dL ds] ∧ m = [] ∧ Bk c0 c1 es ds M ∧ es.length ≤ 1000 ∧ o = .ret (dB true) []
theorem ok__law_same_again {P : Program} {w : World} {K : PySem.W.Frag} {mg : Str → Option Value} {base : Heap} (T : Tx K mg w) (c : He.SaysD fa fn K) : FnB P w K mg base 6 (He.fAd K ("_law_same_again", none)) ["_law_book", "_law_gave"] (spG K 2 true (g__law_same_again K)) := by
  obtain ⟨fd_Floor___init__, g_Floor___init__, b_Floor___init__, k_Floor___init__⟩ := ok_Floor___init__ (P := P) (w := w) (base := base) T c
  obtain ⟨fd_Floor_book, g_Floor_book, b_Floor_book, k_Floor_book⟩ := ok_Floor_book (P := P) (w := w) (base := base) T c
  obtain ⟨fd_done, g_done, b_done, k_done⟩ := ok_done (P := P) (w := w) (base := base) T c
  obtain ⟨fd, F⟩ := c.def_ 55 (d := d__law_same_again) rfl
  refine ⟨fd, fn_ok F sc__law_same_again rfl fun cdv A outer s H E hr => ⟨_, (pss_cons (ps_set (i := 2) sc__law_same_again.nd rfl (Or.inl rfl) (pe_make0 T.mk_Floor g_Floor___init__ (hr.mono (by decide)) (by rfl) T.m_Floor b_Floor___init__ .nil (passes_call (takes_of rfl rfl rfl rfl) (fun _ _ _ _ z => z))))
    (pss_cons (ps_for (passes_of rfl) rfl (pi_zip (by rfl) T.z_zip (pa_cons (pv 0) (pa_cons (pv 1) pa_nil))) (pg_tup' (K := K) (n := 2) rfl rfl (pgs_cons (pg_name (i := 3) sc__law_same_again.nd rfl (Or.inl rfl)) (pgs_cons (pg_name (i := 4) sc__law_same_again.nd rfl (Or.inl rfl)) pgs_nil)))
      (pss_one (ps_if (pt_cmpR (op_neD' (K := K) rfl hr.units) (pe_call g_done (hr.mono (by decide)) (by rfl) T.m_done k_done b_done .nil (passes_call (takes_of rfl rfl rfl rfl) (fun _ _ _ _ z => z)) (pa_cons (pv 2) (pa_cons (pv 3) pa_nil))) (pv 4) (nomark _)) (pss_one (ps_ret pe_bl)) pss_nil)))
    (pss_one (ps_ret (pe_cmpR (op_eqD' (K := K) rfl hr.units) (pe_meth0 (pv 2) T.cl_Floor T.mt_book g_Floor_book (hr.mono (by decide)) b_Floor_book .nil (passes_call (takes_of rfl rfl rfl rfl) (fun _ _ _ _ z => z))) (pv 0) (nomark _)))))), ?_⟩, FunD.bindsN F (fun _ _ _ _ _ _ us hl => match us, hl with | [_, _], _ => rfl), F.kp⟩
  intro Γ as m o D hK hF hO hn hG hnx hD
  try dsimp only [cxOf]
  obtain ⟨c0, c1, es, ds, M, rfl, rfl, hB, hn, rfl⟩ := hG
  have mk : ∀ (δ : De) (μ : Mu), EvN Γ (tMake (fC K) (spG K 1 false (Sf.g_Floor___init__ K)) [] E tNil) δ μ 5 s1 (fun ps => flo (fC K) (ps.getD 0 0) (ps.getD 1 0) (ps.getD 2 0) (ps.getD 3 0) (ps.getD 4 0) FM.new) μ := fun δ μ =>
    n_make (k := 4) hK (fun a => ⟨a, rfl, rfl, rfl⟩) fun ps h e he => by
      obtain ⟨a, b, c, d, f, rfl⟩ : ∃ a b c d f, ps = [a, b, c, d, f] := five_of h
      simp at he
      rcases he with rfl | rfl | rfl | rfl | rfl <;> simp
  refine x_letN 2 (mk _ _) fun ps hps hfr => ?_
  obtain ⟨a, d1, d2, d3, l, rfl⟩ : ∃ a b c d f, ps = [a, b, c, d, f] := five_of hps
  have hW := wld c0 c1
  have may : ∀ (M : FM), ∀ b ∈ (flo (fC K) a d1 d2 d3 l M).map (·.1), Γ.may b := fun M b hb => .inr (hfr b (by simpa using hb)).1
  have hl := hB.run.len
  refine x_seq (x_for (w_zip (ds := dsB es) (es := ds) hK (e_var rfl) (e_var rfl)) (fun i δ μ => ∃ y3 y4 Mi, δ = [some (dL (dsB es)), some (dL ds), some (.r (.ref a)), y3, y4] ∧ μ = flo (fC K) a d1 d2 d3 l Mi ∧ AtN c0 c1 i Mi ∧ i ≤ es.length ∧ Run Mi (es.drop i) (ds.drop i) M) ⟨_, _, FM.new, rfl, rfl, AtN.new, Nat.zero_le _, hB.run⟩ ?_ ?_)
  · rintro i s δ μ gh D' hs' ⟨y3, y4, Mi, rfl, rfl, hA, hi, hr⟩ hnx' hct' hrt' _
    have hlt : i < es.length := by
      have h1 := (List.getElem?_eq_some_iff.mp hs').1
      simp [zipS] at h1
      omega
    obtain ⟨e, d, M1, he, hd, hst, hr1⟩ := hr.at hlt
    have hs0 : s = dU [.tuple e.data, d] := by
      have h1 : (dsB es)[i]? = some (.tuple e.data) := by rw [List.getElem?_map, he]; rfl
      have h2 : (zipS (dsB es) ds)[i]? = some (dU [.tuple e.data, d]) := by
        unfold zipS
        rw [List.getElem?_map, (List.getElem?_zip_eq_some (z := (PyData.tuple e.data, d))).mpr ⟨h1, hd⟩]
        rfl
      rw [h2] at hs'
      exact (Option.some.inj hs').symm
    subst hs0
    have hok := hB.ok e (List.mem_of_getElem? he)
    obtain ⟨q1, q2⟩ := step_res hst
    refine ⟨_, gt_tup hK rfl (gts_cons gt_name (gts_cons gt_name gts_nil)), ?_⟩
    refine x_if (b := false) (EvT.to (t_tst (e_neD hK (e_callM (m := flo (fC K) a d1 d2 d3 l Mi) (m' := flo (fC K) a d1 d2 d3 l M1) (rest := []) hK (a_cons (e_var rfl) (a_cons (e_var rfl) a_nil)) (.inl ⟨a, d1, d2, d3, l, Mi, e, _, _, rfl, rfl, hW, hA.gd, hok, hA.sz.mono (by omega), .inl ⟨d, M1, hst, rfl⟩⟩) rfl (may Mi)) (e_var rfl) q1 q1)) (by rw [q2]; rfl)) (fun h => absurd h (by decide)) fun _ => x_next ?_
    rw [List.append_nil]
    exact nx_loop hnx' ⟨_, _, M1, rfl, rfl, hA.step hok hst, hlt, hr1⟩
  · rintro δ μ ⟨y3, y4, Mi, rfl, rfl, hA, hi, hr⟩
    have hM : Mi = M := hr.done (by simp [zipS]; omega)
    subst hM
    have hp := pln_list hB.pln (by decide)
    refine x_nx (x_ret (E := E) (Ev.to (e_eqD hK (EvN.fz (n_meth hK (e_var rfl) (List.mem_of_getElem? (i := 0) rfl) rfl a_nil ⟨a, d1, d2, d3, l, Mi, rfl, rfl, rfl⟩ (List.Sublist.refl _) ha1)) (e_var rfl) ?_ hp.1) ?_) hD (List.nil_sublist _))
    · rw [hB.de]
      exact hp.1
    · rw [hB.de]
      exact congrArg dB hp.2
theorem sc__law_entered : FnScope ["_law_floor", "_law_places_here", "_law_wares_here", "_law_way", "_law_book", "_law_gave", "_law_last", "_law_entry", "_law_told"] ["_law_floor", "_law_places_here", "_law_wares_here", "_law_way", "_law_book", "_law_gave"] (defScope s__law_entered) := ⟨rfl, rfl, rfl, by decide +kernel, rfl, by decide +kernel, by decide +kernel⟩
def EntO (K : PySem.W.Frag) (M : FM) (c0 c1 : Int) (a d1 d2 d3 l b g : Addr) (es : List Deed) (ds : List PD) (e : Deed) (o : Oc) : Prop := (∃ d M', Step M e d M' ∧ o = .ret dN (flo (fC K) a d1 d2 d3 l M' ++ [(b, OO.lst (dsB (es ++ [e]))), (g, OO.lst (ds ++ [d]))])) ∨ ∃ c, Ref M e c ∧ o = .ret dN (flo (fC K) a d1 d2 d3 l M ++ [(b, OO.lst (dsB es)), (g, OO.lst ds)])
def g__law_entered (K : PySem.W.Frag) (as : List Sv) (m : Mu) (o : Oc) : Prop := ∃ (a d1 d2 d3 l b g : Addr) (M : FM) (c0 c1 sc z : Int) (es : List Deed) (ds : List PD), as = [.r (.ref a), dL (plD c1), dL (wrD c0), dL [.int sc, .int z], .r (.ref b), .r (.ref g)] ∧ m = flo (fC K) a d1 d2 d3 l M ++ [(b, OO.lst (dsB es)), (g, OO.lst ds)] ∧ Bk c0 c1 es ds M ∧ es.length ≤ 1000 ∧ 1 ≤ sc ∧ 48 * sc ≤ 10 ^ 30 ∧ EntO K M c0 c1 a d1 d2 d3 l b g es ds (entry10 c0 c1 z sc ((((es.filter fun e => decide (hd13 e = "hold")).map fun _ => (PyData.int 1)).length : Nat) + 3)) o
theorem ok__law_entered {P : Program} {w : World} {K : PySem.W.Frag} {mg : Str → Option Value} {base : Heap} (T : Tx K mg w) (c : He.SaysD fa fn K) : FnB P w K mg base 7 (He.fAd K ("_law_entered", none)) ["_law_floor", "_law_places_here", "_law_wares_here", "_law_way", "_law_book", "_law_gave"] (spG K 6 false (g__law_entered K)) := by
  obtain ⟨fd__law_entry_by, g__law_entry_by, b__law_entry_by, k__law_entry_by⟩ := ok__law_entry_by (P := P) (w := w) (base := base) T c
  obtain ⟨fd__law_tried, g__law_tried, b__law_tried, k__law_tried⟩ := ok__law_tried (P := P) (w := w) (base := base) T c
  obtain ⟨fd, F⟩ := c.def_ 56 (d := d__law_entered) rfl
  refine ⟨fd, fn_ok F sc__law_entered rfl fun cdv A outer s H E hr => ⟨_, (pss_cons (ps_set (i := 6) sc__law_entered.nd rfl (Or.inl rfl) (pe_op op_add (pe_callB (call_len_seq' (K := K) rfl) (by rfl) T.z_len (by decide +kernel) (pa_cons (pe_lc (own := [("_law_entry", 7)]) rfl sc__law_entered.nd (pi_list' (K := K) rfl (pv 4)) (blkOk_by (own := [("_law_entry", 7)]) (N := ["_law_floor", "_law_places_here", "_law_wares_here", "_law_way", "_law_book", "_law_gave", "_law_last", "_law_entry", "_law_told"]) (sc := defScope s__law_entered) (by decide +kernel)) (fun _ _ _ _ _ => (pg_name (i := 7) sc__law_entered.nd rfl (Or.inl rfl))) (fun _ _ _ _ _ => (pts_one (pt_cmpR op_eq (pe_ix (ix_tup' (K := K) rfl) (pv 7) pe_int (fun _ _ => rfl)) pe_str (nomark _)))) (fun _ _ _ _ _ => pe_int)) pa_nil)) pe_int))
    (pss_cons (ps_set (i := 7) sc__law_entered.nd rfl (Or.inl rfl) (pe_call g__law_entry_by (hr.mono (by decide)) (by rfl) T.m__law_entry_by k__law_entry_by b__law_entry_by .nil (passes_call (takes_of rfl rfl rfl rfl) (fun _ _ _ _ z => z)) (pa_cons (pe_ix (ix_list' (K := K) rfl) (pv 3) pe_int (fun _ _ => rfl)) (pa_cons (pv 1) (pa_cons (pv 2) (pa_cons (pe_ix (ix_list' (K := K) rfl) (pv 3) pe_int (fun _ _ => rfl)) (pa_cons (pv 6) pa_nil)))))))
    (pss_cons (ps_set (i := 8) sc__law_entered.nd rfl (Or.inl rfl) (pe_call g__law_tried (hr.mono (by decide)) (by rfl) T.m__law_tried k__law_tried b__law_tried .nil (passes_call (takes_of rfl rfl rfl rfl) (fun _ _ _ _ z => z)) (pa_cons (pv 0) (pa_cons (pv 7) pa_nil))))
    (pss_one (ps_if (pt_cmpR (op_neD' (K := K) rfl hr.units) (pv 8) (pe_lst pa_nil) (nomark _)) (pss_cons (ps_expr (pe_bm PySem.F.plainAttrs_list PySem.F.slot_list_append PySem.F.type_list_append mt_append (pv 4) (pa_cons (pv 7) pa_nil)))
    (pss_one (ps_expr (pe_bm PySem.F.plainAttrs_list PySem.F.slot_list_append PySem.F.type_list_append mt_append (pv 5) (pa_cons (pe_ix (ix_list' (K := K) rfl) (pv 8) pe_int (fun _ _ => rfl)) pa_nil))))) pss_nil))))), ?_⟩, FunD.bindsN F (fun _ _ _ _ _ _ us hl => match us, hl with | [_, _, _, _, _, _], _ => rfl), F.kp⟩
  intro Γ as m o D hK hF hO hn hG hnx hD
  try dsimp only [cxOf]
  obtain ⟨a, d1, d2, d3, l, b, g, M, c0, c1, sc, z, es, ds, rfl, rfl, hB, hn, h1, h2, ho⟩ := hG
  have hl := hB.run.len
  have hfl : (es.filter fun e => decide (hd13 e = "hold")).length ≤ 1000 := Nat.le_trans (List.length_filter_le _ _) hn
  refine x_let (s := dI ((((es.filter fun e => decide (hd13 e = "hold")).map fun _ => (PyData.int 1)).length : Nat) + 3)) (e_opI (e_lenL (ds := ((es.filter fun e => decide (hd13 e = "hold")).map fun _ => (PyData.int 1))) hK (e_lcO (L := es) (F := fun e => dU e.data) (p := fun e => decide (hd13 e = "hold")) (y := fun _ => .int 1) (ow := [(b, OO.lst (dsB es))]) ((w_listO (ds := dsB es) hK (e_var rfl) (List.mem_of_getElem? (i := 5) rfl)).to (by unfold datas; rw [List.map_map]; rfl)) (fun e he => by rw [List.mem_singleton.mp he]; exact List.mem_of_getElem? (i := 5) rfl) (fun e he gh o => ⟨_, gw_name, t_tst (e_eqS (e_ixU hK (e_var rfl) e_int (hd13_at e)) e_str), fun _ => e_int⟩) (by omega))) e_int) ?_
  refine x_let (e_call hK (a_cons (e_ixL (ds := [.int sc, .int z]) hK (e_var rfl) e_int (atI_nat (j := 1) rfl)) (a_cons (e_var rfl) (a_cons (e_var rfl) (a_cons (e_ixL (ds := [.int sc, .int z]) hK (e_var rfl) e_int (atI_nat (j := 0) rfl)) (a_cons (e_var rfl) a_nil))))) ⟨z, c0, c1, sc, _, rfl, rfl, by omega, rfl⟩ (List.nil_sublist _)) ?_
  have hok : (entry10 c0 c1 z sc ((((es.filter fun e => decide (hd13 e = "hold")).map fun _ => (PyData.int 1)).length : Nat) + 3)).ok (plL c1) (wrL c0) := some10_ok h1 h2 _
  replace ho : EntO K M c0 c1 a d1 d2 d3 l b g es ds (entry10 c0 c1 z sc ((((es.filter fun e => decide (hd13 e = "hold")).map fun _ => (PyData.int 1)).length : Nat) + 3)) o := ho
  generalize entry10 c0 c1 z sc ((((es.filter fun e => decide (hd13 e = "hold")).map fun _ => (PyData.int 1)).length : Nat) + 3) = e at hok ho
  rcases ho with ⟨d, M', hs, rfl⟩ | ⟨c, hr, rfl⟩
  · refine x_let (s := dL [d]) (e_callM (m := flo (fC K) a d1 d2 d3 l M) (m' := flo (fC K) a d1 d2 d3 l M') (rest := [(b, OO.lst (dsB es)), (g, OO.lst ds)]) hK (a_cons (e_var rfl) (a_cons (e_var rfl) a_nil)) ⟨a, d1, d2, d3, l, M, e, _, _, rfl, rfl, wld c0 c1, hB.at_.gd, hok, hB.at_.sz.mono (by omega), .inl ⟨d, M', hs, rfl⟩⟩ rfl (fun x hx => may_all hF rfl x (List.mem_of_mem_take (i := 5) hx))) ?_
    refine x_if (b := true) (EvT.to (t_tst (e_neD hK (e_var rfl) (e_lst (ds := []) a_nilD) (told_shp hs) rfl)) (by rw [told_ne]; rfl)) (fun _ => ?_) (fun h => absurd h (by decide))
    refine x_seq (x_app (p := b) (ds := dsB es) 5 (e_var rfl) (e_var rfl) rfl (by rw [List.length_map]; omega) (may_of 5 hF rfl) ⟨_, List.mem_of_getElem? (i := 5) rfl⟩ (x_nx ?_))
    refine x_app (p := g) (ds := ds) 6 (e_var rfl) (e_ixL (ds := [d]) hK (e_var rfl) e_int (atI_nat (j := 0) rfl)) rfl (by omega) (may_of 6 hF rfl) ⟨_, List.mem_of_getElem? (i := 6) rfl⟩ ?_
    refine x_end hnx hD ?_
    rw [show dsB (es ++ [e]) = dsB es ++ [.tuple e.data] by simp]
    exact List.Sublist.refl _
  · refine x_let (s := dL []) (e_callM (m := flo (fC K) a d1 d2 d3 l M) (m' := flo (fC K) a d1 d2 d3 l M) (rest := [(b, OO.lst (dsB es)), (g, OO.lst ds)]) hK (a_cons (e_var rfl) (a_cons (e_var rfl) a_nil)) ⟨a, d1, d2, d3, l, M, e, _, _, rfl, rfl, wld c0 c1, hB.at_.gd, hok, hB.at_.sz.mono (by omega), .inr ⟨c, hr, rfl⟩⟩ rfl (fun x hx => may_all hF rfl x (List.mem_of_mem_take (i := 5) hx))) ?_
    exact x_if (b := false) (EvT.to (t_tst (e_neD hK (e_var rfl) (e_lst (ds := []) a_nilD) rfl rfl)) (by rw [nil_eq]; rfl)) (fun h => absurd h (by decide)) fun _ => x_next (x_end hnx hD (List.Sublist.refl _))
theorem sc__law_more : FnScope ["_law_floor", "_law_places_here", "_law_wares_here", "_law_cell", "_law_book", "_law_gave", "_law_k"] ["_law_floor", "_law_places_here", "_law_wares_here", "_law_cell", "_law_book", "_law_gave"] (defScope s__law_more) := ⟨rfl, rfl, rfl, by decide +kernel, rfl, by decide +kernel, by decide +kernel⟩
def g__law_more (K : PySem.W.Frag) (as : List Sv) (m : Mu) (o : Oc) : Prop := ∃ (a d1 d2 d3 l b g : Addr) (M : FM) (c0 c1 c : Int) (es : List Deed) (ds : List PD), as = [.r (.ref a), dL (plD c1), dL (wrD c0), dI c, .r (.ref b), .r (.ref g)] ∧ m = flo (fC K) a d1 d2 d3 l M ++ [(b, OO.lst (dsB es)), (g, OO.lst ds)] ∧ Bk c0 c1 es ds M ∧ es.length ≤ 100 ∧ o = .ret dN (flo (fC K) a d1 d2 d3 l (moreM c0 c1 M (moreN c)) ++ [(b, OO.lst (dsB (es ++ mEs c0 c1 (moreN c)))), (g, OO.lst (ds ++ List.replicate (moreN c) .none))])
theorem ok__law_more {P : Program} {w : World} {K : PySem.W.Frag} {mg : Str → Option Value} {base : Heap} (T : Tx K mg w) (c : He.SaysD fa fn K) : FnB P w K mg base 4 (He.fAd K ("_law_more", none)) ["_law_floor", "_law_places_here", "_law_wares_here", "_law_cell", "_law_book", "_law_gave"] (spG K 6 false (g__law_more K)) := by
  obtain ⟨fd_Floor_come, g_Floor_come, b_Floor_come, k_Floor_come⟩ := ok_Floor_come (P := P) (w := w) (base := base) T c
  obtain ⟨fd, F⟩ := c.def_ 57 (d := d__law_more) rfl
  refine ⟨fd, fn_ok F sc__law_more rfl fun cdv A outer s H E hr => ⟨_, (pss_one (ps_if (pt_cmpR op_eq (pe_op op_mod (pe_op op_fdiv (pv 3) pe_int) pe_int) pe_int (nomark _)) (pss_one (ps_for (passes_of rfl) rfl (pi_range1 (by rfl) T.z_range (pa_cons (pe_op op_mod (pe_op op_fdiv (pv 3) pe_int) pe_int) pa_nil)) (pg_name (i := 6) sc__law_more.nd rfl (Or.inl rfl))
      (pss_cons (ps_expr (pe_bm PySem.F.plainAttrs_list PySem.F.slot_list_append PySem.F.type_list_append mt_append (pv 4) (pa_cons (pe_tup (pa_cons pe_str (pa_cons (pe_ix (ix_list' (K := K) rfl) (pv 1) (pe_op op_mod (pv 6) pe_int) (fun _ _ => rfl)) (pa_cons (pe_ix (ix_list' (K := K) rfl) (pv 2) (pe_op op_mod (pv 6) pe_int) (fun _ _ => rfl)) (pa_cons (pe_op op_add pe_int (pv 6)) pa_nil))))) pa_nil)))
    (pss_one (ps_expr (pe_bm PySem.F.plainAttrs_list PySem.F.slot_list_append PySem.F.type_list_append mt_append (pv 5) (pa_cons (pe_meth (pv 0) T.cl_Floor T.mt_come g_Floor_come (hr.mono (by decide)) b_Floor_come .nil (passes_call (takes_of rfl rfl rfl rfl) (fun _ _ _ _ z => z)) (pa_cons (pe_ix (ix_list' (K := K) rfl) (pv 1) (pe_op op_mod (pv 6) pe_int) (fun _ _ => rfl)) (pa_cons (pe_ix (ix_list' (K := K) rfl) (pv 2) (pe_op op_mod (pv 6) pe_int) (fun _ _ => rfl)) (pa_cons (pe_op op_add pe_int (pv 6)) pa_nil)))) pa_nil))))))) pss_nil)), ?_⟩, FunD.bindsN F (fun _ _ _ _ _ _ us hl => match us, hl with | [_, _, _, _, _, _], _ => rfl), F.kp⟩
  intro Γ as m o D hK hF hO hn hG hnx hD
  try dsimp only [cxOf]
  obtain ⟨a, d1, d2, d3, l, b, g, M, c0, c1, c, es, ds, rfl, rfl, hB, hn, rfl⟩ := hG
  have hl := hB.run.len
  refine x_if (t_tst (e_eqI (e_opIC (e_opIC (e_var rfl) e_int ⟨by decide, by decide⟩) e_int (by show (0 : Int) < 3; decide)) e_int)) (fun hb => ?_) fun hb => x_next ?_
  rotate_left
  · have hc : ¬c / 252 % 3 = 2 := of_decide_eq_false hb
    have e : moreN c = 0 := if_neg hc
    rw [e] at hD
    refine x_end hnx hD ?_
    rw [show mEs c0 c1 0 = [] from rfl, List.append_nil, show List.replicate 0 PyData.none = [] from rfl, List.append_nil]
    exact List.Sublist.refl _
  have hc : c / 252 % 3 = 2 := of_decide_eq_true hb
  have e : moreN c = (c / 756 % 200).toNat := if_pos hc
  refine x_for (w_range1 (j := c / 756 % 200) (e_opIC (e_opIC (e_var rfl) e_int ⟨by decide, by decide⟩) e_int (by show (0 : Int) < 200; decide)) (by omega) (by omega)) (fun i δ μ => ∃ y6, δ = [some (.r (.ref a)), some (dL (plD c1)), some (dL (wrD c0)), some (dI c), some (.r (.ref b)), some (.r (.ref g)), y6] ∧ μ = flo (fC K) a d1 d2 d3 l (moreM c0 c1 M i) ++ [(b, OO.lst (dsB (es ++ mEs c0 c1 i))), (g, OO.lst (ds ++ List.replicate i .none))]) ⟨_, rfl, by rw [show mEs c0 c1 0 = [] from rfl, List.append_nil, show List.replicate 0 PyData.none = [] from rfl, List.append_nil]; rfl⟩ ?_ ?_
  · rintro i s δ μ gh D' hs' ⟨y6, rfl, rfl⟩ hnx' hct' hrt' _
    have hi : i < (c / 756 % 200).toNat := by
      have := (List.getElem?_eq_some_iff.mp hs').1
      rwa [rangeS_len] at this
    rw [rangeS_get hi, Int.zero_add] at hs'
    cases hs'
    have hBi := hB.more i (by omega)
    have hzi := hBi.at_.sz
    rw [List.length_append, mEs_len] at hzi
    have b30 : (300 : Int) ≤ 10 ^ 30 := by decide
    refine ⟨_, gt_name, ?_⟩
    refine x_seq (x_app (p := b) (ds := dsB (es ++ mEs c0 c1 i)) 5 (e_var rfl) (e_tup (ds := (mE c0 c1 i).data) (a_consD e_str (a_consD (e_ixL (d := .int (pl c1 (i % 4))) hK (e_var rfl) (Ev.to (e_opIC (e_var rfl) e_int (by show (0 : Int) < 4; decide)) (congrArg dI (show ((i : Nat) : Int) % 4 = ((i % 4 : Nat) : Int) by omega))) (atI_nat (plD_get (by omega)))) (a_consD (e_ixL (d := .str (wr c0 (i % 3))) hK (e_var rfl) (Ev.to (e_opIC (e_var rfl) e_int (by show (0 : Int) < 3; decide)) (congrArg dI (show ((i : Nat) : Int) % 3 = ((i % 3 : Nat) : Int) by omega))) (atI_nat (wrD_get (by omega)))) (a_consD (e_opI e_int (e_var rfl)) a_nilD))))) rfl (by rw [List.length_map, List.length_append, mEs_len]; omega) (may_of 5 hF rfl) ⟨_, List.mem_of_getElem? (i := 5) rfl⟩ (x_nx ?_))
    refine x_app (p := g) (ds := ds ++ List.replicate i .none) 6 (e_var rfl) (e_methM (m := flo (fC K) a d1 d2 d3 l (moreM c0 c1 M i)) (m' := flo (fC K) a d1 d2 d3 l (moreM c0 c1 M (i + 1))) (rest := [(b, OO.lst (dsB (es ++ mEs c0 c1 i) ++ [.tuple (mE c0 c1 i).data])), (g, OO.lst (ds ++ List.replicate i .none))]) hK (e_var rfl) (List.mem_of_getElem? (i := 0) rfl) rfl (a_cons (e_ixL (d := .int (pl c1 (i % 4))) hK (e_var rfl) (Ev.to (e_opIC (e_var rfl) e_int (by show (0 : Int) < 4; decide)) (congrArg dI (show ((i : Nat) : Int) % 4 = ((i % 4 : Nat) : Int) by omega))) (atI_nat (plD_get (by omega)))) (a_cons (e_ixL (d := .str (wr c0 (i % 3))) hK (e_var rfl) (Ev.to (e_opIC (e_var rfl) e_int (by show (0 : Int) < 3; decide)) (congrArg dI (show ((i : Nat) : Int) % 3 = ((i % 3 : Nat) : Int) by omega))) (atI_nat (wrD_get (by omega)))) (a_cons (e_opI e_int (e_var rfl)) a_nil))) ⟨a, d1, d2, d3, l, moreM c0 c1 M i, _, _, _, rfl, rfl, (wr_ok c0 (i % 3)).st, hzi.mono (by omega), .inr (.inr (.inr ⟨_, _, _, rfl, rfl, rfl, wr_ok c0 (i % 3), (isWh_ok.mpr ⟨_, rfl, (pl_ok c1 (i % 4)).1, (pl_ok c1 (i % 4)).2⟩), (isWh_ok.mpr ⟨_, rfl, by omega, by omega⟩), by rw [moreM_succ]⟩))⟩ rfl (fun x hx => may_all hF rfl x (List.mem_of_mem_take (i := 5) hx))) rfl (by rw [List.length_append, List.length_replicate]; omega) (may_of 6 hF rfl) ⟨_, List.mem_of_getElem? (i := 6) rfl⟩ ?_
    refine nx_loop hnx' ⟨_, rfl, ?_⟩
    rw [mEs_succ, List.replicate_succ', ← List.append_assoc, ← List.append_assoc, show dsB (es ++ mEs c0 c1 i ++ [mE c0 c1 i]) = dsB (es ++ mEs c0 c1 i) ++ [.tuple (mE c0 c1 i).data] by simp]
    rfl
  · rintro δ μ ⟨y6, rfl, rfl⟩
    rw [rangeS_len]
    rw [e] at hD
    exact x_end hnx hD (List.Sublist.refl _)
theorem sc_law : FnScope ["_law_script", "_law_wares_here", "_law_places_here", "_law_scale_here", "_law_floor", "_law_book", "_law_gave", "_law_cell", "_law_entry_cell", "_law_kept", "_law_again", "_law_seen_here", "_law_at", "_law_spoilt", "_law_handed", "_law_found", "_law_due", "_law_strange_here", "_law_word"] ["_law_script"] (defScope s_law) := ⟨rfl, rfl, rfl, by decide +kernel, rfl, by decide +kernel, by decide +kernel⟩
def g_law (K : PySem.W.Frag) (as : List Sv) (m : Mu) (o : Oc) : Prop := ∃ ns : List Int, as = [dL (ns.map .int)] ∧ m = [] ∧ ns.length ≤ 63 ∧ o = .ret (dB true) []
theorem ok_law {P : Program} {w : World} {K : PySem.W.Frag} {mg : Str → Option Value} (T : Tx K mg w) (c : He.SaysD fa fn K) : ∃ fd, (∀ base, FnOk P w K mg base (L2.CX P w) 8 (He.fAd K ("law", none)) fd ["_law_script"] (spG K 1 true (g_law K))) ∧ ∀ (s : Shared) (u : Value), BindsTo s fd ⟨[u], []⟩ [("_law_script", u)] := by
  obtain ⟨fd, F⟩ := c.def_ 58 (d := d_law) rfl
  refine ⟨fd, fun base => ?_, fun s u => FunD.bindsA (ps := ["_law_script"]) F (fun _ _ _ _ _ _ us hl => match us, hl with | [_], _ => rfl) s [u] rfl⟩
  obtain ⟨fd__law_wares, g__law_wares, b__law_wares, k__law_wares⟩ := ok__law_wares (P := P) (w := w) (base := base) T c
  obtain ⟨fd__law_places, g__law_places, b__law_places, k__law_places⟩ := ok__law_places (P := P) (w := w) (base := base) T c
  obtain ⟨fd__law_scale, g__law_scale, b__law_scale, k__law_scale⟩ := ok__law_scale (P := P) (w := w) (base := base) T c
  obtain ⟨fd_Floor___init__, g_Floor___init__, b_Floor___init__, k_Floor___init__⟩ := ok_Floor___init__ (P := P) (w := w) (base := base) T c
  obtain ⟨fd__law_cell_at, g__law_cell_at, b__law_cell_at, k__law_cell_at⟩ := ok__law_cell_at (P := P) (w := w) (base := base) T c
  obtain ⟨fd__law_more, g__law_more, b__law_more, k__law_more⟩ := ok__law_more (P := P) (w := w) (base := base) T c
  obtain ⟨fd_replayed, g_replayed, b_replayed, k_replayed⟩ := ok_replayed (P := P) (w := w) (base := base) T c
  obtain ⟨fd__law_seen, g__law_seen, b__law_seen, k__law_seen⟩ := ok__law_seen (P := P) (w := w) (base := base) T c
  obtain ⟨fd__law_strange, g__law_strange, b__law_strange, k__law_strange⟩ := ok__law_strange (P := P) (w := w) (base := base) T c
  obtain ⟨fd_fault, g_fault, b_fault, k_fault⟩ := ok_fault (P := P) (w := w) (base := base) T c
  obtain ⟨fd__law_next, g__law_next, b__law_next, k__law_next⟩ := ok__law_next (P := P) (w := w) (base := base) T c
  obtain ⟨fd__law_entered, g__law_entered, b__law_entered, k__law_entered⟩ := ok__law_entered (P := P) (w := w) (base := base) T c
  obtain ⟨fd__law_same_again, g__law_same_again, b__law_same_again, k__law_same_again⟩ := ok__law_same_again (P := P) (w := w) (base := base) T c
  obtain ⟨fd_Floor_book, g_Floor_book, b_Floor_book, k_Floor_book⟩ := ok_Floor_book (P := P) (w := w) (base := base) T c
  obtain ⟨fd__law_whole, g__law_whole, b__law_whole, k__law_whole⟩ := ok__law_whole (P := P) (w := w) (base := base) T c
  obtain ⟨fd__law_refused, g__law_refused, b__law_refused, k__law_refused⟩ := ok__law_refused (P := P) (w := w) (base := base) T c
  obtain ⟨fd__law_done_alone, g__law_done_alone, b__law_done_alone, k__law_done_alone⟩ := ok__law_done_alone (P := P) (w := w) (base := base) T c
  refine fn_ok F sc_law rfl fun cdv A outer s H E hr => ⟨_, (pss_cons (ps_set (i := 1) sc_law.nd rfl (Or.inl rfl) (pe_call g__law_wares (hr.mono (by decide)) (by rfl) T.m__law_wares k__law_wares b__law_wares .nil (passes_call (takes_of rfl rfl rfl rfl) (fun _ _ _ _ z => z)) (pa_cons (pe_call g__law_cell_at (hr.mono (by decide)) (by rfl) T.m__law_cell_at k__law_cell_at b__law_cell_at .nil (passes_call (takes_of rfl rfl rfl rfl) (fun _ _ _ _ z => z)) (pa_cons (pv 0) (pa_cons pe_int pa_nil))) pa_nil)))
    (pss_cons (ps_set (i := 2) sc_law.nd rfl (Or.inl rfl) (pe_call g__law_places (hr.mono (by decide)) (by rfl) T.m__law_places k__law_places b__law_places .nil (passes_call (takes_of rfl rfl rfl rfl) (fun _ _ _ _ z => z)) (pa_cons (pe_call g__law_cell_at (hr.mono (by decide)) (by rfl) T.m__law_cell_at k__law_cell_at b__law_cell_at .nil (passes_call (takes_of rfl rfl rfl rfl) (fun _ _ _ _ z => z)) (pa_cons (pv 0) (pa_cons pe_int pa_nil))) pa_nil)))
    (pss_cons (ps_set (i := 3) sc_law.nd rfl (Or.inl rfl) (pe_call g__law_scale (hr.mono (by decide)) (by rfl) T.m__law_scale k__law_scale b__law_scale .nil (passes_call (takes_of rfl rfl rfl rfl) (fun _ _ _ _ z => z)) (pa_cons (pe_call g__law_cell_at (hr.mono (by decide)) (by rfl) T.m__law_cell_at k__law_cell_at b__law_cell_at .nil (passes_call (takes_of rfl rfl rfl rfl) (fun _ _ _ _ z => z)) (pa_cons (pv 0) (pa_cons pe_int pa_nil))) pa_nil)))
    (pss_cons (ps_set (i := 4) sc_law.nd rfl (Or.inl rfl) (pe_make0 T.mk_Floor g_Floor___init__ (hr.mono (by decide)) (by rfl) T.m_Floor b_Floor___init__ .nil (passes_call (takes_of rfl rfl rfl rfl) (fun _ _ _ _ z => z))))
    (pss_cons (ps_set (i := 5) sc_law.nd rfl (Or.inl rfl) (pe_lst pa_nil))
    (pss_cons (ps_set (i := 6) sc_law.nd rfl (Or.inl rfl) (pe_lst pa_nil))
    (pss_cons (ps_set (i := 7) sc_law.nd rfl (Or.inl rfl) (pe_call g__law_cell_at (hr.mono (by decide)) (by rfl) T.m__law_cell_at k__law_cell_at b__law_cell_at .nil (passes_call (takes_of rfl rfl rfl rfl) (fun _ _ _ _ z => z)) (pa_cons (pv 0) (pa_cons pe_int pa_nil))))
    (pss_cons (ps_for (passes_of rfl) rfl (pi_list' (K := K) rfl (pe_slice (sl_list' (K := K) rfl) (pv 0) (po_some pe_int) (po_some pe_int))) (pg_name (i := 8) sc_law.nd rfl (Or.inl rfl))
      (pss_one (ps_expr (pe_call g__law_entered (hr.mono (by decide)) (by rfl) T.m__law_entered k__law_entered b__law_entered .nil (passes_call (takes_of rfl rfl rfl rfl) (fun _ _ _ _ z => z)) (pa_cons (pv 4) (pa_cons (pv 2) (pa_cons (pv 1) (pa_cons (pe_lst (pa_cons (pv 3) (pa_cons (pv 8) pa_nil))) (pa_cons (pv 5) (pa_cons (pv 6) pa_nil))))))))))
    (pss_cons (ps_expr (pe_call g__law_more (hr.mono (by decide)) (by rfl) T.m__law_more k__law_more b__law_more .nil (passes_call (takes_of rfl rfl rfl rfl) (fun _ _ _ _ z => z)) (pa_cons (pv 4) (pa_cons (pv 2) (pa_cons (pv 1) (pa_cons (pv 7) (pa_cons (pv 5) (pa_cons (pv 6) pa_nil))))))))
    (pss_cons (ps_if (PW.pt (pw_or (pt_not (pt_val (pe_callB (call_isi' (K := K) rfl) (by rfl) T.z_isinstance (by decide +kernel) (pa_cons (pe_meth0 (pv 4) T.cl_Floor T.mt_book g_Floor_book (hr.mono (by decide)) b_Floor_book .nil (passes_call (takes_of rfl rfl rfl rfl) (fun _ _ _ _ z => z))) (pa_cons (pe_bltn (v := .ty "list") rfl T.z_list (by decide +kernel) rfl) pa_nil))))) (pw_or (pt_cmpR (op_neD' (K := K) rfl hr.units) (pe_meth0 (pv 4) T.cl_Floor T.mt_book g_Floor_book (hr.mono (by decide)) b_Floor_book .nil (passes_call (takes_of rfl rfl rfl rfl) (fun _ _ _ _ z => z))) (pv 5) (nomark _)) (pw_or1 (pt_cmp (pc_notN (pe_call g_fault (hr.mono (by decide)) (by rfl) T.m_fault k_fault b_fault .nil (passes_call (takes_of rfl rfl rfl rfl) (fun _ _ _ _ z => z)) (pa_cons (pe_callTy (call_list_of' (K := K) rfl) (by rfl) T.z_list (by decide +kernel) (pa_cons (pv 5) pa_nil)) pa_nil)))))))) (pss_one (ps_ret pe_bl)) pss_nil)
    (pss_cons (ps_set (i := 9) sc_law.nd rfl (Or.inl rfl) (pe_callTy (call_list_of' (K := K) rfl) (by rfl) T.z_list (by decide +kernel) (pa_cons (pv 5) pa_nil)))
    (pss_cons (ps_set (i := 10) sc_law.nd rfl (Or.inl rfl) (pe_call g_replayed (hr.mono (by decide)) (by rfl) T.m_replayed k_replayed b_replayed .nil (passes_call (takes_of rfl rfl rfl rfl) (fun _ _ _ _ z => z)) (pa_cons (pv 9) pa_nil)))
    (pss_cons (ps_set (i := 11) sc_law.nd rfl (Or.inl rfl) (pe_call g__law_seen (hr.mono (by decide)) (by rfl) T.m__law_seen k__law_seen b__law_seen .nil (passes_call (takes_of rfl rfl rfl rfl) (fun _ _ _ _ z => z)) (pa_cons (pv 4) (pa_cons (pv 2) (pa_cons (pv 1) pa_nil)))))
    (pss_cons (ps_if (pt_cmpR (op_neD' (K := K) rfl hr.units) (pv 9) (pv 5) (nomark _)) (pss_one (ps_ret pe_bl)) pss_nil)
    (pss_cons (ps_expr (pe_bm PySem.F.plainAttrs_list PySem.F.slot_list_append PySem.F.type_list_append mt_append (pv 9) (pa_cons pe_non pa_nil)))
    (pss_cons (ps_if (pt_cmpR (op_neD' (K := K) rfl hr.units) (pe_call g__law_seen (hr.mono (by decide)) (by rfl) T.m__law_seen k__law_seen b__law_seen .nil (passes_call (takes_of rfl rfl rfl rfl) (fun _ _ _ _ z => z)) (pa_cons (pv 10) (pa_cons (pv 2) (pa_cons (pv 1) pa_nil)))) (pv 11) (nomark _)) (pss_one (ps_ret pe_bl)) pss_nil)
    (pss_cons (ps_set (i := 12) sc_law.nd rfl (Or.inl rfl) (pe_op op_mod (pe_op op_fdiv (pv 7) pe_int) (pe_op op_add (pe_callB (call_len_seq' (K := K) rfl) (by rfl) T.z_len (by decide +kernel) (pa_cons (pv 5) pa_nil)) pe_int)))
    (pss_cons (ps_asg (pe_call g__law_strange (hr.mono (by decide)) (by rfl) T.m__law_strange k__law_strange b__law_strange .nil (passes_call (takes_of rfl rfl rfl rfl) (fun _ _ _ _ z => z)) (pa_cons (pv 7) (pa_cons (pe_ix (ix_list' (K := K) rfl) (pv 1) pe_int (fun _ _ => rfl)) pa_nil))) (pg_unl' (K := K) (n := 2) rfl rfl (pgs_cons (pg_name (i := 17) sc_law.nd rfl (Or.inl rfl)) (pgs_cons (pg_name (i := 18) sc_law.nd rfl (Or.inl rfl)) pgs_nil))))
    (pss_cons (ps_set (i := 13) sc_law.nd rfl (Or.inl rfl) (pe_op (op_catD (K := K) rfl) (pe_op (op_catD (K := K) rfl) (pe_op (op_catD (K := K) rfl) (pe_slice (sl_list' (K := K) rfl) (pv 5) po_none (po_some (pv 12))) (pe_lst (pa_cons (pv 17) pa_nil))) (pe_slice (sl_list' (K := K) rfl) (pv 5) (po_some (pv 12)) po_none)) (pe_lst (pa_cons (pe_ix (ix_list' (K := K) rfl) (pe_call g__law_strange (hr.mono (by decide)) (by rfl) T.m__law_strange k__law_strange b__law_strange .nil (passes_call (takes_of rfl rfl rfl rfl) (fun _ _ _ _ z => z)) (pa_cons (pe_op op_fdiv (pv 7) pe_int) (pa_cons (pe_ix (ix_list' (K := K) rfl) (pv 1) pe_int (fun _ _ => rfl)) pa_nil))) pe_int (fun _ _ => rfl)) pa_nil))))
    (pss_cons (ps_set (i := 14) sc_law.nd rfl (Or.inl rfl) (pe_callTy (call_list_of' (K := K) rfl) (by rfl) T.z_list (by decide +kernel) (pa_cons (pv 13) pa_nil)))
    (pss_cons (ps_set (i := 15) sc_law.nd rfl (Or.inl rfl) (pe_call g_fault (hr.mono (by decide)) (by rfl) T.m_fault k_fault b_fault .nil (passes_call (takes_of rfl rfl rfl rfl) (fun _ _ _ _ z => z)) (pa_cons (pv 14) pa_nil)))
    (pss_cons (ps_if (PW.pt (pw_or (pt_not (pt_val (pe_call g__law_whole (hr.mono (by decide)) (by rfl) T.m__law_whole k__law_whole b__law_whole .nil (passes_call (takes_of rfl rfl rfl rfl) (fun _ _ _ _ z => z)) (pa_cons (pv 15) pa_nil)))) (pw_or (pt_cmpR op_ne (pv 15) (pv 12) (nomark _)) (pw_or (pt_cmpR (op_neX (K := K) rfl hr.units) (pv 14) (pv 13) (nomark _)) (pw_or1 (pt_cmpR op_ne (pe_call g__law_refused (hr.mono (by decide)) (by rfl) T.m__law_refused k__law_refused b__law_refused .nil (passes_call (takes_of rfl rfl rfl rfl) (fun _ _ _ _ z => z)) (pa_cons (pv 13) pa_nil)) (pv 18) (nomark _))))))) (pss_one (ps_ret pe_bl)) pss_nil)
    (pss_cons (ps_if (PW.pt (pw_or (pt_cmpR op_ne (pe_call g__law_done_alone (hr.mono (by decide)) (by rfl) T.m__law_done_alone k__law_done_alone b__law_done_alone .nil (passes_call (takes_of rfl rfl rfl rfl) (fun _ _ _ _ z => z)) (pa_cons (pv 4) (pa_cons (pv 17) pa_nil))) (pv 18) (nomark _)) (pw_or1 (pt_cmpR (op_neD' (K := K) rfl hr.units) (pe_call g__law_seen (hr.mono (by decide)) (by rfl) T.m__law_seen k__law_seen b__law_seen .nil (passes_call (takes_of rfl rfl rfl rfl) (fun _ _ _ _ z => z)) (pa_cons (pv 4) (pa_cons (pv 2) (pa_cons (pv 1) pa_nil)))) (pv 11) (nomark _))))) (pss_one (ps_ret pe_bl)) pss_nil)
    (pss_cons (ps_if (pt_not (pt_val (pe_call g__law_same_again (hr.mono (by decide)) (by rfl) T.m__law_same_again k__law_same_again b__law_same_again .nil (passes_call (takes_of rfl rfl rfl rfl) (fun _ _ _ _ z => z)) (pa_cons (pv 5) (pa_cons (pv 6) pa_nil))))) (pss_one (ps_ret pe_bl)) pss_nil)
    (pss_cons (ps_set (i := 16) sc_law.nd rfl (Or.inl rfl) (pe_call g__law_next (hr.mono (by decide)) (by rfl) T.m__law_next k__law_next b__law_next .nil (passes_call (takes_of rfl rfl rfl rfl) (fun _ _ _ _ z => z)) (pa_cons (pv 4) (pa_cons (pe_ix (ix_list' (K := K) rfl) (pv 2) pe_int (fun _ _ => rfl)) (pa_cons (pe_ix (ix_list' (K := K) rfl) (pv 1) pe_int (fun _ _ => rfl)) pa_nil)))))
    (pss_one (ps_ret (pe_and (pe_cmpR (op_eqD' (K := K) rfl hr.units) (pe_call g__law_next (hr.mono (by decide)) (by rfl) T.m__law_next k__law_next b__law_next .nil (passes_call (takes_of rfl rfl rfl rfl) (fun _ _ _ _ z => z)) (pa_cons (pv 10) (pa_cons (pe_ix (ix_list' (K := K) rfl) (pv 2) pe_int (fun _ _ => rfl)) (pa_cons (pe_ix (ix_list' (K := K) rfl) (pv 1) pe_int (fun _ _ => rfl)) pa_nil)))) (pv 16) (nomark _)) (pe_one (pe_cmpR (op_eqD' (K := K) rfl hr.units) (pv 9) (pe_op (op_catD (K := K) rfl) (pv 5) (pe_lst (pa_cons pe_non pa_nil))) (nomark _))))))))))))))))))))))))))))))), ?_⟩
  intro Γ as m o D hK hF hO hn hG hnx hD
  try dsimp only [cxOf]
  obtain ⟨ns, rfl, rfl, hlen, rfl⟩ := hG
  have may : ∀ b, Γ.may b := fun b => .inr (by rw [hO]; simp)
  have hcell : ∀ (gh : List (V × Sv)) (δ : De) (μ : Mu) (j : Nat) {te : TE}, Ev { Γ with gh := gh } te δ μ (dL (ns.map .int)) μ → Ev { Γ with gh := gh } (tCall (spG K 2 true (Sf.g__law_cell_at K)) [] E (tCons te (tCons (tC (.int (j : Int))) tNil))) δ μ (dI (ns.getD j 0)) μ := fun gh δ μ j te h => e_call hK (a_cons h (a_cons e_int a_nil)) ⟨ns, j, rfl, rfl, rfl⟩ (List.nil_sublist _)
  generalize hc0 : ns.getD 0 0 = c0 at *
  generalize hc1 : ns.getD 1 0 = c1 at *
  generalize hc2 : ns.getD 2 0 = c2 at *
  have hcell0 : ∀ (gh : List (V × Sv)) (δ : De) (μ : Mu) {te : TE}, Ev { Γ with gh := gh } te δ μ (dL (ns.map .int)) μ → Ev { Γ with gh := gh } (tCall (spG K 2 true (Sf.g__law_cell_at K)) [] E (tCons te (tCons (tC (.int 0)) tNil))) δ μ (dI c0) μ := fun gh δ μ te h => (hcell gh δ μ 0 h).to (by rw [hc0])
  have hcell1 : ∀ (gh : List (V × Sv)) (δ : De) (μ : Mu) {te : TE}, Ev { Γ with gh := gh } te δ μ (dL (ns.map .int)) μ → Ev { Γ with gh := gh } (tCall (spG K 2 true (Sf.g__law_cell_at K)) [] E (tCons te (tCons (tC (.int 1)) tNil))) δ μ (dI c1) μ := fun gh δ μ te h => (hcell gh δ μ 1 h).to (by rw [hc1])
  have hcell2 : ∀ (gh : List (V × Sv)) (δ : De) (μ : Mu) {te : TE}, Ev { Γ with gh := gh } te δ μ (dL (ns.map .int)) μ → Ev { Γ with gh := gh } (tCall (spG K 2 true (Sf.g__law_cell_at K)) [] E (tCons te (tCons (tC (.int 2)) tNil))) δ μ (dI c2) μ := fun gh δ μ te h => (hcell gh δ μ 2 h).to (by rw [hc2])
  refine x_let (e_call hK (a_cons (hcell0 Γ.gh _ _ (e_var rfl)) a_nil) ⟨c0, rfl, rfl, rfl⟩ (List.nil_sublist _)) ?_
  refine x_let (e_call hK (a_cons (hcell1 Γ.gh _ _ (e_var rfl)) a_nil) ⟨c1, rfl, rfl, rfl⟩ (List.nil_sublist _)) ?_
  refine x_let (e_call hK (a_cons (hcell1 Γ.gh _ _ (e_var rfl)) a_nil) ⟨c1, rfl, rfl, rfl⟩ (List.nil_sublist _)) ?_
  have hsc := scale10_ok c1
  have mk : ∀ (δ : De) (μ : Mu), EvN Γ (tMake (fC K) (spG K 1 false (Sf.g_Floor___init__ K)) [] E tNil) δ μ 5 s1 (fun ps => flo (fC K) (ps.getD 0 0) (ps.getD 1 0) (ps.getD 2 0) (ps.getD 3 0) (ps.getD 4 0) FM.new) μ := fun δ μ =>
    n_make (k := 4) hK (fun a => ⟨a, rfl, rfl, rfl⟩) fun ps h e he => by
      obtain ⟨a, b, c, d, f, rfl⟩ : ∃ a b c d f, ps = [a, b, c, d, f] := five_of h
      simp at he
      rcases he with rfl | rfl | rfl | rfl | rfl <;> simp
  refine x_letN 4 (mk _ _) fun ps hps _ => ?_
  obtain ⟨a, d1, d2, d3, l, rfl⟩ : ∃ a b c d f, ps = [a, b, c, d, f] := five_of hps
  have hW := wld c0 c1
  refine x_letN1 (n_lst (ds := []) a_nilD) fun b hb _ => ?_
  refine x_letN1 (n_lst (ds := []) a_nilD) fun g hg _ => ?_
  refine Sx.perm (μ := flo (fC K) a d1 d2 d3 l FM.new ++ [(b, OO.lst (dsB [])), (g, OO.lst [])]) ?_ (List.perm_append_comm.trans (List.Perm.swap _ _ _))
  refine x_let (hcell2 Γ.gh _ _ (e_var rfl)) ?_
  refine x_seq (x_for (w_list hK (e_slL hK (e_var rfl) (o_some (e_int (i := 3))) (o_some (e_int (i := 43))))) (fun i δ μ => ∃ y8 y9 y10 y11 y12 y13 y14 y15 y16 y17 y18 es ds M, δ = [some (dL (ns.map .int)), some (dL (wrD c0)), some (dL (plD c1)), some (dI (scale10 c1)), some (.r (.ref a)), some (.r (.ref b)), some (.r (.ref g)), some (dI c2), y8, y9, y10, y11, y12, y13, y14, y15, y16, y17, y18] ∧ μ = flo (fC K) a d1 d2 d3 l M ++ [(b, OO.lst (dsB es)), (g, OO.lst ds)] ∧ Bk c0 c1 es ds M ∧ es.length ≤ i) ⟨_, _, _, _, _, _, _, _, _, _, _, [], [], FM.new, rfl, rfl, Bk.new, Nat.le_refl _⟩ ?_ ?_)
  · rintro i s0 δ μ gh D' hs' ⟨y8, y9, y10, y11, y12, y13, y14, y15, y16, y17, y18, es, ds, M, rfl, rfl, hB, hi⟩ hnx' hct' hrt' _
    obtain ⟨z, rfl, hi6⟩ : ∃ z, s0 = dI z ∧ i < 63 := by
      have h1 := (List.getElem?_eq_some_iff.mp hs').1
      have h2 : (cutD (ns.map PyData.int) (some 3) (some 43)).length ≤ (ns.map PyData.int).length := by
        unfold cutD
        rw [List.length_take, List.length_drop]
        omega
      simp only [datas, List.length_map] at h1 h2
      have h3 := List.mem_of_getElem? hs'
      unfold datas cutD at h3
      obtain ⟨d, hd, rfl⟩ := List.mem_map.mp h3
      obtain ⟨z, _, rfl⟩ := List.mem_map.mp (List.mem_of_mem_drop (List.mem_of_mem_take hd))
      exact ⟨z, rfl, by omega⟩
    refine ⟨_, gt_name, ?_⟩
    have hok : (entry10 c0 c1 z (scale10 c1) ((((es.filter fun e => decide (hd13 e = "hold")).map fun _ => (PyData.int 1)).length : Nat) + 3)).ok (plL c1) (wrL c0) := some10_ok hsc.1 hsc.2 _
    have ARGS : ∀ (δ : De), δ = [some (dL (ns.map .int)), some (dL (wrD c0)), some (dL (plD c1)), some (dI (scale10 c1)), some (.r (.ref a)), some (.r (.ref b)), some (.r (.ref g)), some (dI c2), some (dI z), y9, y10, y11, y12, y13, y14, y15, y16, y17, y18] → EvA { Γ with gh := gh } (tCons (tVar 4) (tCons (tVar 2) (tCons (tVar 1) (tCons (tLst (tCons (tVar 3) (tCons (tVar 8) tNil))) (tCons (tVar 5) (tCons (tVar 6) tNil)))))) δ (flo (fC K) a d1 d2 d3 l M ++ [(b, OO.lst (dsB es)), (g, OO.lst ds)]) [.r (.ref a), dL (plD c1), dL (wrD c0), dL [.int (scale10 c1), .int z], .r (.ref b), .r (.ref g)] (flo (fC K) a d1 d2 d3 l M ++ [(b, OO.lst (dsB es)), (g, OO.lst ds)]) := fun δ e => by
      subst e
      exact a_cons (e_var rfl) (a_cons (e_var rfl) (a_cons (e_var rfl) (a_cons (e_lst (ds := [.int (scale10 c1), .int z]) (a_consD (e_var rfl) (a_consD (e_var rfl) a_nilD))) (a_cons (e_var rfl) (a_cons (e_var rfl) a_nil)))))
    rcases deed_or M (entry10 c0 c1 z (scale10 c1) ((((es.filter fun e => decide (hd13 e = "hold")).map fun _ => (PyData.int 1)).length : Nat) + 3)) with ⟨d, M', hs⟩ | ⟨c, hr⟩
    · refine x_drop (e_callM (m := flo (fC K) a d1 d2 d3 l M ++ [(b, OO.lst (dsB es)), (g, OO.lst ds)]) (m' := flo (fC K) a d1 d2 d3 l M' ++ [(b, OO.lst (dsB (es ++ [entry10 c0 c1 z (scale10 c1) ((((es.filter fun e => decide (hd13 e = "hold")).map fun _ => (PyData.int 1)).length : Nat) + 3)]))), (g, OO.lst (ds ++ [d]))]) (rest := []) hK (by rw [List.append_nil]; exact ARGS _ rfl) ⟨a, d1, d2, d3, l, b, g, M, c0, c1, scale10 c1, z, es, ds, rfl, rfl, hB, by omega, hsc.1, hsc.2, .inl ⟨d, M', hs, rfl⟩⟩ rfl (fun b _ => may b)) ?_
      rw [List.append_nil]
      exact nx_loop hnx' ⟨_, _, _, _, _, _, _, _, _, _, _, _, _, M', rfl, rfl, hB.snoc hok hs, by rw [List.length_append]; exact Nat.succ_le_succ hi⟩
    · refine x_drop (e_callM (m := flo (fC K) a d1 d2 d3 l M ++ [(b, OO.lst (dsB es)), (g, OO.lst ds)]) (m' := flo (fC K) a d1 d2 d3 l M ++ [(b, OO.lst (dsB es)), (g, OO.lst ds)]) (rest := []) hK (by rw [List.append_nil]; exact ARGS _ rfl) ⟨a, d1, d2, d3, l, b, g, M, c0, c1, scale10 c1, z, es, ds, rfl, rfl, hB, by omega, hsc.1, hsc.2, .inr ⟨c, hr, rfl⟩⟩ rfl (fun b _ => may b)) ?_
      rw [List.append_nil]
      exact nx_loop hnx' ⟨_, _, _, _, _, _, _, _, _, _, _, _, _, M, rfl, rfl, hB, by omega⟩
  rintro δ μ ⟨y8, y9, y10, y11, y12, y13, y14, y15, y16, y17, y18, es, ds, M, rfl, rfl, hB, hi⟩
  have hes : es.length ≤ 63 := by
    have h2 : (cutD (ns.map PyData.int) (some 3) (some 43)).length ≤ (ns.map PyData.int).length := by
      unfold cutD
      rw [List.length_take, List.length_drop]
      omega
    simp only [datas, List.length_map] at hi h2
    omega
  refine x_nx ?_
  have hm2 := moreN_le c2
  refine x_seq (x_drop (e_callM (m := flo (fC K) a d1 d2 d3 l M ++ [(b, OO.lst (dsB es)), (g, OO.lst ds)]) (m' := flo (fC K) a d1 d2 d3 l (moreM c0 c1 M (moreN c2)) ++ [(b, OO.lst (dsB (es ++ mEs c0 c1 (moreN c2)))), (g, OO.lst (ds ++ List.replicate (moreN c2) .none))]) (rest := []) hK (by rw [List.append_nil]; exact (a_cons (e_var rfl) (a_cons (e_var rfl) (a_cons (e_var rfl) (a_cons (e_var rfl) (a_cons (e_var rfl) (a_cons (e_var rfl) a_nil))))))) ⟨a, d1, d2, d3, l, b, g, M, c0, c1, c2, es, ds, rfl, rfl, hB, by omega, rfl⟩ rfl (fun b _ => may b)) (x_nx ?_))
  rw [List.append_nil]
  have hB' := hB.more (moreN c2) (by omega)
  have hn' : (es ++ mEs c0 c1 (moreN c2)).length ≤ 300 := by
    rw [List.length_append, mEs_len]
    omega
  generalize es ++ mEs c0 c1 (moreN c2) = es, ds ++ List.replicate (moreN c2) PyData.none = ds, moreM c0 c1 M (moreN c2) = M at hB' hn'
  clear hB hes hi
  rename_i es ds M _ _ _
  refine Sx.perm (μ := [(b, OO.lst (dsB es)), (g, OO.lst ds)] ++ flo (fC K) a d1 d2 d3 l M) ?_ List.perm_append_comm
  refine Sx.fzV 5 rfl hb ?_
  refine Sx.fzV 6 rfl hg ?_
  have hp := pln_list hB'.pln (by decide)
  have hn1 : es.length ≤ 1000 := by omega
  have hdsl : (dsB es).length = es.length := List.length_map _
  have hsz : M.sz 39000 := hB'.at_.sz.mono (by omega)
  have hwok := hB'.at_.gd.wok hW.st
  have hsp := pln_list (seen_pln hB') (by decide)
  refine x_seq (x_if (b := false) (EvT.to (t_or (t_not (t_B (e_isi_list hK (EvN.fz (n_meth hK (e_var rfl) (List.mem_of_getElem? (i := 0) rfl) rfl a_nil ⟨a, d1, d2, d3, l, M, rfl, rfl, rfl⟩ (List.Sublist.refl _) ha1))))) (fun _ => t_or (t_tst (e_neD hK (EvN.fz (n_meth hK (e_var rfl) (List.mem_of_getElem? (i := 0) rfl) rfl a_nil ⟨a, d1, d2, d3, l, M, rfl, rfl, rfl⟩ (List.Sublist.refl _) ha1)) (e_var rfl) (by rw [hB'.de]; exact hp.1) hp.1)) (fun _ => t_B (e_notN (e_call hK (a_cons (Ev.dx (EvN.fz (n_listL (ds := dsB es) hK (e_var rfl)))) a_nil) ⟨c0, c1, es, ds, M, _, rfl, rfl, hB', hn1, .inl ⟨dsB_x, rfl⟩⟩ (List.nil_sublist _)))))) (by rw [hB'.de, hp.2]; rfl)) (fun h => absurd h (by decide)) fun _ => x_next (x_nx ?_))
  refine x_letN1 (n_listL (ds := dsB es) hK (e_var rfl)) fun q hq _ => ?_
  refine x_letN 10 (n_call (m := [(q, OO.lst (dsB es))]) (k := 5) (sn := s1) (mn := fun ps => flo (fC K) (ps.getD 0 0) (ps.getD 1 0) (ps.getD 2 0) (ps.getD 3 0) (ps.getD 4 0) M) hK (a_cons (e_var rfl) a_nil) ⟨c0, c1, es, ds, M, bkX es, hB', hn1, .inr ⟨q, rfl, rfl, rfl⟩, .inl ⟨rfl, rfl⟩⟩ ((List.nil_sublist _).cons_cons _) fun ps h e he => ?_) fun ps2 hps2 _ => ?_
  · obtain ⟨a, b, c, d, f, rfl⟩ : ∃ a b c d f, ps = [a, b, c, d, f] := five_of h
    simp at he
    rcases he with rfl | rfl | rfl | rfl | rfl <;> simp
  obtain ⟨a2, e1, e2, e3, l2, rfl⟩ : ∃ a b c d f, ps2 = [a, b, c, d, f] := five_of hps2
  refine Sx.perm (μ := flo (fC K) a d1 d2 d3 l M ++ (flo (fC K) a2 e1 e2 e3 l2 M ++ [(q, OO.lst (dsB es))])) ?_ ?_
  rotate_left
  · refine (List.perm_append_comm (l₁ := flo (fC K) a d1 d2 d3 l M)).trans ?_
    rw [List.append_assoc]
    exact List.Perm.refl _
  refine x_let (e_call hK (a_cons (e_var rfl) (a_cons (e_var rfl) (a_cons (e_var rfl) a_nil))) ⟨a, d1, d2, d3, l, M, c0, c1, rfl, rfl, hwok, hsz, rfl⟩ (List.sublist_append_left _ _)) ?_
  refine x_seq (x_if (b := false) (EvT.to (t_tst (e_neO (p := q) (ds := dsB es) hK (e_var rfl) (e_var rfl) (List.mem_of_getElem? (i := 10) rfl) hp.1 hp.1)) (by rw [hp.2]; rfl)) (fun h => absurd h (by decide)) fun _ => x_next (x_nx ?_))
  refine x_seq (x_app (p := q) (ds := dsB es) 10 (e_var rfl) e_non rfl (by omega) (.inr hq) ⟨_, List.mem_of_getElem? (i := 10) rfl⟩ (x_nx ?_))
  show Sx Γ _ _ _ (flo (fC K) a d1 d2 d3 l M ++ (flo (fC K) a2 e1 e2 e3 l2 M ++ [(q, OO.lst (dsB es ++ [.none]))]))
  refine x_seq (x_if (b := false) (EvT.to (t_tst (e_neD hK (e_call hK (a_cons (e_var rfl) (a_cons (e_var rfl) (a_cons (e_var rfl) a_nil))) ⟨a2, e1, e2, e3, l2, M, c0, c1, rfl, rfl, hwok, hsz, rfl⟩ ((List.sublist_append_left _ _).trans (List.sublist_append_right _ _))) (e_var rfl) hsp.1 hsp.1)) (by rw [hsp.2]; rfl)) (fun h => absurd h (by decide)) fun _ => x_next (x_nx ?_))
  obtain ⟨n0, hn0, en0⟩ : ∃ n0 : Nat, n0 ≤ es.length ∧ c2 / 21 % (((dsB es).length : Nat) + 1 : Int) = (n0 : Int) := by
    have h1 := Int.emod_nonneg (c2 / 21) (b := (((dsB es).length : Nat) + 1 : Int)) (by omega)
    have h2 := Int.emod_lt_of_pos (c2 / 21) (b := (((dsB es).length : Nat) + 1 : Int)) (by omega)
    rw [hdsl] at h1 h2
    refine ⟨(c2 / 21 % (((dsB es).length : Nat) + 1 : Int)).toNat, ?_, ?_⟩ <;> rw [hdsl] <;> omega
  refine x_let (s := dI (n0 : Int)) (Ev.to (e_opIC (e_opIC (e_var rfl) e_int ⟨by decide, by decide⟩) (e_opI (e_lenL (ds := dsB es) hK (e_var rfl)) e_int) (by show (0 : Int) < ((dsB es).length : Nat) + 1; omega)) (congrArg dI en0)) ?_
  obtain ⟨M1, hB1⟩ := hB'.take n0
  have hl1 : (es.take n0).length = n0 := by
    rw [List.length_take]
    omega
  obtain ⟨cl1, hbad1⟩ := strange_bad (c0 := c0) (c1 := c1) hB1.at_ (by omega) c2
  obtain ⟨cl2, hbad2⟩ := strange_bad (c0 := c0) (c1 := c1) hB'.at_ (by omega) c2
  have hwl : (wr c0 0).length ≤ 1000 := by
    have := (wr_ok c0 0).2.1
    omega
  have STR : ∀ (c : Int) (δ : De) (te : TE), Ev Γ te δ (flo (fC K) a d1 d2 d3 l M ++ (flo (fC K) a2 e1 e2 e3 l2 M ++ [(q, OO.lst (dsB es ++ [.none]))])) (dI c) (flo (fC K) a d1 d2 d3 l M ++ (flo (fC K) a2 e1 e2 e3 l2 M ++ [(q, OO.lst (dsB es ++ [.none]))])) → δ[1]? = some (some (dL (wrD c0))) → Ev Γ (tCall (spG K 2 true (Sf.g__law_strange K)) [] E (tCons te (tCons (tOp (rIxL K) (tVar 1) (tC (.int 0))) tNil))) δ (flo (fC K) a d1 d2 d3 l M ++ (flo (fC K) a2 e1 e2 e3 l2 M ++ [(q, OO.lst (dsB es ++ [.none]))])) (.xl [(strX c (wr c0 0)).1, some (.str (strX c (wr c0 0)).2)]) (flo (fC K) a d1 d2 d3 l M ++ (flo (fC K) a2 e1 e2 e3 l2 M ++ [(q, OO.lst (dsB es ++ [.none]))])) := fun c δ te h h1 => e_call hK (a_cons h (a_cons (e_ixL (d := .str (wr c0 0)) hK (e_var h1) e_int (atI_nat (j := 0) rfl)) a_nil)) ⟨c, wr c0 0, rfl, rfl, hwl, rfl⟩ (List.nil_sublist _)
  generalize hsx : strX c2 (wr c0 0) = sx at hbad1 hbad2
  refine x_letT (Ev.to (STR c2 _ _ (e_var rfl) rfl) (by rw [hsx])) (gt_unlX hK) ?_
  refine x_letV (os := spoilt es n0 sx.1 (strX (c2 / 7) (wr c0 0)).1) (Ev.to (e_catX hK (e_catX hK (e_catX hK (Ev.dx (Ev.to (e_slL (ds := dsB es) hK (e_var rfl) o_none (o_some (e_var rfl))) (congrArg dL (cutD_to (ds := dsB es) (n := n0) (by omega))))) (e_lstX (os := [sx.1]) (a_cons (e_var rfl) a_nil)) ?_) (Ev.dx (Ev.to (e_slL (ds := dsB es) hK (e_var rfl) (o_some (e_var rfl)) o_none) (congrArg dL (cutD_fr (ds := dsB es) (n := n0) (by omega))))) ?_) (e_lstX (os := [(strX (c2 / 7) (wr c0 0)).1]) (a_cons (e_ixX hK (STR (c2 / 7) _ _ (e_opIC (e_var rfl) e_int ⟨by decide, by decide⟩) rfl) e_int (atI_nat (j := 0) rfl)) a_nil)) ?_) (congrArg Sv.xl spoilt_eq)) fun vs => ?_
  · rw [List.length_map, List.length_take]
    show _ + 1 ≤ _
    omega
  · rw [List.length_append, List.length_map, List.length_map, List.length_take, List.length_drop]
    show _ + 1 + _ ≤ _
    omega
  · rw [List.length_append, List.length_append, List.length_map, List.length_map, List.length_take, List.length_drop]
    show _ + 1 + _ + 1 ≤ _
    omega
  refine x_let (e_listV hK (e_var rfl)) ?_
  refine x_let (s := dI (n0 : Int)) (Ev.to (e_call hK (a_cons (Ev.vx (e_var rfl)) a_nil) ⟨c0, c1, es.take n0, ds.take n0, M1, _, rfl, rfl, hB1, by omega, .inr ⟨_, _, _, _, rfl, hbad1, rfl⟩⟩ (List.nil_sublist _)) (by rw [hl1])) ?_
  refine x_seq (x_if (b := false) (EvT.to (t_or (t_not (t_B (e_call hK (a_cons (e_var rfl) a_nil) ⟨_, rfl, rfl, rfl⟩ (List.nil_sublist _)))) (fun _ => t_or (t_tst (e_neI (e_var rfl) (e_var rfl))) (fun _ => t_or (t_tst (e_neV hK (e_var rfl) (e_var rfl))) (fun _ => t_tst (e_neS (x := sx.2) (y := sx.2) (e_call hK (a_cons (Ev.vx (e_var rfl)) a_nil) ⟨c0, c1, es.take n0, ds.take n0, M1, _, _, _, _, _, rfl, rfl, hB1, by omega, rfl, hbad1, rfl⟩ (List.nil_sublist _)) (e_var rfl)))))) (by rw [decide_eq_true (rfl : (n0 : Int) = n0), decide_eq_true (rfl : sx.2 = sx.2)]; rfl)) (fun h => absurd h (by decide)) fun _ => x_next (x_nx ?_))
  refine x_seq (x_if (b := false) (EvT.to (t_or (t_tst (e_neS (x := sx.2) (y := sx.2) (e_callM (m := flo (fC K) a d1 d2 d3 l M) (m' := flo (fC K) a d1 d2 d3 l M) (rest := (flo (fC K) a2 e1 e2 e3 l2 M ++ [(q, OO.lst (dsB es ++ [.none]))])) hK (a_cons (e_var rfl) (a_cons (e_var rfl) a_nil)) ⟨a, d1, d2, d3, l, M, c0, c1, sx.1, cl2, sx.2, rfl, rfl, hB'.at_.gd, hsz, hbad2, rfl⟩ rfl (fun b _ => may b)) (e_var rfl))) (fun _ => t_tst (e_neD hK (e_call hK (a_cons (e_var rfl) (a_cons (e_var rfl) (a_cons (e_var rfl) a_nil))) ⟨a, d1, d2, d3, l, M, c0, c1, rfl, rfl, hwok, hsz, rfl⟩ (List.sublist_append_left _ _)) (e_var rfl) hsp.1 hsp.1))) (by rw [hsp.2, decide_eq_true (rfl : sx.2 = sx.2)]; rfl)) (fun h => absurd h (by decide)) fun _ => x_next (x_nx ?_))
  refine x_seq (x_if (b := false) (EvT.to (t_not (t_B (e_call hK (a_cons (e_var rfl) (a_cons (e_var rfl) a_nil)) ⟨c0, c1, es, ds, M, rfl, rfl, hB', hn1, rfl⟩ (List.nil_sublist _)))) rfl) (fun h => absurd h (by decide)) fun _ => x_next (x_nx ?_))
  refine x_let (e_callM (m := flo (fC K) a d1 d2 d3 l M) (m' := flo (fC K) a d1 d2 d3 l (nextM M (pl c1 0) (wr c0 0))) (rest := (flo (fC K) a2 e1 e2 e3 l2 M ++ [(q, OO.lst (dsB es ++ [.none]))])) hK (a_cons (e_var rfl) (a_cons (e_ixL (d := .int (pl c1 0)) hK (e_var rfl) e_int (atI_nat (j := 0) (plD_get (c := c1) (by decide)))) (a_cons (e_ixL (d := .str (wr c0 0)) hK (e_var rfl) e_int (atI_nat (j := 0) rfl)) a_nil))) ⟨a, d1, d2, d3, l, M, c0, c1, es.length, rfl, rfl, hB'.at_, hn1, rfl⟩ rfl (fun b _ => may b)) ?_
  have hq2 : (q, OO.lst (dsB es ++ [.none])) ∈ [(q, OO.lst (dsB es ++ [PyData.none]))] ++ flo (fC K) a d1 d2 d3 l (nextM M (pl c1 0) (wr c0 0)) := List.mem_cons_self
  have hd2 := pln_list (n := 0) (ds := [.int (M.last + 1), .int (M.last + 1 + 1)]) (fun d hd => by
    simp only [List.mem_cons, List.not_mem_nil, or_false] at hd
    rcases hd with rfl | rfl <;> exact .int _) (by decide)
  have hk2 := pln_list (n := 1) (ds := dsB es ++ [PyData.none]) (fun d hd => by
    rcases List.mem_append.mp hd with z | z
    · exact hB'.pln d z
    · rw [List.mem_singleton.mp z]
      exact .non) (by decide)
  refine Sx.perm (μ := flo (fC K) a2 e1 e2 e3 l2 M ++ ([(q, OO.lst (dsB es ++ [PyData.none]))] ++ flo (fC K) a d1 d2 d3 l (nextM M (pl c1 0) (wr c0 0)))) ?_ ?_
  rotate_left
  · rw [← List.append_assoc]
    exact List.perm_append_comm
  exact x_ret (E := E) (Ev.to (e_andV (e_eqD hK (e_callM (m := flo (fC K) a2 e1 e2 e3 l2 M) (m' := flo (fC K) a2 e1 e2 e3 l2 (nextM M (pl c1 0) (wr c0 0))) (rest := [(q, OO.lst (dsB es ++ [PyData.none]))] ++ flo (fC K) a d1 d2 d3 l (nextM M (pl c1 0) (wr c0 0))) hK (a_cons (e_var rfl) (a_cons (e_ixL (d := .int (pl c1 0)) hK (e_var rfl) e_int (atI_nat (j := 0) (plD_get (c := c1) (by decide)))) (a_cons (e_ixL (d := .str (wr c0 0)) hK (e_var rfl) e_int (atI_nat (j := 0) rfl)) a_nil))) ⟨a2, e1, e2, e3, l2, M, c0, c1, es.length, rfl, rfl, hB'.at_, hn1, rfl⟩ rfl (fun b _ => may b)) (e_var rfl) hd2.1 hd2.1) (fun _ => e_eqO (p := q) (ds := dsB es ++ [.none]) hK (e_var rfl) (e_catD (ds := dsB es) (es := [.none]) hK (e_var rfl) (e_lst (ds := [.none]) (a_consD e_non a_nilD)) (by show (dsB es).length + 1 ≤ _; omega)) (List.mem_append_right _ hq2) hk2.1 hk2.1)) (by rw [hd2.2, hk2.2]; rfl)) hD (List.nil_sublist _)
theorem cx_no {P : Program} {w : World} {H : Hp} {s s' : Shared} {e : Value} (h : L2.CX P w [] H s (fun _ _ _ => False) e s') : False := by
  obtain ⟨_, _, _, _, _, _, _, _, _, _, _, _, z⟩ := h
  exact z
theorem law_end {P : Program} {w : World} {K : PySem.W.Frag} {h : Heap} {mg : Str → Option Value} {f : Addr} (KX : K.In h) (G : h.Ns mainGlobals mg) (hm : mg ("law" : Str) = some (.ref f)) (c : He.SaysD fa fn K) (hx : exT K = true) (ct : He.SaysT fa fn ts w K) :
    ∃ (K : PySem.W.Frag) (fd : FuncData) (sp : Sp), K.In h ∧ (∀ (s : Shared) (u : Value), BindsTo s fd ⟨[u], []⟩ [("_law_script", u)]) ∧
      (∀ (H : Hp) (a : Addr) (ns : List Int), ns.length ≤ 63 → (∀ z ∈ ns, Builtin.Int.intBits z ≤ 1048576) → SqL K H a (ns.map V.int) → sp [.ref a] H (fun v _ => v = .bl true) fun _ _ _ => False) ∧
      ∀ base : Heap, K.In base → base.Ns mainGlobals mg → FnOk P w K mg base (L2.CX P w) 8 f fd ["_law_script"] sp := by
  have T := tx_of KX G c hx ct
  have e : f = He.fAd K ("law", none) := by
    have q := T.m_law
    rw [hm] at q
    cases q
    rfl
  subst e
  obtain ⟨fd, F, B⟩ := ok_law (P := P) (w := w) T c
  refine ⟨K, fd, _, KX, B, fun H a ns hl _ hs => ?_, fun base _ _ => F base⟩
  refine ⟨⟨H, H, Same.rfl'⟩, [dL (ns.map .int)], [], .ret (dB true) [], rfl, .cons (Dp.lst hs DpAll.ints) .nil, ⟨fun _ z => (nomatch z), fun _ z => (nomatch z), List.nodup_nil⟩, rfl, ⟨ns, rfl, rfl, hl, rfl⟩, fun v W' _ h2 _ => ?_⟩
  exact svB h2
end Sf
namespace Sf
open PySem PySem.Spec PyProof.Rows L2
def ex (K : PySem.W.Frag) : Bool := exT K
abbrev R : PySem.W.OpenRow := PySem.W.OpenLaw.row PySem.Challenge.rw_stockfloor_k13_whole_books
abbrev hk : PySem.W.Hook := He.hookX 5 fa fn ts [] ex
def ob (s : PySem.W.SharedT) : He.AlX := He.obsX 5 fa fn ts [] ex (HandSHeadRun.getT s)
theorem ob_eq (s : PySem.W.SharedT) : ob s = hk.obs s.abs := He.obsX_eq (HandSHeadRun.getT_eq s)
def loose_0 : List PySem.Str := [("StockError" : PySem.Str), ("BadWare" : PySem.Str), ("BadPlace" : PySem.Str), ("BadMany" : PySem.Str), ("TooFew" : PySem.Str), ("SamePlace" : PySem.Str), ("NoHold" : PySem.Str), ("NoEntry" : PySem.Str), ("NoLine" : PySem.Str), ("LETTERS" : PySem.Str), ("is_whole" : PySem.Str), ("is_ware" : PySem.Str), ("need_ware" : PySem.Str), ("need_place" : PySem.Str), ("need_many" : PySem.Str), ("rank" : PySem.Str), ("dealt" : PySem.Str), ("Floor" : PySem.Str), ("PARTS" : PySem.Str), ("need_entry" : PySem.Str), ("done" : PySem.Str), ("replayed" : PySem.Str), ("fault" : PySem.Str), ("_law_whole" : PySem.Str), ("_law_cell_at" : PySem.Str), ("_law_ware_by" : PySem.Str), ("_law_wares" : PySem.Str), ("_law_places" : PySem.Str), ("_law_entry_by" : PySem.Str), ("_law_do" : PySem.Str)]
def loose_1 : List PySem.Str := [("_law_scale" : PySem.Str), ("_law_tried" : PySem.Str), ("_law_seen" : PySem.Str), ("_law_strange" : PySem.Str), ("_law_names" : PySem.Str), ("_law_refused" : PySem.Str), ("_law_done_alone" : PySem.Str), ("_law_next" : PySem.Str), ("_law_same_again" : PySem.Str), ("_law_entered" : PySem.Str), ("_law_more" : PySem.Str)]
def loose : List PySem.Str := loose_0 ++ loose_1
def setFT (w : World) (b : Bool) : World := { w with params := { w.params with followText := fun row => if row == "special-get-raises" then b else w.params.followText row } }
theorem setFT_eq (w : World) : setFT w (w.params.followText "special-get-raises") = w := by
  have e : (fun row => if row == "special-get-raises" then w.params.followText "special-get-raises" else w.params.followText row) = w.params.followText := funext fun row => by
    by_cases h : row = "special-get-raises"
    · rw [h]; rfl
    · rw [if_neg (by simpa using h)]
  unfold setFT
  rw [e]
set_option maxHeartbeats 0 in
theorem runT (w : World) : HandSHeadRun.RunEq R (PySem.W.view R.prog [47]) hk ob 6000 loose (setFT w true) := by
  intro os
  kernel_rfl
set_option maxHeartbeats 0 in
theorem runF (w : World) : HandSHeadRun.RunEq R (PySem.W.view R.prog [47]) hk ob 6000 loose (setFT w false) := by
  intro os
  kernel_rfl
theorem run (w : World) : HandSHeadRun.RunEq R (PySem.W.view R.prog [47]) hk ob 6000 loose w := by
  have h : ∀ b, HandSHeadRun.RunEq R (PySem.W.view R.prog [47]) hk ob 6000 loose (setFT w b) := fun b => match b with
    | true => runT w
    | false => runF w
  have := h (w.params.followText "special-get-raises")
  rwa [setFT_eq] at this
end Sf
open PySem PySem.W PySem.Calls PyProof.Rows
set_option maxRecDepth 100000 in
set_option maxHeartbeats 0 in
theorem PySem.Challenge.cw_stockfloor_k13_whole_books_holds : PySem.Challenge.rw_stockfloor_k13_whole_books.Holds := by
  w_on; o_law
  refine HandSHeadRun.head_any (r := OpenLaw.row PySem.Challenge.rw_stockfloor_k13_whole_books) (q := view (OpenLaw.row PySem.Challenge.rw_stockfloor_k13_whole_books).prog [47]) (H := Sf.hk) (ob := Sf.ob) (M := 6000) (loose := Sf.loose) (d := HandSHeadRun.topDef (OpenLaw.row PySem.Challenge.rw_stockfloor_k13_whole_books).prog 47) (kwd := []) Sf.ob_eq
    (by kernel_rfl) (fun s => by kernel_rfl) Sf.run (by kernel_rfl) (by kernel_rfl) (by kernel_rfl) (by rfl) (by first | assumption | decide +kernel) (by decide +kernel) ⟨rfl, rfl, rfl, rfl, rfl, by decide +kernel⟩ ?hw ?hc
  case hw => w_witness2
  case hc =>
    refine LamX.walk_ofTsE (l := PySem.Challenge.rw_stockfloor_k13_whole_books) (n := 63) (k := 8) (x := "_law_script") (CX := fun w => L2.CX PySem.Challenge.rw_stockfloor_k13_whole_books.prog w) rfl (by decide) (by kernel_rfl) ⟨rfl, by decide, by decide⟩ ?F (fun w H s e s' z => Sf.cx_no z)
    intro w mg fa h Y G hmg0
    obtain ⟨K, KX, c⟩ := Y
    have hmg : mg ("law" : PySem.Str) = some (.ref fa) := by
      have e : (HandSHeadRun.topDef (OpenLaw.row PySem.Challenge.rw_stockfloor_k13_whole_books).prog 47).name = ("law" : PySem.Str) := by kernel_rfl
      rw [← e]
      exact hmg0
    obtain ⟨K, fd, sp, KX, h1, h2, h3⟩ := Sf.law_end (P := PySem.Challenge.rw_stockfloor_k13_whole_books.prog) (w := w) KX G hmg c.t.d c.more c.t
    exact ⟨K, KX, fd, [], sp, fun _ z => (nomatch z), fun _ z => (nomatch z), fun _ z => (nomatch z), h1, fun H a ns hl hb _ hs => h2 H a ns hl hb hs, fun base b1 b2 _ => h3 base b1 b2⟩
