import PyProof.Rows.All
import Wide.All
import OpenK.AllK
import Wide.FinOn
import HandS.ForMost
import KE.GoesEnum
import KE.GoesMore
import HandS.Zip
import HandS.Walk
import HandS.Style
import HandS.ExcOwn
import HandS.CallSlots
import HandS.TryOnly
import HandS.ExcCtx
import HandS.Deep
import HandS.IsInst
import HandS.TupMul
import HandS.Exc
import HandS.TupAny
import HandS.Wide
import HandS.ExcInit
import HandS.WordsExc
import HandS.HotCalls
import HandS.ExcInitHot
import HandS.More
import HandS.Text
import HandS.RaiseMore
import PyProof.SumWalk
import PyProof.ReprRoads
import KE.KExcIs
import KE.KTypeName
import KE.KExcSuper
import HandS.ExcField
import HandS.ExcValue
import HandS.ExcBuiltin
import HandS.Ends
import KE.KIntText
import PySem.Challenge.RW_mergewright_k64_errors_and_tokens
-- VCore
set_option Elab.async false
set_option linter.all false
set_option maxRecDepth 100000
/-! VCore: values as trees (T), frozen and owned objects, the relation of slots to trees, the judgements. -/
namespace VS
open PySem L2

/-- a value as a tree -/
inductive T where
  | non | bl (b : Bool) | int (i : Int) | str (x : Str)
  | tup (xs : List T) | lst (xs : List T)
  | dct (ks vs : List T)
  | ins (C : Addr) (ns : List Str) (vs : List T)
  | xcp (a d : Addr) (ns : List Str) (vs : List T)
  | ref (a : Addr) | ty (n : String)
  | scr (ns : List Int)
  deriving Inhabited

/-- how a value is held: frozen (never changed again), owned (a list or dict whose items are held as c), an owned instance -/
inductive Md where
  | frz | own (c : Md) | obj (cs : List Md)

section
variable (K : PySem.W.Frag) (G : Hp)
mutual
inductive Tr : T → V → Prop
  | non : Tr .non .non
  | bl (b : Bool) : Tr (.bl b) (.bl b)
  | int (i : Int) : Tr (.int i) (.int i)
  | str (x : Str) : Tr (.str x) (.str x)
  | ref (a : Addr) : Tr (.ref a) (.ref a)
  | ty (n : String) : Tr (.ty n) (.ty n)
  | tup {a : Addr} {ts : List T} {vs : List V} (h : SqT K G a vs) (r : TrL ts vs) : Tr (.tup ts) (.ref a)
  | lst {a : Addr} {ts : List T} {vs : List V} (h : G a = some (.lst vs)) (r : TrL ts vs) : Tr (.lst ts) (.ref a)
  | scr {a : Addr} {ns : List Int} (h : SqL K G a (ns.map V.int)) : Tr (.scr ns) (.ref a)
  | ins {a C d : Addr} {ns : List Str} {ts : List T} {vs : List V} (h : G a = some (exo a C (some d))) (hd : G d = some (exd d (ns.zip vs))) (hl : ns.length = vs.length) (r : TrL ts vs) : Tr (.ins C ns ts) (.ref a)
  | ins0 {a C : Addr} (h : G a = some (exo a C none)) : Tr (.ins C [] []) (.ref a)
  | xcp {a d : Addr} {ns : List Str} {ts : List T} {vs : List V} (hd : G d = some (.xd (ns.zip vs))) (hl : ns.length = vs.length) (r : TrL ts vs) : Tr (.xcp a d ns ts) (.ref a)
inductive TrL : List T → List V → Prop
  | nil : TrL [] []
  | cons {t : T} {v : V} {ts : List T} {vs : List V} (h : Tr t v) (r : TrL ts vs) : TrL (t :: ts) (v :: vs)
end
variable (H : Hp)
mutual
inductive OwR : Md → T → V → List Addr → Prop
  | frz {t : T} {v : V} (h : Tr K G t v) : OwR .frz t v []
  | lst {c : Md} {a : Addr} {ts : List T} {vs : List V} {as : List Addr} (h : H a = some (.lst vs)) (g : G a = none) (r : OwL c ts vs as) : OwR (.own c) (.lst ts) (.ref a) (a :: as)
inductive OwL : Md → List T → List V → List Addr → Prop
  | nil {c : Md} : OwL c [] [] []
  | cons {c : Md} {t : T} {v : V} {ts : List T} {vs : List V} {as bs : List Addr} (h : OwR c t v as) (r : OwL c ts vs bs) : OwL c (t :: ts) (v :: vs) (as ++ bs)
end
end

abbrev Env := List (Option T)

/-- the slots: what is known of each -/
inductive SL (K : PySem.W.Frag) (G H : Hp) : List Md → Env → St → List Addr → Prop
  | nil : SL K G H [] [] [] []
  | no {m : Md} {o : Option V} {ms : List Md} {env : Env} {σ : St} {bs : List Addr} (r : SL K G H ms env σ bs) : SL K G H (m :: ms) (none :: env) (o :: σ) bs
  | ok {m : Md} {t : T} {v : V} {as : List Addr} {ms : List Md} {env : Env} {σ : St} {bs : List Addr} (h : OwR K G H m t v as) (r : SL K G H ms env σ bs) : SL K G H (m :: ms) (some t :: env) (some v :: σ) (as ++ bs)

/-- the state: frozen part G of the heap H, the owned addresses apart -/
structure SR (K : PySem.W.Frag) (ms : List Md) (env : Env) (σ : St) (G H : Hp) (own : List Addr) : Prop where
  sl : SL K G H ms env σ own
  nd : own.Nodup
  sub : ∀ a o, G a = some o → H a = some o

/-- what a piece of code may change -/
structure Step (G H : Hp) (own : List Addr) (G' H' : Hp) (own' : List Addr) : Prop where
  gm : ∀ a o, G a = some o → G' a = some o
  fr : ∀ a o, H a = some o → a ∉ own → H' a = some o
  nw : ∀ a, a ∈ own' → a ∈ own ∨ H a = none
  gn : ∀ a, G' a ≠ none → G a ≠ none ∨ a ∈ own ∨ H a = none
  no : ∀ a, H a ≠ none → H' a ≠ none

theorem Step.refl {G H : Hp} {own own' : List Addr} (h : ∀ a, a ∈ own' → a ∈ own) : Step G H own G H own' :=
  ⟨fun _ _ e => e, fun _ _ e _ => e, fun a ha => .inl (h a ha), fun _ e => .inl e, fun _ e => e⟩
theorem Step.trans {G H G1 H1 G2 H2 : Hp} {o0 o1 o2 : List Addr} (a : Step G H o0 G1 H1 o1) (b : Step G1 H1 o1 G2 H2 o2) : Step G H o0 G2 H2 o2 := by
  refine ⟨fun x o e => b.gm x o (a.gm x o e), fun x o e n => ?_, fun x hx => ?_, fun x hx => ?_, fun x hx => b.no x (a.no x hx)⟩
  · refine b.fr x o (a.fr x o e n) fun hm => ?_
    rcases a.nw x hm with h | h
    · exact n h
    · rw [e] at h; cases h
  · rcases b.nw x hx with h | h
    · exact a.nw x h
    · by_cases hH : H x = none
      · exact .inr hH
      · exact absurd h (a.no x hH)
  · rcases b.gn x hx with h | h | h
    · exact a.gn x h
    · rcases a.nw x h with z | z
      · exact .inr (.inl z)
      · exact .inr (.inr z)
    · by_cases hH : H x = none
      · exact .inr (.inr hH)
      · exact absurd h (a.no x hH)
theorem Step.own {G H G1 H1 : Hp} {o0 o1 o2 : List Addr} (a : Step G H o0 G1 H1 o1) (h : ∀ x ∈ o2, x ∈ o1) : Step G H o0 G1 H1 o2 :=
  ⟨a.gm, a.fr, fun x hx => a.nw x (h x hx), a.gn, a.no⟩
theorem Step.more {G H G1 H1 : Hp} {o0 o0' o1 : List Addr} (a : Step G H o0 G1 H1 o1) (h : ∀ x ∈ o0, x ∈ o0') : Step G H o0' G1 H1 o1 :=
  ⟨a.gm, fun x o e n => a.fr x o e fun z => n (h x z), fun x hx => (a.nw x hx).imp (h x) id, fun x hx => (a.gn x hx).imp id fun z => z.imp (h x) id, a.no⟩

section
variable {K : PySem.W.Frag} {G G' H H' : Hp}
theorem Rd.mono {a : Addr} {u : HO} (g : ∀ a o, G a = some o → G' a = some o) (h : Rd G a u) : Rd G' a u := by
  rcases h with h | ⟨o, h⟩
  · exact .inl (g _ _ h)
  · exact .inr ⟨o, g _ _ h⟩
theorem SqT.mono {a : Addr} {vs : List V} (g : ∀ a o, G a = some o → G' a = some o) (h : SqT K G a vs) : SqT K G' a vs := h.imp (Rd.mono g) id
theorem SqL.mono {a : Addr} {vs : List V} (g : ∀ a o, G a = some o → G' a = some o) (h : SqL K G a vs) : SqL K G' a vs := h.imp (Rd.mono g) id
mutual
theorem Tr.mono (g : ∀ a o, G a = some o → G' a = some o) : ∀ {t : T} {v : V}, Tr K G t v → Tr K G' t v
  | _, _, .non => .non
  | _, _, .bl b => .bl b
  | _, _, .int i => .int i
  | _, _, .str x => .str x
  | _, _, .ref a => .ref a
  | _, _, .ty n => .ty n
  | _, _, .tup h r => .tup (SqT.mono g h) (TrL.mono g r)
  | _, _, .lst h r => .lst (g _ _ h) (TrL.mono g r)
  | _, _, .scr h => .scr (SqL.mono g h)
  | _, _, .ins h hd hl r => .ins (g _ _ h) (g _ _ hd) hl (TrL.mono g r)
  | _, _, .ins0 h => .ins0 (g _ _ h)
  | _, _, .xcp hd hl r => .xcp (g _ _ hd) hl (TrL.mono g r)
theorem TrL.mono (g : ∀ a o, G a = some o → G' a = some o) : ∀ {ts : List T} {vs : List V}, TrL K G ts vs → TrL K G' ts vs
  | _, _, .nil => .nil
  | _, _, .cons h r => .cons (Tr.mono g h) (TrL.mono g r)
end
mutual
theorem OwR.keep (g : ∀ a o, G a = some o → G' a = some o) : ∀ {m : Md} {t : T} {v : V} {as : List Addr}, OwR K G H m t v as → (∀ a ∈ as, H' a = H a ∧ G' a = none) → OwR K G' H' m t v as
  | _, _, _, _, .frz h, _ => .frz (h.mono g)
  | _, _, _, _, .lst h _ r, k => .lst ((k _ List.mem_cons_self).1.trans h) (k _ List.mem_cons_self).2 (OwL.keep g r fun a ha => k a (List.mem_cons_of_mem _ ha))
theorem OwL.keep (g : ∀ a o, G a = some o → G' a = some o) : ∀ {m : Md} {ts : List T} {vs : List V} {as : List Addr}, OwL K G H m ts vs as → (∀ a ∈ as, H' a = H a ∧ G' a = none) → OwL K G' H' m ts vs as
  | _, _, _, _, .nil, _ => .nil
  | _, _, _, _, .cons h r, k => .cons (OwR.keep g h fun a ha => k a (List.mem_append_left _ ha)) (OwL.keep g r fun a ha => k a (List.mem_append_right _ ha))
end
mutual
theorem OwR.at : ∀ {m : Md} {t : T} {v : V} {as : List Addr}, OwR K G H m t v as → ∀ a ∈ as, G a = none ∧ H a ≠ none
  | _, _, _, _, .frz _, a, ha => nomatch ha
  | _, _, _, _, .lst h g r, a, ha => by
    rcases List.mem_cons.mp ha with rfl | ha
    · exact ⟨g, by rw [h]; simp⟩
    · exact OwL.at r a ha
theorem OwL.at : ∀ {m : Md} {ts : List T} {vs : List V} {as : List Addr}, OwL K G H m ts vs as → ∀ a ∈ as, G a = none ∧ H a ≠ none
  | _, _, _, _, .nil, a, ha => nomatch ha
  | _, _, _, _, .cons h r, a, ha => by
    rcases List.mem_append.mp ha with ha | ha
    · exact OwR.at h a ha
    · exact OwL.at r a ha
end
/-- freezing -/
def frzG (G H : Hp) (as : List Addr) : Hp := fun a => if a ∈ as then H a else G a
theorem frzG_sub {as : List Addr} (g : ∀ a ∈ as, G a = none) : ∀ a o, G a = some o → frzG G H as a = some o := fun a o e => by
  unfold frzG
  rw [if_neg fun ha => by rw [g a ha] at e; cases e]
  exact e
mutual
theorem OwR.froze (g : ∀ a o, G a = some o → G' a = some o) : ∀ {m : Md} {t : T} {v : V} {as : List Addr}, OwR K G H m t v as → (∀ a ∈ as, G' a = H a) → Tr K G' t v
  | _, _, _, _, .frz h, _ => h.mono g
  | _, _, _, _, .lst h _ r, k => .lst ((k _ List.mem_cons_self).trans h) (OwL.froze g r fun a ha => k a (List.mem_cons_of_mem _ ha))
theorem OwL.froze (g : ∀ a o, G a = some o → G' a = some o) : ∀ {m : Md} {ts : List T} {vs : List V} {as : List Addr}, OwL K G H m ts vs as → (∀ a ∈ as, G' a = H a) → TrL K G' ts vs
  | _, _, _, _, .nil, _ => .nil
  | _, _, _, _, .cons h r, k => .cons (OwR.froze g h fun a ha => k a (List.mem_append_left _ ha)) (OwL.froze g r fun a ha => k a (List.mem_append_right _ ha))
end
end
end VS
-- VJudge
set_option Elab.async false
set_option linter.all false
set_option maxRecDepth 100000
/-! VJudge: slots read and set, outcomes, the judgements RJ (expressions), RS (statements), bind. -/
namespace VS
open PySem L2

section
variable {K : PySem.W.Frag} {G G' H H' : Hp}
/-- one slot -/
def SlotR (K : PySem.W.Frag) (G H : Hp) (m : Md) (eo : Option T) (so : Option V) (as : List Addr) : Prop :=
  match eo with
  | none => as = []
  | some t => ∃ v, so = some v ∧ OwR K G H m t v as
theorem SlotR.keep {m : Md} {eo : Option T} {so : Option V} {as : List Addr} (g : ∀ a o, G a = some o → G' a = some o) (h : SlotR K G H m eo so as) (k : ∀ a ∈ as, H' a = H a ∧ G' a = none) : SlotR K G' H' m eo so as := by
  cases eo with
  | none => exact h
  | some t => obtain ⟨v, e, r⟩ := h; exact ⟨v, e, r.keep g k⟩
theorem SL.consS {m : Md} {eo : Option T} {so : Option V} {as bs : List Addr} {ms : List Md} {env : Env} {σ : St} (h : SlotR K G H m eo so as) (r : SL K G H ms env σ bs) : SL K G H (m :: ms) (eo :: env) (so :: σ) (as ++ bs) := by
  cases eo with
  | none =>
    have e : as = [] := h
    subst e
    exact .no r
  | some t =>
    obtain ⟨v, e, q⟩ := h
    subst e
    exact .ok q r
theorem SL.keep (g : ∀ a o, G a = some o → G' a = some o) : ∀ {ms : List Md} {env : Env} {σ : St} {own : List Addr}, SL K G H ms env σ own → (∀ a ∈ own, H' a = H a ∧ G' a = none) → SL K G' H' ms env σ own
  | _, _, _, _, .nil, _ => .nil
  | _, _, _, _, .no r, k => .no (SL.keep g r k)
  | _, _, _, _, .ok h r, k => .ok (h.keep g fun a ha => k a (List.mem_append_left _ ha)) (SL.keep g r fun a ha => k a (List.mem_append_right _ ha))
theorem SL.at : ∀ {ms : List Md} {env : Env} {σ : St} {own : List Addr}, SL K G H ms env σ own → ∀ a ∈ own, G a = none ∧ H a ≠ none
  | _, _, _, _, .nil, a, ha => nomatch ha
  | _, _, _, _, .no r, a, ha => SL.at r a ha
  | _, _, _, _, .ok h r, a, ha => by
    rcases List.mem_append.mp ha with ha | ha
    · exact h.at a ha
    · exact SL.at r a ha
theorem SL.lens : ∀ {ms : List Md} {env : Env} {σ : St} {own : List Addr}, SL K G H ms env σ own → ms.length = env.length ∧ σ.length = env.length
  | _, _, _, _, .nil => ⟨rfl, rfl⟩
  | _, _, _, _, .no r => ⟨congrArg (· + 1) r.lens.1, congrArg (· + 1) r.lens.2⟩
  | _, _, _, _, .ok h r => ⟨congrArg (· + 1) r.lens.1, congrArg (· + 1) r.lens.2⟩
/-- a slot apart from the others: read, and set anew -/
theorem SL.split : ∀ {ms : List Md} {env : Env} {σ : St} {own : List Addr} {i : Nat} {m : Md} {eo : Option T}, SL K G H ms env σ own → ms[i]? = some m → env[i]? = some eo →
    ∃ so as bs, σ[i]? = some so ∧ SlotR K G H m eo so as ∧ own.Perm (as ++ bs) ∧
      ∀ (G' H' : Hp) (m' : Md) (eo' : Option T) (so' : Option V) (as' : List Addr), (∀ a o, G a = some o → G' a = some o) → (∀ a ∈ bs, H' a = H a ∧ G' a = none) → SlotR K G' H' m' eo' so' as' →
        ∃ own', SL K G' H' (ms.set i m') (env.set i eo') (σ.set i so') own' ∧ own'.Perm (as' ++ bs)
  | _, _, _, _, _, _, _, .nil, h, _ => by simp at h
  | m :: ms, none :: env, o :: σ, own, 0, m0, eo, .no r, h1, h2 => by
    simp at h1 h2; subst h1; subst h2
    exact ⟨o, [], own, rfl, rfl, .refl _, fun G' H' m' eo' so' as' g k s => ⟨as' ++ own, SL.consS s (r.keep g k), .refl _⟩⟩
  | m :: ms, none :: env, o :: σ, own, i + 1, m0, eo, .no r, h1, h2 => by
    obtain ⟨so, as, bs, e, s, p, k⟩ := SL.split (i := i) r (by simpa using h1) (by simpa using h2)
    refine ⟨so, as, bs, by simpa using e, s, p, fun G' H' m' eo' so' as' g kk s' => ?_⟩
    obtain ⟨own', r', p'⟩ := k G' H' m' eo' so' as' g kk s'
    exact ⟨own', .no r', p'⟩
  | m :: ms, some t :: env, some v :: σ, _, 0, m0, eo, .ok (as := as) (bs := bs) h r, h1, h2 => by
    simp at h1 h2; subst h1; subst h2
    exact ⟨some v, as, bs, rfl, ⟨v, rfl, h⟩, .refl _, fun G' H' m' eo' so' as' g k s => ⟨as' ++ bs, SL.consS s (r.keep g k), .refl _⟩⟩
  | m :: ms, some t :: env, some v :: σ, _, i + 1, m0, eo, .ok (as := as0) (bs := bs0) h r, h1, h2 => by
    obtain ⟨so, as, bs, e, s, p, k⟩ := SL.split (i := i) r (by simpa using h1) (by simpa using h2)
    refine ⟨so, as, as0 ++ bs, by simpa using e, s, ?_, fun G' H' m' eo' so' as' g kk s' => ?_⟩
    · refine (List.Perm.append_left as0 p).trans ?_
      rw [← List.append_assoc, ← List.append_assoc]
      exact (List.perm_append_comm).append_right bs
    · obtain ⟨own', r', p'⟩ := k G' H' m' eo' so' as' g (fun a ha => kk a (List.mem_append_right _ ha)) s'
      refine ⟨as0 ++ own', .ok (h.keep g fun a ha => kk a (List.mem_append_left _ ha)) r', ?_⟩
      refine (List.Perm.append_left as0 p').trans ?_
      rw [← List.append_assoc, ← List.append_assoc]
      exact (List.perm_append_comm).append_right bs

theorem SR.keep {ms : List Md} {env : Env} {σ : St} {own as : List Addr} (s : SR K ms env σ G H own) (st : Step G H [] G' H' as) (sub : ∀ a o, G' a = some o → H' a = some o) : SR K ms env σ G' H' own := by
  refine ⟨s.sl.keep st.gm fun a ha => ?_, s.nd, sub⟩
  obtain ⟨g, h⟩ := s.sl.at a ha
  refine ⟨?_, ?_⟩
  · cases e : H a with
    | none => exact absurd e h
    | some o => exact st.fr a o e (by simp)
  · cases e : G' a with
    | none => rfl
    | some o =>
      rcases st.gn a (by rw [e]; simp) with z | z | z
      · exact absurd g z
      · simp at z
      · exact absurd z h
end

/-! ### outcomes -/
/-- an exception of an own class, its fields -/
structure Exc where
  C : Addr
  ns : List Str
  vs : List T
inductive Out (α : Type) where
  | ok (a : α) (env : Env) | exc (x : Exc) (env : Env) | stk
def Out.bind {α β : Type} (o : Out α) (g : α → Env → Out β) : Out β := match o with
  | .ok a env => g a env
  | .exc x env => .exc x env
  | .stk => .stk
inductive SOut where
  | nxt (env : Env) | ret (v : T) (env : Env) | brk (env : Env) | cnt (env : Env) | exc (x : Exc) (env : Env) | stk
def Out.bindS {α : Type} (o : Out α) (g : α → Env → SOut) : SOut := match o with
  | .ok a env => g a env
  | .exc x env => .exc x env
  | .stk => .stk
def SOut.seq (o : SOut) (g : Env → SOut) : SOut := match o with
  | .nxt env => g env
  | o => o

/-- the exception in flight -/
def ExR (K : PySem.W.Frag) (G H : Hp) (x : Exc) (cls : Value) (d : Option Addr) : Prop :=
  cls = .ref x.C ∧ ((x.ns = [] ∧ x.vs = [] ∧ d = none) ∨ (x.ns ≠ [] ∧ ∃ dx vs, d = some dx ∧ G dx = some (.xd (x.ns.zip vs)) ∧ x.ns.length = vs.length ∧ TrL K G x.vs vs))

/-- the owned parameters: their slots, their modes -/
def FxOk (fx : List (Nat × Md)) (ms : List Md) : Prop := ∀ p ∈ fx, ms[p.1]? = some p.2

/-- an expression (t) does what f says -/
def RJ {α β : Type} (K : PySem.W.Frag) (W : WX) (fx : List (Nat × Md)) (P : Hp → Prop) (ms ms' : List Md) (Rel : Hp → Hp → α → β → List Addr → Prop) (t : St → Hp → (β → Hp → Prop) → Prop) (f : Env → Out α) : Prop :=
  ∀ (env : Env) (σ : St) (G H : Hp) (own : List Addr), P G → SR K ms env σ G H own → f env ≠ .stk → ∀ Q : β → Hp → Prop,
    (∀ a env', f env = .ok a env' → ∀ b G' H' own' as, SR K ms' env' σ G' H' own' → Rel G' H' a b as → (as ++ own').Nodup → Step G H own G' H' (as ++ own') → Q b H') →
    (∀ x env', f env = .exc x env' → ∀ msR cls d G' H' own', FxOk fx msR → SR K msR env' σ G' H' own' → ExR K G' H' x cls d → Step G H own G' H' own' → W cls d σ H') →
    t σ H Q

/-- relations that are of the frozen part alone -/
def Fz {α β : Type} (R : Hp → α → β → Prop) : Hp → Hp → α → β → List Addr → Prop := fun G _ a b as => R G a b ∧ as = []
def RMono {α β : Type} (R : Hp → α → β → Prop) : Prop := ∀ G G' a b, (∀ x o, G x = some o → G' x = some o) → R G a b → R G' a b
def PMono (P : Hp → Prop) : Prop := ∀ G G', (∀ x o, G x = some o → G' x = some o) → P G → P G'
theorem PMono.true : PMono fun _ => True := fun _ _ _ _ => trivial
theorem PMono.and {α β : Type} {P : Hp → Prop} {R : Hp → α → β → Prop} {a : α} {b : β} (p : PMono P) (r : RMono R) : PMono fun G => P G ∧ R G a b := fun G G' g h => ⟨p G G' g h.1, r G G' a b g h.2⟩
theorem RMono.tr {K : PySem.W.Frag} : RMono (Tr K) := fun _ _ _ _ g h => h.mono g
theorem RMono.trL {K : PySem.W.Frag} : RMono (TrL K) := fun _ _ _ _ g h => h.mono g

section
variable {K : PySem.W.Frag} {W : WX} {fx : List (Nat × Md)} {P : Hp → Prop} {ms ms1 ms2 : List Md}
theorem RJ.bind {α β γ δ : Type} {R : Hp → α → β → Prop} {Rel2 : Hp → Hp → γ → δ → List Addr → Prop} {t : St → Hp → (β → Hp → Prop) → Prop} {u : β → St → Hp → (δ → Hp → Prop) → Prop} {f : Env → Out α} {g : α → Env → Out γ}
    (hP : PMono P) (a : RJ K W fx P ms ms1 (Fz R) t f) (b : ∀ x y, RJ K W fx (fun G => P G ∧ R G x y) ms1 ms2 Rel2 (u y) (g x)) :
    RJ K W fx P ms ms2 Rel2 (fun σ H Q => t σ H fun y H1 => u y σ H1 Q) (fun env => (f env).bind g) := by
  intro env σ G H own p s ns Q hok hex
  refine a env σ G H own p s (fun e => ns (by show (f env).bind g = _; rw [e]; rfl)) _ (fun x env1 e1 y G1 H1 own1 as s1 r1 nd1 st1 => ?_) fun x env1 e1 => hex x env1 (by show (f env).bind g = _; rw [e1]; rfl)
  obtain ⟨r1, rfl⟩ := r1
  have eb : (f env).bind g = g x env1 := by rw [e1]; rfl
  refine b x y env1 σ G1 H1 own1 ⟨hP _ _ st1.gm p, r1⟩ s1 (fun e => ns (by show (f env).bind g = _; rw [eb]; exact e)) Q (fun z env2 e2 w G2 H2 own2 as2 s2 r2 nd2 st2 => ?_) fun z env2 e2 msR cls d G2 H2 own2 fo s2 er st2 => ?_
  · exact hok z env2 (eb.trans e2) w G2 H2 own2 as2 s2 r2 nd2 (st1.trans st2)
  · exact hex z env2 (eb.trans e2) msR cls d G2 H2 own2 fo s2 er (st1.trans st2)
theorem RJ.imp {α β : Type} {P P' : Hp → Prop} {Rel : Hp → Hp → α → β → List Addr → Prop} {t : St → Hp → (β → Hp → Prop) → Prop} {f : Env → Out α} (h : RJ K W fx P ms ms1 Rel t f) (hp : ∀ G, P' G → P G) : RJ K W fx P' ms ms1 Rel t f :=
  fun env σ G H own p => h env σ G H own (hp G p)
/-- the same function, said otherwise -/
theorem RJ.congr {α β : Type} {Rel : Hp → Hp → α → β → List Addr → Prop} {t : St → Hp → (β → Hp → Prop) → Prop} {f g : Env → Out α} (h : RJ K W fx P ms ms1 Rel t f) (e : ∀ env, f env = g env) : RJ K W fx P ms ms1 Rel t g := by
  have e' : f = g := funext e
  exact e' ▸ h

/-- an operation on frozen values -/
def VOp (K : PySem.W.Frag) (Rel : Hp → Hp → T → V → List Addr → Prop) (In : Hp → Prop) (r : Hp → (V → Hp → Prop) → Prop) (res : Option T) : Prop :=
  ∀ (G H : Hp) (c : T), (∀ a o, G a = some o → H a = some o) → In G → res = some c → ∀ Q : V → Hp → Prop,
    (∀ v G' H' as, Step G H [] G' H' as → (∀ a o, G' a = some o → H' a = some o) → Rel G' H' c v as → as.Nodup → Q v H') → r H Q
def optO (o : Option T) : Env → Out T := fun env => match o with
  | some c => .ok c env
  | none => .stk
end
end VS
-- VExpr
set_option Elab.async false
set_option linter.all false
set_option maxRecDepth 100000
/-! VExpr: expressions. EJ: e does what f says, its value held as r. -/
namespace VS
open PySem L2

abbrev FE := Env → Out T
abbrev FA := Env → Out (List T)
abbrev FT := Env → Out Bool

def EJ (X : Cx) (W : WX) (fx : List (Nat × Md)) (ms : List Md) (e : Expr) (r : Md) (ms' : List Md) (f : FE) : Prop :=
  ∃ t : TE, PE X e t ∧ RJ X.K W fx (fun _ => True) ms ms' (fun G H a b as => OwR X.K G H r a b as) t f
def EF (X : Cx) (W : WX) (fx : List (Nat × Md)) (ms : List Md) (e : Expr) (ms' : List Md) (f : FE) : Prop :=
  ∃ t : TE, PE X e t ∧ RJ X.K W fx (fun _ => True) ms ms' (Fz (Tr X.K)) t f
def AJ (X : Cx) (W : WX) (fx : List (Nat × Md)) (ms : List Md) (es : List Expr) (ms' : List Md) (f : FA) : Prop :=
  ∃ t : TA, PA X es t ∧ RJ X.K W fx (fun _ => True) ms ms' (Fz (TrL X.K)) t f
def TJ (X : Cx) (W : WX) (fx : List (Nat × Md)) (ms : List Md) (e : Expr) (ms' : List Md) (f : FT) : Prop :=
  ∃ t : TT, PT X e t ∧ RJ X.K W fx (fun _ => True) ms ms' (Fz fun _ (a b : Bool) => a = b) t f
def TW (X : Cx) (W : WX) (fx : List (Nat × Md)) (ms : List Md) (e : Expr) (ms' : List Md) (f : FT) : Prop :=
  ∃ t : TT, PW X e t ∧ RJ X.K W fx (fun _ => True) ms ms' (Fz fun _ (a b : Bool) => a = b) t f
theorem RMono.eq {α : Type} : RMono fun (_ : Hp) (a b : α) => a = b := fun _ _ _ _ _ h => h

section
variable {K : PySem.W.Frag} {W : WX} {fx : List (Nat × Md)} {P : Hp → Prop} {ms ms1 ms2 : List Md} {G H G' H' : Hp}
theorem RJ.rel {α β : Type} {Rel Rel' : Hp → Hp → α → β → List Addr → Prop} {t : St → Hp → (β → Hp → Prop) → Prop} {f : Env → Out α} (h : RJ K W fx P ms ms1 Rel t f) (hr : ∀ G H a b as, Rel G H a b as → Rel' G H a b as) : RJ K W fx P ms ms1 Rel' t f :=
  fun env σ G H own p s ns Q hok hex => h env σ G H own p s ns Q (fun a env' e b G' H' own' as s' r => hok a env' e b G' H' own' as s' (hr _ _ _ _ _ r)) hex
theorem OwR.frz_iff {t : T} {v : V} {as : List Addr} : OwR K G H .frz t v as ↔ Tr K G t v ∧ as = [] := ⟨fun h => by cases h with | frz h => exact ⟨h, rfl⟩, fun ⟨h, e⟩ => e ▸ .frz h⟩
theorem Step.lift {own as : List Addr} (h : Step G H [] G' H' as) : Step G H own G' H' (as ++ own) :=
  ⟨h.gm, fun a o e _ => h.fr a o e (by simp), fun a ha => by
    rcases List.mem_append.mp ha with z | z
    · rcases h.nw a z with y | y
      · simp at y
      · exact .inr y
    · exact .inl z, fun a ha => (h.gn a ha).imp id fun z => z.imp (fun y => by simp at y) id, h.no⟩
theorem nodup_fresh {own as : List Addr} {env : Env} {σ : St} (s : SR K ms env σ G H own) (h : Step G H [] G' H' as) (nd : as.Nodup) : (as ++ own).Nodup := by
  rw [List.nodup_append]
  refine ⟨nd, s.nd, fun a ha b hb e => ?_⟩
  subst e
  rcases h.nw a ha with y | y
  · simp at y
  · exact (s.sl.at a hb).2 y
theorem RJ.op {Rel : Hp → Hp → T → V → List Addr → Prop} {r : Hp → (V → Hp → Prop) → Prop} {res : Option T} (h : VOp K Rel P r res) : RJ K W fx P ms ms Rel (fun _ H Q => r H Q) (optO res) := by
  intro env σ G H own p s ns Q hok hex
  cases e : res with
  | none => exact absurd (by show optO res env = _; rw [e]; rfl) ns
  | some c =>
    refine h G H c s.sub p e Q fun v G' H' as st sub rel nd => ?_
    exact hok c env (by show optO res env = _; rw [e]; rfl) v G' H' own as (s.keep st sub) rel (nodup_fresh s st nd) st.lift
theorem RJ.pure {α β : Type} {R : Hp → α → β → Prop} {a : α} {b : β} (h : ∀ G, P G → R G a b) : RJ K W fx P ms ms (Fz R) (fun _ H Q => Q b H) (fun env => .ok a env) := by
  intro env σ G H own p s ns Q hok hex
  exact hok a env rfl b G H own [] s ⟨h G p, rfl⟩ s.nd (.refl fun _ h => h)

/-! ### new objects -/
theorem upd_none {p : Addr} {o : HO} (sub : ∀ a o, G a = some o → H a = some o) (hp : H p = none) : G p = none := by
  cases e : G p with
  | none => rfl
  | some u => rw [sub _ _ e] at hp; cases hp
theorem Step.new {p : Addr} {o : HO} (sub : ∀ a o, G a = some o → H a = some o) (hp : H p = none) : Step G H [] (upd G p o) (upd H p o) [] := by
  have gp : G p = none := upd_none (o := o) sub hp
  refine ⟨fun a u e => ?_, fun a u e _ => ?_, fun a ha => by simp at ha, fun a ha => ?_, fun a ha => ?_⟩
  · rw [upd_ne (fun z => by rw [z, gp] at e; cases e)]; exact e
  · rw [upd_ne (fun z => by rw [z, hp] at e; cases e)]; exact e
  · by_cases z : a = p
    · exact .inr (.inr (z ▸ hp))
    · rw [upd_ne z] at ha; exact .inl ha
  · by_cases z : a = p
    · subst z; rw [upd_same]; simp
    · rw [upd_ne z]; exact ha
theorem sub_new {p : Addr} {o : HO} (sub : ∀ a o, G a = some o → H a = some o) : ∀ a u, upd G p o a = some u → upd H p o a = some u := fun a u e => by
  by_cases z : a = p
  · subst z; rw [upd_same] at e ⊢; exact e
  · rw [upd_ne z] at e ⊢; exact sub _ _ e
theorem Step.newO {p : Addr} {o : HO} (hp : H p = none) : Step G H [] G (upd H p o) [p] := by
  refine ⟨fun _ _ e => e, fun a u e _ => ?_, fun a ha => ?_, fun a ha => .inl ha, fun a ha => ?_⟩
  · rw [upd_ne (fun z => by rw [z, hp] at e; cases e)]; exact e
  · have z : a = p := by simpa using ha
    exact .inr (z ▸ hp)
  · by_cases z : a = p
    · subst z; rw [upd_same]; simp
    · rw [upd_ne z]; exact ha
theorem sub_newO {p : Addr} {o : HO} (sub : ∀ a o, G a = some o → H a = some o) (hp : H p = none) : ∀ a u, G a = some u → upd H p o a = some u := fun a u e => by
  rw [upd_ne (fun z => by rw [z] at e; rw [sub _ _ e] at hp; cases hp)]; exact sub _ _ e
theorem Tr.newT {p : Addr} {ts : List T} {vs : List V} (sub : ∀ a o, G a = some o → H a = some o) (hp : H p = none) (r : TrL K G ts vs) : Tr K (upd G p (.tup vs)) (.tup ts) (.ref p) :=
  .tup (.inl (.inl upd_same)) (r.mono (Step.new (o := .tup vs) sub hp).gm)
theorem Tr.newL {p : Addr} {ts : List T} {vs : List V} (sub : ∀ a o, G a = some o → H a = some o) (hp : H p = none) (r : TrL K G ts vs) : Tr K (upd G p (.lst vs)) (.lst ts) (.ref p) :=
  .lst upd_same (r.mono (Step.new (o := .lst vs) sub hp).gm)
theorem OwL.of_trL : ∀ {ts : List T} {vs : List V}, TrL K G ts vs → OwL K G H .frz ts vs []
  | _, _, .nil => .nil
  | _, _, .cons h r => .cons (as := []) (bs := []) (.frz h) (OwL.of_trL r)
theorem OwR.newL {p : Addr} {ts : List T} {vs : List V} (sub : ∀ a o, G a = some o → H a = some o) (hp : H p = none) (r : TrL K G ts vs) : OwR K G (upd H p (.lst vs)) (.own .frz) (.lst ts) (.ref p) [p] :=
  .lst upd_same (upd_none (o := .lst vs) sub hp) (.of_trL r)
theorem TrL.length : ∀ {ts : List T} {vs : List V}, TrL K G ts vs → ts.length = vs.length
  | _, _, .nil => rfl
  | _, _, .cons _ r => congrArg (· + 1) r.length
theorem SqT.sub {a : Addr} {vs : List V} (sub : ∀ a o, G a = some o → H a = some o) (h : SqT K G a vs) : SqT K H a vs := SqT.mono sub h
theorem SqL.sub {a : Addr} {vs : List V} (sub : ∀ a o, G a = some o → H a = some o) (h : SqL K G a vs) : SqL K H a vs := SqL.mono sub h
end

/-! ### the functions -/
def rd (i : Nat) : FE := fun env => match env[i]? with
  | some (some t) => .ok t env
  | _ => .stk
/-- moved out -/
def mv (i : Nat) : FE := fun env => match env[i]? with
  | some (some t) => .ok t (env.set i none)
  | _ => .stk
def cst (t : T) : FE := fun env => .ok t env
def op1 (s : T → Option T) (a : FE) : FE := fun env => (a env).bind fun x => optO (s x)
def op2 (s : T → T → Option T) (a b : FE) : FE := fun env => (a env).bind fun x env => (b env).bind fun y => optO (s x y)
def tupF (xs : List T) : Option T := if xs.length ≤ 1000 then some (.tup xs) else none
def lstF (xs : List T) : Option T := if xs.length ≤ 1000 then some (.lst xs) else none
def opL (s : List T → Option T) (a : FA) : FE := fun env => (a env).bind fun xs => optO (s xs)
def aNil : FA := fun env => .ok [] env
def aCons (a : FE) (as : FA) : FA := fun env => (a env).bind fun x env => (as env).bind fun xs env => .ok (x :: xs) env
def isBl : T → Option Bool
  | .bl b => some b
  | _ => none
def optB (o : Option Bool) : Env → Out Bool := fun env => match o with
  | some b => .ok b env
  | none => .stk
def tst (s : T → Option Bool) (a : FE) : FT := fun env => (a env).bind fun x => optB (s x)
def andT (a b : FT) : FT := fun env => (a env).bind fun x env => if x = true then b env else .ok false env
def orT (a b : FT) : FT := fun env => (a env).bind fun x env => if x = true then .ok true env else b env
def notT (a : FT) : FT := fun env => (a env).bind fun x env => .ok (!x) env
def ife (c : FT) (a b : FE) : FE := fun env => (c env).bind fun x env => if x = true then a env else b env
def blT (a : FT) : FE := fun env => (a env).bind fun x env => .ok (.bl x) env

section
variable {X : Cx} {W : WX} {fx : List (Nat × Md)} {ms ms1 ms2 ms3 : List Md} {e a b c : Expr} {es : List Expr} {pos : Pos}
theorem EJ.ef {f : FE} (h : EJ X W fx ms e .frz ms1 f) : EF X W fx ms e ms1 f := let ⟨t, p, r⟩ := h; ⟨t, p, r.rel fun _ _ _ _ _ q => OwR.frz_iff.mp q⟩
theorem EF.ej {f : FE} (h : EF X W fx ms e ms1 f) : EJ X W fx ms e .frz ms1 f := let ⟨t, p, r⟩ := h; ⟨t, p, r.rel fun _ _ _ _ _ q => OwR.frz_iff.mpr q⟩
/-- a new owned thing frozen -/
theorem EJ.freeze {f : FE} {r : Md} (h : EJ X W fx ms e r ms1 f) : EF X W fx ms e ms1 f := by
  obtain ⟨t, p, rj⟩ := h
  refine ⟨t, p, fun env σ G H own pg s ns Q hok hex => rj env σ G H own pg s ns Q (fun val env' ev v G' H' own' as s' rel nd st => ?_) hex⟩
  have g0 : ∀ x ∈ as, G' x = none := fun x hx => (OwR.at rel x hx).1
  have gs : ∀ x o, G' x = some o → frzG G' H' as x = some o := frzG_sub g0
  have dis : ∀ x ∈ own', x ∉ as := fun x hx hy => (List.nodup_append.mp nd).2.2 x hy x hx rfl
  have ga : ∀ x ∈ as, frzG G' H' as x = H' x := fun x hx => by unfold frzG; rw [if_pos hx]
  have gb : ∀ x, x ∉ as → frzG G' H' as x = G' x := fun x hx => by unfold frzG; rw [if_neg hx]
  refine hok val env' ev v (frzG G' H' as) H' own' [] ⟨s'.sl.keep gs fun x hx => ⟨rfl, ?_⟩, s'.nd, fun x o q => ?_⟩ ⟨rel.froze gs ga, rfl⟩ (by simpa using s'.nd) ⟨fun x o q => gs _ _ (st.gm _ _ q), st.fr, fun x hx => st.nw x (List.mem_append_right _ (by simpa using hx)), fun x hx => ?_, st.no⟩
  · rw [gb x (dis x hx)]; exact (s'.sl.at x hx).1
  · by_cases hx : x ∈ as
    · rw [ga x hx] at q; exact q
    · rw [gb x hx] at q; exact s'.sub _ _ q
  · by_cases ha : x ∈ as
    · exact .inr (st.nw x (List.mem_append_left _ ha))
    · rw [gb x ha] at hx; exact st.gn x hx

theorem EF.cst {t : T} {v : V} (p : PE X e (tC v)) (r : ∀ G, Tr X.K G t v) : EF X W fx ms e ms (VS.cst t) := ⟨_, p, RJ.pure fun G _ => r G⟩
theorem EF.int {i : Int} {j} : EF X W fx ms (.Constant (.int i) j pos) ms (VS.cst (.int i)) := .cst pe_int fun _ => .int i
theorem EF.bl {i : Bool} {j} : EF X W fx ms (.Constant (.bool i) j pos) ms (VS.cst (.bl i)) := .cst pe_bl fun _ => .bl i
theorem EF.non {j} : EF X W fx ms (.Constant .none j pos) ms (VS.cst .non) := .cst pe_non fun _ => .non
theorem EF.str {i : Str} {j} : EF X W fx ms (.Constant (.str i) j pos) ms (VS.cst (.str i)) := .cst pe_str fun _ => .str i
theorem EF.glob {x : Str} {t : T} {v : V} {u : Value} (hg : Gl X x) (hm : X.mg x = some u) (rv : RelV v u) (r : ∀ G, Tr X.K G t v) (hd : (x == ("__debug__" : Str)) = false := by decide) : EF X W fx ms (.Name x pos) ms (VS.cst t) := .cst (pe_glob hg hm rv hd) r
/-- a frozen slot -/
theorem EF.var {i : Nat} {x : Str} (hm : ms[i]? = some .frz := by rfl) (hN : X.N[i]? = some x := by rfl) (hv : Vis X.env.scope x := by first | exact Or.inl rfl | exact Or.inr (Or.inl rfl) | exact Or.inr (Or.inr rfl)) (hd : (x == ("__debug__" : Str)) = false := by decide)
    (hcd : (x == ("__classdict__" : Str)) = false := by decide) : EF X W fx ms (.Name x pos) ms (rd i) := by
  refine ⟨_, pe_var hN hv hd hcd, fun env σ G H own _ s ns Q hok hex => ?_⟩
  cases ee : env[i]? with
  | none => exact absurd (by show rd i env = _; unfold rd; rw [ee]) ns
  | some eo =>
    cases eo with
    | none => exact absurd (by show rd i env = _; unfold rd; rw [ee]) ns
    | some t =>
      obtain ⟨so, as, bs, e1, ⟨v, rfl, r⟩, _⟩ := s.sl.split hm ee
      obtain ⟨r, _⟩ := OwR.frz_iff.mp r
      exact ⟨v, e1, hok t env (by show rd i env = _; unfold rd; rw [ee]) v G H own [] s ⟨r, rfl⟩ s.nd (.refl fun _ h => h)⟩
/-- an owned slot moved out -/
theorem EJ.mv {i : Nat} {x : Str} {m : Md} (hm : ms[i]? = some m := by rfl) (hN : X.N[i]? = some x := by rfl) (hv : Vis X.env.scope x := by first | exact Or.inl rfl | exact Or.inr (Or.inl rfl) | exact Or.inr (Or.inr rfl)) (hd : (x == ("__debug__" : Str)) = false := by decide)
    (hcd : (x == ("__classdict__" : Str)) = false := by decide) : EJ X W fx ms (.Name x pos) m ms (mv i) := by
  refine ⟨_, pe_var hN hv hd hcd, fun env σ G H own _ s ns Q hok hex => ?_⟩
  cases ee : env[i]? with
  | none => exact absurd (by show VS.mv i env = _; unfold VS.mv; rw [ee]) ns
  | some eo =>
    cases eo with
    | none => exact absurd (by show VS.mv i env = _; unfold VS.mv; rw [ee]) ns
    | some t =>
      obtain ⟨so, as, bs, e1, ⟨v, rfl, r⟩, pm, k⟩ := s.sl.split hm ee
      obtain ⟨own', sl', pm'⟩ := k G H m none (some v) [] (fun _ _ h => h) (fun a ha => ⟨rfl, (s.sl.at a (pm.symm.subset (List.mem_append_right _ ha))).1⟩) rfl
      have hms : ms.set i m = ms := List.ext_getElem? fun j => by
        by_cases hj : i = j
        · subst hj; rw [List.getElem?_set_self (List.getElem?_eq_some_iff.mp hm).1, hm]
        · rw [List.getElem?_set_ne hj]
      have hσ : σ.set i (some v) = σ := List.ext_getElem? fun j => by
        by_cases hj : i = j
        · subst hj; rw [List.getElem?_set_self (List.getElem?_eq_some_iff.mp e1).1, e1]
        · rw [List.getElem?_set_ne hj]
      rw [hms, hσ] at sl'
      have nd' : (as ++ own').Nodup := ((List.Perm.append_left as pm').trans (by simpa using pm.symm)).nodup_iff.mpr s.nd
      refine ⟨v, e1, hok t _ (by show VS.mv i env = _; unfold VS.mv; rw [ee]) v G H own' as ⟨sl', (List.nodup_append.mp nd').2.1, s.sub⟩ r nd' (.refl fun x hx => pm.symm.subset ?_)⟩
      rcases List.mem_append.mp hx with z | z
      · exact List.mem_append_left _ z
      · exact List.mem_append_right _ (by simpa using pm'.subset z)

/-! ### arguments, displays -/
theorem AJ.nil : AJ X W fx ms [] ms aNil := ⟨_, pa_nil, RJ.pure (b := []) fun G _ => .nil⟩
theorem AJ.cons {f : FE} {g : FA} (ha : EF X W fx ms e ms1 f) (hr : AJ X W fx ms1 es ms2 g) (hs : starEach (e :: es) X.env = (false, eval e X.env) :: starEach es X.env := by rfl) : AJ X W fx ms (e :: es) ms2 (aCons f g) := by
  obtain ⟨t, p, r⟩ := ha
  obtain ⟨t2, p2, r2⟩ := hr
  refine ⟨_, pa_cons p p2 hs, RJ.bind (t := t) PMono.true r fun (x : T) (y : V) => RJ.bind (t := t2) (PMono.true.and RMono.tr) (r2.imp fun _ _ => trivial) fun (xs : List T) (ys : List V) => RJ.pure (a := x :: xs) (b := y :: ys) fun G h => TrL.cons h.1.2 h.2⟩
theorem EF.tup {x1} {f : FA} (h : AJ X W fx ms es ms1 f) : EF X W fx ms (.Tuple es x1 pos) ms1 (opL tupF f) := by
  obtain ⟨t, p, r⟩ := h
  refine ⟨_, pe_tup p, RJ.bind (t := t) PMono.true r fun xs vs => RJ.op fun G H c sub hp he Q hq => ?_⟩
  unfold tupF at he
  split at he <;> cases he
  rename_i hz
  refine ⟨hp.2.length ▸ Nat.le_of_lt (small1000 hz), fun p hp' => hq _ _ _ [] (Step.new sub hp') (sub_new sub) ⟨.newT sub hp' hp.2, rfl⟩ .nil⟩
theorem EJ.lst {f : FA} (h : AJ X W fx ms es ms1 f) : EJ X W fx ms (.List es pos) (.own .frz) ms1 (opL lstF f) := by
  obtain ⟨t, p, r⟩ := h
  refine ⟨_, pe_lst p, RJ.bind (t := t) PMono.true r fun xs vs => RJ.op fun G H c sub hp he Q hq => ?_⟩
  unfold lstF at he
  split at he <;> cases he
  rename_i hz
  refine ⟨hp.2.length ▸ Nat.le_of_lt (small1000 hz), fun p hp' => hq _ _ _ [p] (Step.newO hp') (sub_newO sub hp') (.newL sub hp' hp.2) (by simp)⟩

/-! ### operators: by a rule of values -/
theorem EJ.opB {md : Md} {op : Operator} {r : R2} {s : T → T → Option T} {f g : FE} (ho : OpR X (binaryOp op) r) (hs : ∀ x y u v, VOp X.K (fun G H a b as => OwR X.K G H md a b as) (fun G => (True ∧ Tr X.K G x u) ∧ Tr X.K G y v) (r u v) (s x y))
    (ha : EF X W fx ms a ms1 f) (hb : EF X W fx ms1 b ms2 g) : EJ X W fx ms (.BinOp a op b pos) md ms2 (VS.op2 s f g) := by
  obtain ⟨t, p, ra⟩ := ha
  obtain ⟨t2, p2, rb⟩ := hb
  exact ⟨_, pe_op ho p p2, RJ.bind (t := t) PMono.true ra fun x u => RJ.bind (t := t2) (PMono.true.and RMono.tr) (rb.imp fun _ _ => trivial) fun y v => RJ.op (hs x y u v)⟩
theorem EJ.cmp {md : Md} {op : CmpOp} {r : R2} {s : T → T → Option T} {f g : FE} (ho : OpR X (compareOp op) r) (hs : ∀ x y u v, VOp X.K (fun G H a b as => OwR X.K G H md a b as) (fun G => (True ∧ Tr X.K G x u) ∧ Tr X.K G y v) (r u v) (s x y))
    (ha : EF X W fx ms a ms1 f) (hb : EF X W fx ms1 b ms2 g) (hm : behindInMarks op b = false := by first | exact nomark _ | with_unfolding_all rfl) : EJ X W fx ms (.Compare a [op] [b] pos) md ms2 (VS.op2 s f g) := by
  obtain ⟨t, p, ra⟩ := ha
  obtain ⟨t2, p2, rb⟩ := hb
  exact ⟨_, pe_cmpR ho p p2 hm, RJ.bind (t := t) PMono.true ra fun x u => RJ.bind (t := t2) (PMono.true.and RMono.tr) (rb.imp fun _ _ => trivial) fun y v => RJ.op (hs x y u v)⟩
/-- a value as a test: it is a bool -/
theorem RJ.tstB {K : PySem.W.Frag} {P : Hp → Prop} {f : FE} {t : TE} (hP : PMono P) (h : RJ K W fx P ms ms1 (Fz (Tr K)) t f) : RJ K W fx P ms ms1 (Fz fun _ (a b : Bool) => a = b) (fun σ H Q => t σ H fun x H' => ∃ k, x = .bl k ∧ Q k H') (tst isBl f) := by
  refine RJ.bind (t := t) hP h fun x u => ?_
  intro env σ G H own p s ns Q hok hex
  cases e : isBl x with
  | none => exact absurd (by show optB (isBl x) env = _; rw [e]; rfl) ns
  | some k =>
    have ex : x = .bl k := by cases x <;> simp [isBl] at e; rw [e]
    subst ex
    cases p.2
    exact ⟨k, rfl, hok k env rfl k G H own [] s ⟨rfl, rfl⟩ s.nd (.refl fun _ h => h)⟩
theorem TJ.cmp {op : CmpOp} {r : R2} {s : T → T → Option T} {f g : FE} (ho : OpR X (compareOp op) r) (hs : ∀ x y u v, VOp X.K (fun G H a b as => OwR X.K G H .frz a b as) (fun G => (True ∧ Tr X.K G x u) ∧ Tr X.K G y v) (r u v) (s x y))
    (ha : EF X W fx ms a ms1 f) (hb : EF X W fx ms1 b ms2 g) (hm : behindInMarks op b = false := by first | exact nomark _ | with_unfolding_all rfl) : TJ X W fx ms (.Compare a [op] [b] pos) ms2 (tst isBl (op2 s f g)) := by
  obtain ⟨t, p, ra⟩ := ha
  obtain ⟨t2, p2, rb⟩ := hb
  exact ⟨_, pt_cmpR ho p p2 hm, RJ.tstB PMono.true ((RJ.bind (t := t) PMono.true ra fun x u => RJ.bind (t := t2) (PMono.true.and RMono.tr) (rb.imp fun _ _ => trivial) fun y v => RJ.op (hs x y u v)).rel fun _ _ _ _ _ q => OwR.frz_iff.mp q)⟩
/-- any expression that gives a bool, as a test -/
theorem TJ.val {f : FE} (h : EF X W fx ms e ms1 f) (he : ∀ whole, isTrue e X.env whole = (do let v ← whole; standAt e.pos; holding [v] (truthy v)) := by intro _; rfl) : TJ X W fx ms e ms1 (tst isBl f) := by
  obtain ⟨t, p, r⟩ := h
  exact ⟨_, pt_val p he, RJ.tstB PMono.true r⟩

/-! ### and, or, not, if .. else -/
theorem RJ.ite {α β : Type} {K : PySem.W.Frag} {P : Hp → Prop} {Rel : Hp → Hp → α → β → List Addr → Prop} {t u : St → Hp → (β → Hp → Prop) → Prop} {f g : Env → Out α} {x y : Bool} (h1 : RJ K W fx P ms ms1 Rel t f) (h2 : RJ K W fx P ms ms1 Rel u g) (e : x = y) :
    RJ K W fx P ms ms1 Rel (fun σ H Q => if y = true then t σ H Q else u σ H Q) (fun env => if x = true then f env else g env) := by
  subst e
  cases x
  · exact h2
  · exact h1
/-- what is known beforehand -/
theorem RJ.pre {α β : Type} {K : PySem.W.Frag} {P : Hp → Prop} {φ : Prop} {Rel : Hp → Hp → α → β → List Addr → Prop} {t : St → Hp → (β → Hp → Prop) → Prop} {f : Env → Out α} (h : φ → RJ K W fx P ms ms1 Rel t f) (hp : ∀ G, P G → φ) : RJ K W fx P ms ms1 Rel t f :=
  fun env σ G H own p => h (hp G p) env σ G H own p
theorem TW.tj {f : FT} (h : TW X W fx ms e ms1 f) : TJ X W fx ms e ms1 f := let ⟨t, p, r⟩ := h; ⟨t, p.pt, r⟩
theorem TW.and1 {f : FT} (h : TJ X W fx ms a ms1 f) : TW X W fx ms (.BoolOp .And [a] pos) ms1 f := let ⟨t, p, r⟩ := h; ⟨t, pw_and1 p, r⟩
theorem TW.or1 {f : FT} (h : TJ X W fx ms a ms1 f) : TW X W fx ms (.BoolOp .Or [a] pos) ms1 f := let ⟨t, p, r⟩ := h; ⟨t, pw_or1 p, r⟩
theorem TW.and {f g : FT} {rest : List Expr} (h : TJ X W fx ms a ms1 f) (h2 : TW X W fx ms1 (.BoolOp .And (b :: rest) pos) ms1 g) : TW X W fx ms (.BoolOp .And (a :: b :: rest) pos) ms1 (andT f g) := by
  obtain ⟨t, p, r⟩ := h
  obtain ⟨t2, p2, r2⟩ := h2
  exact ⟨_, pw_and p p2, RJ.bind (t := t) PMono.true r fun x y => RJ.pre (fun e => RJ.ite (r2.imp fun _ _ => trivial) (RJ.pure fun _ _ => rfl) e) fun _ h => h.2⟩
theorem TW.or {f g : FT} {rest : List Expr} (h : TJ X W fx ms a ms1 f) (h2 : TW X W fx ms1 (.BoolOp .Or (b :: rest) pos) ms1 g) : TW X W fx ms (.BoolOp .Or (a :: b :: rest) pos) ms1 (orT f g) := by
  obtain ⟨t, p, r⟩ := h
  obtain ⟨t2, p2, r2⟩ := h2
  exact ⟨_, pw_or p p2, RJ.bind (t := t) PMono.true r fun x y => RJ.pre (fun e => RJ.ite (RJ.pure fun _ _ => rfl) (r2.imp fun _ _ => trivial) e) fun _ h => h.2⟩
theorem TJ.not {f : FT} (h : TJ X W fx ms a ms1 f) : TJ X W fx ms (.UnaryOp .Not a pos) ms1 (notT f) := by
  obtain ⟨t, p, r⟩ := h
  refine ⟨_, pt_not p, RJ.bind (t := t) PMono.true r fun x y => RJ.pure fun G h => by rw [h.2]⟩
theorem EF.ife {f : FT} {g k : FE} (hc : TJ X W fx ms c ms1 f) (ha : EF X W fx ms1 a ms2 g) (hb : EF X W fx ms1 b ms2 k) : EF X W fx ms (.IfExp c a b pos) ms2 (ife f g k) := by
  obtain ⟨t, p, r⟩ := hc
  obtain ⟨t2, p2, r2⟩ := ha
  obtain ⟨t3, p3, r3⟩ := hb
  exact ⟨_, pe_ifExp p p2 p3, RJ.bind (t := t) PMono.true r fun x y => RJ.pre (fun e => RJ.ite (r2.imp fun _ _ => trivial) (r3.imp fun _ _ => trivial) e) fun _ h => h.2⟩
theorem EJ.ife {md : Md} {f : FT} {g k : FE} (hc : TJ X W fx ms c ms1 f) (ha : EJ X W fx ms1 a md ms2 g) (hb : EJ X W fx ms1 b md ms2 k) : EJ X W fx ms (.IfExp c a b pos) md ms2 (VS.ife f g k) := by
  obtain ⟨t, p, r⟩ := hc
  obtain ⟨t2, p2, r2⟩ := ha
  obtain ⟨t3, p3, r3⟩ := hb
  exact ⟨_, pe_ifExp p p2 p3, RJ.bind (t := t) PMono.true r fun x y => RJ.pre (fun e => RJ.ite (r2.imp fun _ _ => trivial) (r3.imp fun _ _ => trivial) e) fun _ h => h.2⟩
end
end VS
-- VOps
set_option Elab.async false
set_option linter.all false
set_option maxRecDepth 100000
/-! VOps: operations on values: what they give (sem), and the rules. -/
namespace VS
open PySem L2

section
variable {K : PySem.W.Frag} {G H G' H' : Hp}
theorem TrL.get : ∀ {ts : List T} {vs : List V} {i : Nat} {t : T}, TrL K G ts vs → ts[i]? = some t → ∃ v, vs[i]? = some v ∧ Tr K G t v
  | _, _, _, _, .nil, e => by simp at e
  | _, _, 0, _, .cons h r, e => by simp at e; subst e; exact ⟨_, rfl, h⟩
  | _, _, i + 1, t, .cons h r, e => by
    obtain ⟨v, h1, h2⟩ := TrL.get (i := i) r (by simpa using e)
    exact ⟨v, by simpa using h1, h2⟩
theorem TrL.append : ∀ {a b : List T} {x y : List V}, TrL K G a x → TrL K G b y → TrL K G (a ++ b) (x ++ y)
  | _, _, _, _, .nil, s => s
  | _, _, _, _, .cons h r, s => .cons h (TrL.append r s)
theorem TrL.take : ∀ {a : List T} {x : List V} (n : Nat), TrL K G a x → TrL K G (a.take n) (x.take n)
  | _, _, 0, _ => .nil
  | _, _, _ + 1, .nil => .nil
  | _, _, n + 1, .cons h r => .cons h (TrL.take n r)
theorem TrL.drop : ∀ {a : List T} {x : List V} (n : Nat), TrL K G a x → TrL K G (a.drop n) (x.drop n)
  | _, _, 0, r => r
  | _, _, _ + 1, .nil => .nil
  | _, _, n + 1, .cons h r => TrL.drop n r
theorem TrL.rep {a : List T} {x : List V} (h : TrL K G a x) : ∀ n : Nat, TrL K G (List.replicate n a).flatten (List.replicate n x).flatten
  | 0 => .nil
  | n + 1 => by
    rw [List.replicate_succ, List.flatten_cons, List.replicate_succ, List.flatten_cons]
    exact h.append (TrL.rep h n)
theorem TrL.ints : ∀ (ns : List Int), TrL K G (ns.map T.int) (ns.map V.int)
  | [] => .nil
  | n :: ns => .cons (.int n) (TrL.ints ns)
theorem TrL.inj : ∀ {a : List T} {x : List V}, TrL K G a x → a = [] → x = []
  | _, _, .nil, _ => rfl
theorem TrL.inj' : ∀ {a : List T} {x : List V}, TrL K G a x → x = [] → a = []
  | _, _, .nil, _ => rfl
end

/-- a binary operation on frozen values -/
def Bin (K : PySem.W.Frag) (md : Md) (r : R2) (s : T → T → Option T) : Prop :=
  ∀ x y u v, VOp K (fun G H a b as => OwR K G H md a b as) (fun G => (True ∧ Tr K G x u) ∧ Tr K G y v) (r u v) (s x y)
structure Gave (K : PySem.W.Frag) (G H : Hp) (md : Md) (c : T) (Q : V → Hp → Prop) : Prop where
  to : ∀ w G' H' as, Step G H [] G' H' as → (∀ a o, G' a = some o → H' a = some o) → OwR K G' H' md c w as → as.Nodup → Q w H'
theorem Bin.mk {K : PySem.W.Frag} {md : Md} {r : R2} {s : T → T → Option T} (h : ∀ (G H : Hp) (x y : T) (u v : V) (c : T), (∀ a o, G a = some o → H a = some o) → Tr K G x u → Tr K G y v → s x y = some c → ∀ Q : V → Hp → Prop,
    Gave K G H md c Q → r u v H Q) : Bin K md r s :=
  fun x y u v G H c sub p e Q hq => h G H x y u v c sub p.1.2 p.2 e Q ⟨hq⟩
theorem Gave.val {K : PySem.W.Frag} {G H : Hp} {c : T} {Q : V → Hp → Prop} (q : Gave K G H .frz c Q) (sub : ∀ a o, G a = some o → H a = some o) {v : V} (h : Tr K G c v) : Q v H :=
  q.to v G H [] (.refl fun _ h => h) sub (.frz h) .nil
theorem Gave.tup {K : PySem.W.Frag} {G H : Hp} {ts : List T} {vs : List V} {Q : V → Hp → Prop} (q : Gave K G H .frz (.tup ts) Q) (sub : ∀ a o, G a = some o → H a = some o) (h : TrL K G ts vs) : ∀ p, H p = none → Q (.ref p) (upd H p (.tup vs)) :=
  fun p hp => q.to _ _ _ [] (Step.new sub hp) (sub_new sub) (.frz (.newT sub hp h)) .nil
theorem Gave.lst {K : PySem.W.Frag} {G H : Hp} {ts : List T} {vs : List V} {Q : V → Hp → Prop} (q : Gave K G H .frz (.lst ts) Q) (sub : ∀ a o, G a = some o → H a = some o) (h : TrL K G ts vs) : ∀ p, H p = none → Q (.ref p) (upd H p (.lst vs)) :=
  fun p hp => q.to _ _ _ [] (Step.new sub hp) (sub_new sub) (.frz (.newL sub hp h)) .nil
theorem Gave.own {K : PySem.W.Frag} {G H : Hp} {ts : List T} {vs : List V} {Q : V → Hp → Prop} (q : Gave K G H (.own .frz) (.lst ts) Q) (sub : ∀ a o, G a = some o → H a = some o) (h : TrL K G ts vs) : ∀ p, H p = none → Q (.ref p) (upd H p (.lst vs)) :=
  fun p hp => q.to _ _ _ [p] (Step.newO hp) (sub_newO sub hp) (.newL sub hp h) (by simp)

/-! ### + -/
def addT : T → T → Option T
  | .int i, .int j => some (.int (i + j))
  | .str a, .str b => if a.length + b.length ≤ sizeLine then some (.str (a ++ b)) else none
  | .tup a, .tup b => if a.length + b.length ≤ sizeLine then some (.tup (a ++ b)) else none
  | .lst a, .lst b => if a.length + b.length ≤ sizeLine then some (.lst (a ++ b)) else none
  | _, _ => none
def rAdd (K : PySem.W.Frag) : R2 := fun x y H Q => (∃ i j, x = .int i ∧ y = .int j ∧ Q (.int (i + j)) H) ∨ (∃ i j, x = .str i ∧ y = .str j ∧ i.length + j.length ≤ sizeLine ∧ Q (.str (i ++ j)) H) ∨ rCatA K x y H Q ∨ rCat x y H Q
theorem op_addA {X : Cx} : OpR X (binaryOp .Add) (rAdd X.K) := OpR.or op_add (OpR.or op_add_str (OpR.or op_catA op_cat))
theorem bin_add {K : PySem.W.Frag} : Bin K .frz (rAdd K) addT := .mk fun G H x y u v c sub hx hy e Q q => by
  cases hx <;> cases hy <;> simp only [addT] at e <;> try cases e
  · exact .inl ⟨_, _, rfl, rfl, q.val sub (.int _)⟩
  · split at e <;> cases e
    exact .inr (.inl ⟨_, _, rfl, rfl, by assumption, q.val sub (.str _)⟩)
  · rename_i h1 r1 _ _ _ h2 r2
    split at e <;> cases e
    rename_i hz
    refine .inr (.inr (.inl ⟨_, _, _, _, rfl, rfl, SqT.sub sub h1, SqT.sub sub h2, by rw [← r1.length, ← r2.length]; exact hz, fun e => ?_, fun _ e => ?_, fun _ _ => q.tup sub (r1.append r2)⟩))
    · subst e
      have z := r1.inj' rfl
      subst z
      exact q.val sub (.tup h2 r2)
    · subst e
      have z := r2.inj' rfl
      subst z
      exact q.val sub (.tup h1 (by simpa using r1))
  · rename_i h1 r1 _ _ _ h2 r2
    split at e <;> cases e
    rename_i hz
    exact .inr (.inr (.inr ⟨_, _, _, _, rfl, rfl, sub _ _ h1, sub _ _ h2, by rw [← r1.length, ← r2.length]; exact hz, q.lst sub (r1.append r2)⟩))

/-! ### - * // % ** -/
def subT : T → T → Option T
  | .int i, .int j => some (.int (i - j))
  | _, _ => none
theorem bin_sub {K : PySem.W.Frag} : Bin K .frz (rI0 fun i j => .int (i - j)) subT := .mk fun G H x y u v c sub hx hy e Q q => by
  cases hx <;> cases hy <;> simp only [subT] at e <;> cases e
  exact ⟨_, _, rfl, rfl, q.val sub (.int _)⟩
def mulOk (i j : Int) : Bool := decide (i.natAbs < 2 ^ 64) || decide (j.natAbs < 2 ^ 64)
theorem mulOk_C {i j : Int} (h : mulOk i j = true) : CMul i j := by
  unfold mulOk at h
  simp only [Bool.or_eq_true, decide_eq_true_eq] at h
  rcases h with h | h
  · exact .inl ⟨by omega, by omega⟩
  · exact .inr ⟨by omega, by omega⟩
def mulT : T → T → Option T
  | .int i, .int j => if mulOk i j then some (.int (i * j)) else none
  | .lst a, .int k => if k.natAbs < 2 ^ 62 ∧ a.length * k.toNat ≤ sizeLine then some (.lst (List.replicate k.toNat a).flatten) else none
  | _, _ => none
def rMulA : R2 := fun x y H Q => rI CMul (fun i j => .int (i * j)) x y H Q ∨ rRep x y H Q
theorem op_mulA {X : Cx} : OpR X (binaryOp .Mult) rMulA := OpR.or op_mul op_rep
theorem bin_mul {K : PySem.W.Frag} : Bin K .frz rMulA mulT := .mk fun G H x y u v c sub hx hy e Q q => by
  cases hx <;> cases hy <;> simp only [mulT] at e <;> try cases e
  · split at e <;> cases e
    exact .inl ⟨_, _, rfl, rfl, mulOk_C (by assumption), q.val sub (.int _)⟩
  · rename_i h1 r1 k
    split at e <;> cases e
    rename_i hz
    exact .inr ⟨_, _, _, rfl, rfl, sub _ _ h1, by omega, by omega, by rw [← r1.length]; exact hz.2, q.lst sub (r1.rep _)⟩
def modT : T → T → Option T
  | .int i, .int j => if 0 < j then some (.int (i % j)) else none
  | _, _ => none
theorem bin_mod {K : PySem.W.Frag} : Bin K .frz (rI (fun _ j => 0 < j) fun i j => .int (i % j)) modT := .mk fun G H x y u v c sub hx hy e Q q => by
  cases hx <;> cases hy <;> simp only [modT] at e <;> try cases e
  split at e <;> cases e
  exact ⟨_, _, rfl, rfl, by assumption, q.val sub (.int _)⟩
def divT : T → T → Option T
  | .int i, .int j => if 0 < j ∧ j < 1073741824 then some (.int (i / j)) else none
  | _, _ => none
theorem bin_div {K : PySem.W.Frag} : Bin K .frz (rI CDiv fun i j => .int (i / j)) divT := .mk fun G H x y u v c sub hx hy e Q q => by
  cases hx <;> cases hy <;> simp only [divT] at e <;> try cases e
  split at e <;> cases e
  exact ⟨_, _, rfl, rfl, by assumption, q.val sub (.int _)⟩
def powT : T → T → Option T
  | .int i, .int j => if 0 ≤ j ∧ j ≤ 1000000 ∧ i.natAbs < 2 ^ 64 then some (.int (i ^ j.toNat)) else none
  | _, _ => none
theorem bin_pow {K : PySem.W.Frag} : Bin K .frz (rI CPow fun i j => .int (i ^ j.toNat)) powT := .mk fun G H x y u v c sub hx hy e Q q => by
  cases hx <;> cases hy <;> simp only [powT] at e <;> try cases e
  split at e <;> cases e
  exact ⟨_, _, rfl, rfl, by assumption, q.val sub (.int _)⟩

/-! ### comparisons of order -/
def ltT : T → T → Option T
  | .int i, .int j => some (.bl (decide (i < j)))
  | .str a, .str b => some (.bl (decide (a.cps.toList < b.cps.toList)))
  | _, _ => none
def rLtA : R2 := fun x y H Q => rI0 (fun i j => .bl (decide (i < j))) x y H Q ∨ ∃ i j, x = .str i ∧ y = .str j ∧ Q (.bl (decide (i.cps.toList < j.cps.toList))) H
theorem op_ltA {X : Cx} : OpR X (compareOp .Lt) rLtA := OpR.or op_lt op_lt_str
theorem bin_lt {K : PySem.W.Frag} : Bin K .frz rLtA ltT := .mk fun G H x y u v c sub hx hy e Q q => by
  cases hx <;> cases hy <;> simp only [ltT] at e <;> cases e
  · exact .inl ⟨_, _, rfl, rfl, q.val sub (.bl _)⟩
  · exact .inr ⟨_, _, rfl, rfl, q.val sub (.bl _)⟩
def leT : T → T → Option T
  | .int i, .int j => some (.bl (decide (i ≤ j)))
  | _, _ => none
theorem bin_le {K : PySem.W.Frag} : Bin K .frz (rI0 fun i j => .bl (decide (i ≤ j))) leT := .mk fun G H x y u v c sub hx hy e Q q => by
  cases hx <;> cases hy <;> simp only [leT] at e <;> cases e
  exact ⟨_, _, rfl, rfl, q.val sub (.bl _)⟩
def gtT : T → T → Option T
  | .int i, .int j => some (.bl (decide (j < i)))
  | _, _ => none
theorem bin_gt {K : PySem.W.Frag} : Bin K .frz (rI0 fun i j => .bl (decide (j < i))) gtT := .mk fun G H x y u v c sub hx hy e Q q => by
  cases hx <;> cases hy <;> simp only [gtT] at e <;> cases e
  exact ⟨_, _, rfl, rfl, q.val sub (.bl _)⟩
def geT : T → T → Option T
  | .int i, .int j => some (.bl (decide (j ≤ i)))
  | _, _ => none
theorem bin_ge {K : PySem.W.Frag} : Bin K .frz (rI0 fun i j => .bl (decide (j ≤ i))) geT := .mk fun G H x y u v c sub hx hy e Q q => by
  cases hx <;> cases hy <;> simp only [geT] at e <;> cases e
  exact ⟨_, _, rfl, rfl, q.val sub (.bl _)⟩

/-! ### == -/
mutual
def toD : T → Option PyData
  | .non => some .none
  | .bl b => some (.bool b)
  | .int i => some (.int i)
  | .str x => some (.str x)
  | .tup xs => (toDs xs).map .tuple
  | .lst xs => (toDs xs).map .list
  | _ => none
def toDs : List T → Option (List PyData)
  | [] => some []
  | x :: xs => match toD x, toDs xs with
    | some d, some ds => some (d :: ds)
    | _, _ => none
end
mutual
theorem Tr.dp {K : PySem.W.Frag} {G H : Hp} (sub : ∀ a o, G a = some o → H a = some o) : ∀ {t : T} {v : V} {d : PyData}, Tr K G t v → toD t = some d → Dp K H v d
  | _, _, _, .non, e => by simp only [toD] at e; cases e; exact .non
  | _, _, _, .bl b, e => by simp only [toD] at e; cases e; exact .bl b
  | _, _, _, .int i, e => by simp only [toD] at e; cases e; exact .int i
  | _, _, _, .str x, e => by simp only [toD] at e; cases e; exact .str x
  | _, _, _, .ref a, e => by simp only [toD] at e; cases e
  | _, _, _, .ty n, e => by simp only [toD] at e; cases e
  | _, _, _, .scr h, e => by simp only [toD] at e; cases e
  | _, _, _, .tup (ts := ts) h r, e => by
    simp only [toD] at e
    cases q : toDs ts with
    | none => rw [q] at e; cases e
    | some ds =>
      rw [q] at e
      cases e
      exact .tup (SqT.sub sub h) (TrL.dp sub r q)
  | _, _, _, .lst (ts := ts) h r, e => by
    simp only [toD] at e
    cases q : toDs ts with
    | none => rw [q] at e; cases e
    | some ds =>
      rw [q] at e
      cases e
      exact .lst (.of (sub _ _ h)) (TrL.dp sub r q)
theorem TrL.dp {K : PySem.W.Frag} {G H : Hp} (sub : ∀ a o, G a = some o → H a = some o) : ∀ {ts : List T} {vs : List V} {ds : List PyData}, TrL K G ts vs → toDs ts = some ds → DpAll K H vs ds
  | _, _, _, .nil, e => by simp only [toDs] at e; cases e; exact .nil
  | t :: ts, _, _, .cons h r, e => by
    simp only [toDs] at e
    cases q : toD t with
    | none => rw [q] at e; cases e
    | some d =>
      cases q2 : toDs ts with
      | none => rw [q, q2] at e; cases e
      | some ds2 =>
        rw [q, q2] at e
        cases e
        exact .cons (Tr.dp sub h q) (TrL.dp sub r q2)
end
def eqO (x y : T) : Option Bool := match toD x, toD y with
  | some d, some e => if SeqAt.shaped d && SeqAt.shaped e then some (PyData.eqv d e) else none
  | _, _ => none
def eqT (x y : T) : Option T := (eqO x y).map .bl
def neT (x y : T) : Option T := (eqO x y).map fun b => .bl (!b)
theorem eqO_some {x y : T} {b : Bool} (h : eqO x y = some b) : ∃ d e, toD x = some d ∧ toD y = some e ∧ SeqAt.shaped d = true ∧ SeqAt.shaped e = true ∧ b = PyData.eqv d e := by
  unfold eqO at h
  split at h
  · rename_i d e h1 h2
    split at h
    · rename_i hs
      cases h
      simp only [Bool.and_eq_true] at hs
      exact ⟨d, e, h1, h2, hs.1, hs.2, rfl⟩
    · cases h
  · cases h
theorem bin_eq {K : PySem.W.Frag} : Bin K .frz (rEqD K) eqT := .mk fun G H x y u v c sub hx hy e Q q => by
  unfold eqT at e
  cases h : eqO x y with
  | none => rw [h] at e; cases e
  | some b =>
    rw [h] at e
    cases e
    obtain ⟨d, d', h1, h2, s1, s2, rfl⟩ := eqO_some h
    exact ⟨d, d', hx.dp sub h1, hy.dp sub h2, s1, s2, q.val sub (.bl _)⟩
theorem bin_ne {K : PySem.W.Frag} : Bin K .frz (rNeD K) neT := .mk fun G H x y u v c sub hx hy e Q q => by
  unfold neT at e
  cases h : eqO x y with
  | none => rw [h] at e; cases e
  | some b =>
    rw [h] at e
    cases e
    obtain ⟨d, d', h1, h2, s1, s2, rfl⟩ := eqO_some h
    exact ⟨d, d', hx.dp sub h1, hy.dp sub h2, s1, s2, q.val sub (.bl _)⟩
def isNoneT (x y : T) : Option T := match y with
  | .non => some (.bl (match x with | .non => true | _ => false))
  | _ => none
def notNoneT (x y : T) : Option T := match y with
  | .non => some (.bl (match x with | .non => false | _ => true))
  | _ => none
theorem bin_isN {K : PySem.W.Frag} : Bin K .frz (fun x y H Q => y = .non ∧ Q (.bl (decide (x = .non))) H) isNoneT := .mk fun G H x y u v c sub hx hy e Q q => by
  cases hy <;> simp only [isNoneT] at e <;> cases e
  refine ⟨rfl, ?_⟩
  cases hx <;> exact q.val sub (.bl _)
theorem bin_notN {K : PySem.W.Frag} : Bin K .frz (fun x y H Q => y = .non ∧ Q (.bl (!decide (x = .non))) H) notNoneT := .mk fun G H x y u v c sub hx hy e Q q => by
  cases hy <;> simp only [notNoneT] at e <;> cases e
  refine ⟨rfl, ?_⟩
  cases hx <;> exact q.val sub (.bl _)
end VS
-- VOps2
set_option Elab.async false
set_option linter.all false
set_option maxRecDepth 100000
/-! VOps2: subscripts, slices, in, calls of built-ins by name. -/
namespace VS
open PySem L2

section
variable {K : PySem.W.Frag} {G H : Hp}
theorem atI_tr {ts : List T} {vs : List V} {i : Int} {t : T} (r : TrL K G ts vs) (h : atI ts i = some t) : ∃ v, atI vs i = some v ∧ Tr K G t v := by
  unfold atI at h ⊢
  rw [← r.length]
  cases e : ixN ts.length i with
  | none => rw [e] at h; cases h
  | some j =>
    rw [e] at h
    obtain ⟨v, h1, h2⟩ := r.get (i := j) h
    exact ⟨v, h1, h2⟩
end
/-! ### x[i] -/
def ixT : T → T → Option T
  | .tup xs, .int i => atI xs i
  | .lst xs, .int i => atI xs i
  | .str z, .int i => if z.length ≤ sizeLine then (atI z.cps.toList i).map fun c => .str ⟨#[c]⟩ else none
  | _, _ => none
def rIxA (K : PySem.W.Frag) : R2 := fun x y H Q => rIxL K x y H Q ∨ rIxT K x y H Q ∨ rIxS x y H Q
theorem ix_all {X : Cx} : IxR X (rIxA X.K) := IxR.or ix_list (IxR.or ix_tup ix_str)
theorem bin_ix {K : PySem.W.Frag} : Bin K .frz (rIxA K) ixT := .mk fun G H x y u v c sub hx hy e Q q => by
  cases hx <;> cases hy <;> simp only [ixT] at e <;> try cases e
  · split at e
    · rename_i z i hz
      cases h : atI z.cps.toList i with
      | none => rw [h] at e; cases e
      | some d =>
        rw [h] at e
        cases e
        exact .inr (.inr ⟨_, _, d, rfl, rfl, hz, h, q.val sub (.str _)⟩)
    · cases e
  · rename_i h1 r1 i
    obtain ⟨w, h2, h3⟩ := atI_tr r1 e
    exact .inr (.inl ⟨_, _, _, w, rfl, rfl, SqT.sub sub h1, h2, q.val sub h3⟩)
  · rename_i h1 r1 i
    obtain ⟨w, h2, h3⟩ := atI_tr r1 e
    exact .inl ⟨_, _, _, w, rfl, rfl, .of (sub _ _ h1), h2, q.val sub h3⟩
/-! ### x[a:b] -/
def cutT {α : Type} (xs : List α) (lo hi : Option Int) : List α := (xs.drop (HT.sIx xs.length 0 lo)).take (HT.sIx xs.length xs.length hi - HT.sIx xs.length 0 lo)
def slT : T → Option Int → Option Int → Option T
  | .tup xs, lo, hi => some (.tup (cutT xs lo hi))
  | .lst xs, lo, hi => some (.lst (cutT xs lo hi))
  | .scr ns, lo, hi => some (.lst ((cutT ns lo hi).map .int))
  | .str z, lo, hi => if z.length ≤ sizeLine then some (.str (cutS z lo hi)) else none
  | _, _, _ => none
theorem cut_tr {K : PySem.W.Frag} {G : Hp} {ts : List T} {vs : List V} (r : TrL K G ts vs) (lo hi : Option Int) : TrL K G (cutT ts lo hi) (cutV vs lo hi) := by
  unfold cutT cutV
  rw [← r.length]
  exact (r.drop _).take _
def rSlAll (K : PySem.W.Frag) : V → Option Int → Option Int → Hp → VK → Prop := fun x lo hi H Q => rSlL K x lo hi H Q ∨ rSlA K x lo hi H Q ∨ rSlS x lo hi H Q
theorem sl_all {X : Cx} : SlR X (rSlAll X.K) := SlR.or sl_list (SlR.or sl_tupA sl_str)
theorem cutT_whole {α : Type} {xs : List α} {lo hi : Option Int} (h : HT.sIx xs.length 0 lo = 0 ∧ HT.sIx xs.length xs.length hi = xs.length) : cutT xs lo hi = xs := by
  unfold cutT
  rw [h.1, h.2]
  simp
theorem sl_sem {K : PySem.W.Frag} {x : T} {u : V} {lo hi : Option Int} : VOp K (fun G H a b as => OwR K G H .frz a b as) (fun G => Tr K G x u) (rSlAll K u lo hi) (slT x lo hi) := fun G H c sub hx e Q hq => by
  have q : Gave K G H .frz c Q := ⟨hq⟩
  cases hx <;> simp only [slT] at e <;> try cases e
  · split at e <;> cases e
    exact .inr (.inr ⟨_, rfl, by assumption, q.val sub (.str _)⟩)
  · rename_i h1 r1
    refine .inr (.inl ⟨_, _, rfl, SqT.sub sub h1, fun hw => ?_, fun _ => ?_⟩)
    · rw [← r1.length] at hw
      rw [cutT_whole hw] at q
      exact q.val sub (.tup h1 r1)
    · exact q.tup sub (cut_tr r1 lo hi)
  · rename_i h1 r1
    exact .inl ⟨_, _, rfl, .of (sub _ _ h1), q.lst sub (cut_tr r1 lo hi)⟩
  · rename_i a ns h1
    have e2 : cutV (ns.map V.int) lo hi = (cutT ns lo hi).map V.int := by
      unfold cutT cutV
      rw [List.length_map, List.map_take, List.map_drop]
    refine .inl ⟨_, _, rfl, SqL.sub sub h1, ?_⟩
    rw [e2]
    exact q.lst sub (TrL.ints _)

/-! ### in, not in -/
def flatT : T → Bool
  | .non => true | .bl _ => true | .int _ => true | .str _ => true
  | _ => false
def eqF : T → T → Bool
  | .non, .non => true
  | .bl a, .bl b => a == b
  | .bl a, .int b => (if a then 1 else 0) == b
  | .int a, .bl b => a == (if b then 1 else 0)
  | .int a, .int b => a == b
  | .str a, .str b => a == b
  | _, _ => false
def inO (x y : T) : Option Bool := match y with
  | .tup xs => if flatT x && xs.all flatT then some (xs.any fun y => eqF y x) else none
  | .lst xs => match toD x, toDs xs with
    | some d, some ds => if SeqAt.shaped d && SeqAt.shaped (.list ds) then some (ds.any fun z => PyData.eqv z d) else none
    | _, _ => none
  | .str b => match x with
    | .str a => if a.length = 1 then some (decide (a.cps.getD 0 0 ∈ b.cps.toList)) else none
    | _ => none
  | _ => none
def inT (x y : T) : Option T := (inO x y).map .bl
def notInT (x y : T) : Option T := (inO x y).map fun b => .bl (!b)
section
variable {K : PySem.W.Frag} {G H : Hp}
theorem flat_tr {x : T} {u : V} (h : Tr K G x u) (f : flatT x = true) : flatV u = true := by cases h <;> simp [flatT] at f <;> rfl
theorem flats_tr : ∀ {xs : List T} {us : List V}, TrL K G xs us → xs.all flatT = true → us.all flatV = true
  | _, _, .nil, _ => rfl
  | _, _, .cons h r, f => by
    rw [List.all_cons, Bool.and_eq_true] at f
    rw [List.all_cons, Bool.and_eq_true]
    exact ⟨flat_tr h f.1, flats_tr r f.2⟩
theorem eqF_tr {x y : T} {u v : V} (h : Tr K G x u) (h2 : Tr K G y v) (f : flatT x = true) (f2 : flatT y = true) : eqV v u = eqF y x := by
  cases h <;> simp [flatT] at f <;> cases h2 <;> simp [flatT] at f2 <;> rfl
theorem inV_tr {x : T} {u : V} (h : Tr K G x u) (f : flatT x = true) : ∀ {xs : List T} {us : List V}, TrL K G xs us → xs.all flatT = true → inV u us = xs.any fun y => eqF y x
  | _, _, .nil, _ => rfl
  | _, _, .cons h2 r, g => by
    rw [List.all_cons, Bool.and_eq_true] at g
    show (eqV _ u || inV u _) = _
    rw [List.any_cons, inV_tr h f r g.2, eqF_tr h h2 f g.1]
end
def rInA (K : PySem.W.Frag) : R2 := fun x y H Q => rIn K false x y H Q ∨ rInD K x y H Q ∨ ∃ (c : Nat) (z : Str), x = .str ⟨#[c]⟩ ∧ y = .str z ∧ Q (.bl (decide (c ∈ z.cps.toList))) H
def rNotInA (K : PySem.W.Frag) : R2 := fun x y H Q => rIn K true x y H Q ∨ rNotInD K x y H Q ∨ ∃ (c : Nat) (z : Str), x = .str ⟨#[c]⟩ ∧ y = .str z ∧ Q (.bl (!decide (c ∈ z.cps.toList))) H
theorem op_inA {X : Cx} (hu : X.A.units + 65 < cLine) : OpR X (compareOp .In) (rInA X.K) := OpR.or op_in_seq (OpR.or (op_inD hu) op_in_sign)
theorem op_notInA {X : Cx} (hu : X.A.units + 65 < cLine) : OpR X (compareOp .NotIn) (rNotInA X.K) := OpR.or op_notIn_seq (OpR.or (op_notInD hu) op_notIn_sign)
theorem one_sign {a : Str} (h : a.length = 1) : a = ⟨#[a.cps.getD 0 0]⟩ := by
  obtain ⟨⟨l⟩⟩ := a
  have h' : l.length = 1 := h
  match l, h' with
  | [c], _ => rfl
theorem inO_cases {K : PySem.W.Frag} {G H : Hp} {x y : T} {u v : V} {b : Bool} (sub : ∀ a o, G a = some o → H a = some o) (hx : Tr K G x u) (hy : Tr K G y v) (h : inO x y = some b) :
    (∃ p xs, v = .ref p ∧ SqT K H p xs ∧ flatV u = true ∧ xs.all flatV = true ∧ inV u xs = b) ∨ (∃ d ds, Dp K H u d ∧ Dp K H v (.list ds) ∧ SeqAt.shaped d = true ∧ SeqAt.shaped (.list ds) = true ∧ (ds.any fun z => PyData.eqv z d) = b) ∨
      ∃ c z, u = .str ⟨#[c]⟩ ∧ v = .str z ∧ decide (c ∈ z.cps.toList) = b := by
  cases hy with
  | tup h1 r1 =>
    simp only [inO] at h
    split at h <;> cases h
    rename_i f
    rw [Bool.and_eq_true] at f
    exact .inl ⟨_, _, rfl, SqT.sub sub h1, flat_tr hx f.1, flats_tr r1 f.2, inV_tr hx f.1 r1 f.2⟩
  | lst h1 r1 =>
    simp only [inO] at h
    split at h
    · rename_i d ds e1 e2
      split at h <;> cases h
      rename_i f
      rw [Bool.and_eq_true] at f
      exact .inr (.inl ⟨d, ds, hx.dp sub e1, .lst (.of (sub _ _ h1)) (TrL.dp sub r1 e2), f.1, f.2, rfl⟩)
    · cases h
  | str z =>
    cases hx <;> simp only [inO] at h <;> try cases h
    split at h <;> cases h
    rename_i a hl
    exact .inr (.inr ⟨_, z, by rw [← one_sign hl], rfl, rfl⟩)
  | _ => simp only [inO] at h; cases h
theorem bin_in {K : PySem.W.Frag} : Bin K .frz (rInA K) inT := .mk fun G H x y u v c sub hx hy e Q q => by
  unfold inT at e
  cases h : inO x y with
  | none => rw [h] at e; cases e
  | some b =>
    rw [h] at e; cases e
    rcases inO_cases sub hx hy h with ⟨p, xs, rfl, h1, f1, f2, rfl⟩ | ⟨d, ds, h1, h2, s1, s2, rfl⟩ | ⟨c, z, rfl, rfl, rfl⟩
    · exact .inl ⟨p, xs, rfl, .inr h1, f1, f2, q.val sub (.bl _)⟩
    · exact .inr (.inl ⟨d, ds, h1, h2, s1, s2, q.val sub (.bl _)⟩)
    · exact .inr (.inr ⟨c, z, rfl, rfl, q.val sub (.bl _)⟩)
theorem bin_notIn {K : PySem.W.Frag} : Bin K .frz (rNotInA K) notInT := .mk fun G H x y u v c sub hx hy e Q q => by
  unfold notInT at e
  cases h : inO x y with
  | none => rw [h] at e; cases e
  | some b =>
    rw [h] at e; cases e
    rcases inO_cases sub hx hy h with ⟨p, xs, rfl, h1, f1, f2, rfl⟩ | ⟨d, ds, h1, h2, s1, s2, rfl⟩ | ⟨c, z, rfl, rfl, rfl⟩
    · exact .inl ⟨p, xs, rfl, .inr h1, f1, f2, q.val sub (.bl _)⟩
    · exact .inr (.inl ⟨d, ds, h1, h2, s1, s2, q.val sub (.bl _)⟩)
    · exact .inr (.inr ⟨c, z, rfl, rfl, q.val sub (.bl _)⟩)

/-! ### calls by values -/
def Cal (K : PySem.W.Frag) (md : Md) (r : List V → Hp → VK → Prop) (s : List T → Option T) : Prop :=
  ∀ xs us, VOp K (fun G H a b as => OwR K G H md a b as) (fun G => True ∧ TrL K G xs us) (r us) (s xs)
theorem Cal.mk {K : PySem.W.Frag} {md : Md} {r : List V → Hp → VK → Prop} {s : List T → Option T} (h : ∀ (G H : Hp) (xs : List T) (us : List V) (c : T), (∀ a o, G a = some o → H a = some o) → TrL K G xs us → s xs = some c → ∀ Q : V → Hp → Prop,
    Gave K G H md c Q → r us H Q) : Cal K md r s :=
  fun xs us G H c sub p e Q hq => h G H xs us c sub p.2 e Q ⟨hq⟩
theorem CallR.or {X : Cx} {f : Value} {r r' : List V → Hp → VK → Prop} (h : CallR X f r) (h' : CallR X f r') : CallR X f (fun xs H Q => r xs H Q ∨ r' xs H Q) := by
  intro pins s σ H xs us Q I rx q
  rcases q with q | q
  · exact h pins s σ H xs us Q I rx q
  · exact h' pins s σ H xs us Q I rx q
def lenO : List T → Option T
  | [.str z] => if z.length ≤ sizeLine then some (.int z.length) else none
  | [.tup xs] => some (.int xs.length)
  | [.lst xs] => some (.int xs.length)
  | _ => none
theorem TrL.one {K : PySem.W.Frag} {G : Hp} {t : T} {us : List V} (h : TrL K G [t] us) : ∃ u, us = [u] ∧ Tr K G t u := by
  cases h with | cons h r => cases r; exact ⟨_, rfl, h⟩
theorem TrL.two {K : PySem.W.Frag} {G : Hp} {t t2 : T} {us : List V} (h : TrL K G [t, t2] us) : ∃ u v, us = [u, v] ∧ Tr K G t u ∧ Tr K G t2 v := by
  cases h with | cons h r => obtain ⟨v, rfl, h2⟩ := r.one; exact ⟨_, _, rfl, h, h2⟩
theorem cal_len {K : PySem.W.Frag} : Cal K .frz (fun xs H Q => ∃ x n, xs = [x] ∧ LenV K x H n ∧ Q (.int n) H) lenO := .mk fun G H xs us c sub h e Q q => by
  match xs, h, e with
  | [.str z], h, e =>
    simp only [lenO] at e
    split at e <;> cases e
    obtain ⟨u, rfl, h9⟩ := h.one
    cases h9
    exact ⟨_, _, rfl, ⟨by assumption, rfl⟩, q.val sub (.int _)⟩
  | [.tup ys], h, e =>
    cases e
    obtain ⟨u, rfl, h9⟩ := h.one
    cases h9 with | tup h7 r => exact ⟨_, _, rfl, .inr ⟨_, SqT.sub sub h7, rfl⟩, r.length ▸ q.val sub (.int _)⟩
  | [.lst ys], h, e =>
    cases e
    obtain ⟨u, rfl, h9⟩ := h.one
    cases h9 with | lst h7 r => exact ⟨_, _, rfl, .inl ⟨_, .of (sub _ _ h7), rfl⟩, r.length ▸ q.val sub (.int _)⟩
def absO : List T → Option T
  | [.int i] => some (.int (if i < 0 then -i else i))
  | _ => none
theorem cal_abs {K : PySem.W.Frag} : Cal K .frz (fun xs H Q => ∃ i, xs = [.int i] ∧ Q (.int (if i < 0 then -i else i)) H) absO := .mk fun G H xs us c sub h e Q q => by
  match xs, h, e with
  | [.int z], h, e =>
    cases e
    obtain ⟨u, rfl, h9⟩ := h.one
    cases h9
    exact ⟨_, rfl, q.val sub (.int _)⟩
def max2O : List T → Option T
  | [.int i, .int j] => some (.int (if j > i then j else i))
  | _ => none
theorem cal_max2 {K : PySem.W.Frag} : Cal K .frz (fun xs H Q => ∃ i j, xs = [.int i, .int j] ∧ Q (.int (if j > i then j else i)) H) max2O := .mk fun G H xs us c sub h e Q q => by
  match xs, h, e with
  | [.int i, .int j], h, e =>
    cases e
    obtain ⟨u, v, rfl, h9, h8⟩ := h.two
    cases h9; cases h8
    exact ⟨_, _, rfl, q.val sub (.int _)⟩
def min2O : List T → Option T
  | [.int i, .int j] => some (.int (if j < i then j else i))
  | _ => none
theorem cal_min2 {K : PySem.W.Frag} : Cal K .frz (fun xs H Q => ∃ i j, xs = [.int i, .int j] ∧ Q (.int (if j < i then j else i)) H) min2O := .mk fun G H xs us c sub h e Q q => by
  match xs, h, e with
  | [.int i, .int j], h, e =>
    cases e
    obtain ⟨u, v, rfl, h9, h8⟩ := h.two
    cases h9; cases h8
    exact ⟨_, _, rfl, q.val sub (.int _)⟩
def intO : List T → Option T
  | [.int i] => some (.int i)
  | [.bl b] => some (.int (if b then 1 else 0))
  | [.str a] => match PySem.intText? a with
    | some n => if a.length ≤ 640 then some (.int n) else none
    | none => none
  | _ => none
def rIntA : List V → Hp → VK → Prop := fun xs H Q => ((∃ i, xs = [.int i] ∧ Q (.int i) H) ∨ ∃ k, xs = [.bl k] ∧ Q (.int (if k then 1 else 0)) H) ∨ ∃ a n, xs = [.str a] ∧ PySem.intText? a = some n ∧ a.length ≤ 640 ∧ Q (.int n) H
theorem call_intA {X : Cx} : CallR X (.type "int") rIntA := CallR.or call_int1 call_int_str
theorem cal_int {K : PySem.W.Frag} : Cal K .frz rIntA intO := .mk fun G H xs us c sub h e Q q => by
  match xs, h, e with
  | [.int i], h, e =>
    cases e
    obtain ⟨u, rfl, h9⟩ := h.one
    cases h9
    exact .inl (.inl ⟨_, rfl, q.val sub (.int _)⟩)
  | [.bl i], h, e =>
    cases e
    obtain ⟨u, rfl, h9⟩ := h.one
    cases h9
    exact .inl (.inr ⟨_, rfl, q.val sub (.int _)⟩)
  | [.str a], h, e =>
    simp only [intO] at e
    split at e
    · split at e <;> cases e
      obtain ⟨u, rfl, h9⟩ := h.one
      cases h9
      exact .inr ⟨_, _, rfl, by assumption, by assumption, q.val sub (.int _)⟩
    · cases e
def strO : List T → Option T
  | [.int i] => if i.natAbs < 2 ^ 64 then some (.str (toString i)) else none
  | _ => none
theorem cal_str {K : PySem.W.Frag} : Cal K .frz (fun xs H Q => ∃ i, xs = [.int i] ∧ i.natAbs.log2 < 1920 ∧ Q (.str (toString i)) H) strO := .mk fun G H xs us c sub h e Q q => by
  match xs, h, e with
  | [.int i], h, e =>
    simp only [strO] at e
    split at e <;> cases e
    rename_i hz
    obtain ⟨u, rfl, h9⟩ := h.one
    cases h9
    refine ⟨_, rfl, ?_, q.val sub (.str _)⟩
    by_cases h0 : i.natAbs = 0
    · rw [h0]; decide
    · have := (Nat.log2_lt h0).mpr hz
      omega
def listO : List T → Option T
  | [.tup xs] => some (.lst xs)
  | [.lst xs] => some (.lst xs)
  | _ => none
theorem cal_list {K : PySem.W.Frag} : Cal K (.own .frz) (fun xs H Q => ∃ p ys, xs = [.ref p] ∧ (SqL K H p ys ∨ SqT K H p ys) ∧ ∀ l, H l = none → Q (.ref l) (upd H l (.lst ys))) listO := .mk fun G H xs us c sub h e Q q => by
  match xs, h, e with
  | [.tup ys], h, e =>
    cases e
    obtain ⟨u, rfl, h9⟩ := h.one
    cases h9 with | tup h7 r => exact ⟨_, _, rfl, .inr (SqT.sub sub h7), q.own sub r⟩
  | [.lst ys], h, e =>
    cases e
    obtain ⟨u, rfl, h9⟩ := h.one
    cases h9 with | lst h7 r => exact ⟨_, _, rfl, .inl (.of (sub _ _ h7)), q.own sub r⟩
def tupleO : List T → Option T
  | [.tup xs] => some (.tup xs)
  | [.lst xs] => some (.tup xs)
  | _ => none
theorem cal_tuple {K : PySem.W.Frag} : Cal K .frz (fun xs H Q => ∃ p ys, xs = [.ref p] ∧ ((SqL K H p ys ∧ ∀ l, H l = none → Q (.ref l) (upd H l (.tup ys))) ∨ (SqT K H p ys ∧ Q (.ref p) H))) tupleO := .mk fun G H xs us c sub h e Q q => by
  match xs, h, e with
  | [.tup ys], h, e =>
    cases e
    obtain ⟨u, rfl, h9⟩ := h.one
    cases h9 with | tup h7 r => exact ⟨_, _, rfl, .inr ⟨SqT.sub sub h7, q.val sub (.tup h7 r)⟩⟩
  | [.lst ys], h, e =>
    cases e
    obtain ⟨u, rfl, h9⟩ := h.one
    cases h9 with | lst h7 r => exact ⟨_, _, rfl, .inl ⟨.of (sub _ _ h7), q.tup sub r⟩⟩
def blsO : List T → Option (List Bool)
  | [] => some []
  | .bl b :: r => (blsO r).map (b :: ·)
  | _ => none
theorem blsO_tr {K : PySem.W.Frag} {G : Hp} : ∀ {ts : List T} {vs : List V} {bs : List Bool}, TrL K G ts vs → blsO ts = some bs → vs = bs.map V.bl
  | _, _, _, .nil, e => by cases e; rfl
  | t :: ts, _, bs, .cons h r, e => by
    cases h <;> simp only [blsO] at e <;> try cases e
    cases q : blsO ts with
    | none => rw [q] at e; cases e
    | some cs =>
      rw [q] at e
      cases e
      rw [blsO_tr r q]
      rfl
def allO : List T → Option T
  | [.lst xs] => (blsO xs).map fun bs => .bl (bs.all id)
  | _ => none
def anyO : List T → Option T
  | [.lst xs] => (blsO xs).map fun bs => .bl (bs.any id)
  | _ => none
theorem cal_all {K : PySem.W.Frag} : Cal K .frz (rAll K) allO := .mk fun G H xs us c sub h e Q q => by
  match xs, h, e with
  | [.lst ys], h, e =>
    simp only [allO] at e
    cases qq : blsO ys with
    | none => rw [qq] at e; cases e
    | some bs =>
      rw [qq] at e; cases e
      obtain ⟨u, rfl, h9⟩ := h.one
      cases h9 with | lst h7 r =>
      have e2 := blsO_tr r qq
      subst e2
      exact ⟨_, _, rfl, .of (sub _ _ h7), q.val sub (.bl _)⟩
theorem cal_any {K : PySem.W.Frag} : Cal K .frz (rAny K) anyO := .mk fun G H xs us c sub h e Q q => by
  match xs, h, e with
  | [.lst ys], h, e =>
    simp only [anyO] at e
    cases qq : blsO ys with
    | none => rw [qq] at e; cases e
    | some bs =>
      rw [qq] at e; cases e
      obtain ⟨u, rfl, h9⟩ := h.one
      cases h9 with | lst h7 r =>
      have e2 := blsO_tr r qq
      subst e2
      exact ⟨_, _, rfl, .of (sub _ _ h7), q.val sub (.bl _)⟩

/-! ### isinstance with a built-in class -/
def tyName : T → Option String
  | .non => some "NoneType" | .bl _ => some "bool" | .int _ => some "int" | .str _ => some "str"
  | .tup _ => some "tuple" | .lst _ => some "list"
  | _ => none
theorem tyName_tr {K : PySem.W.Frag} {G H : Hp} (sub : ∀ a o, G a = some o → H a = some o) {t : T} {v : V} {n : String} (h : Tr K G t v) (e : tyName t = some n) : TyX K H v (.type n) := by
  cases h <;> simp only [tyName] at e <;> cases e
  · exact .base .non
  · exact .base (.bl _)
  · exact .base (.int _)
  · exact .base (.str _)
  · rename_i h r
    rcases h with (h | ⟨o, h⟩) | ⟨o, its, m, h, hc, _⟩
    · exact .base (.tup (sub _ _ h))
    · exact .fTuple (sub _ _ h)
    · exact .kTuple h hc
  · rename_i h r
    exact .base (.lst (sub _ _ h))
/-- the answers for built-in classes (kit_ty shows them) -/
def isiB (n c : String) : Option Bool :=
  if (n = "NoneType" ∨ n = "bool" ∨ n = "int" ∨ n = "str" ∨ n = "tuple" ∨ n = "list") ∧ (c = "bool" ∨ c = "int" ∨ c = "str" ∨ c = "tuple" ∨ c = "list" ∨ c = "dict") then some (decide (n = c) || (decide (n = "bool") && decide (c = "int"))) else none
def isiO : List T → Option T
  | [x, .ty c] => match tyName x with
    | some n => (isiB n c).map .bl
    | none => none
  | _ => none
end VS
-- VStmt
set_option Elab.async false
set_option linter.all false
set_option maxRecDepth 100000
/-! VStmt: statements, targets, loops. -/
namespace VS
open PySem L2

/-! ### canonical readings -/
def semR {α β : Type} (K : PySem.W.Frag) (W : WX) (fx : List (Nat × Md)) (P : Hp → Prop) (ms ms' : List Md) (Rel : Hp → Hp → α → β → List Addr → Prop) (f : Env → Out α) : St → Hp → (β → Hp → Prop) → Prop := fun σ H Q =>
  ∃ (env : Env) (G : Hp) (own : List Addr), P G ∧ SR K ms env σ G H own ∧ f env ≠ .stk ∧
    (∀ a env', f env = .ok a env' → ∀ b G' H' own' as, SR K ms' env' σ G' H' own' → Rel G' H' a b as → (as ++ own').Nodup → Step G H own G' H' (as ++ own') → Q b H') ∧
    (∀ x env', f env = .exc x env' → ∀ msR cls d G' H' own', FxOk fx msR → SR K msR env' σ G' H' own' → ExR K G' H' x cls d → Step G H own G' H' own' → W cls d σ H')
section
variable {X : Cx} {W : WX} {fx : List (Nat × Md)} {ms ms' : List Md} {e : Expr} {es : List Expr} {f : FE} {g : FA} {b : FT} {r : Md}
theorem EJ.sem (h : EJ X W fx ms e r ms' f) : PE X e (semR X.K W fx (fun _ => True) ms ms' (fun G H a b as => OwR X.K G H r a b as) f) := by
  obtain ⟨t, p, rj⟩ := h
  exact ⟨fun pins s σ H Q I ⟨env, G, own, pg, sr, ns, ho, hx⟩ => p.run pins s σ H Q I (rj env σ G H own pg sr ns Q ho hx)⟩
theorem EF.sem (h : EF X W fx ms e ms' f) : PE X e (semR X.K W fx (fun _ => True) ms ms' (Fz (Tr X.K)) f) := by
  obtain ⟨t, p, rj⟩ := h
  exact ⟨fun pins s σ H Q I ⟨env, G, own, pg, sr, ns, ho, hx⟩ => p.run pins s σ H Q I (rj env σ G H own pg sr ns Q ho hx)⟩
theorem TJ.sem (h : TJ X W fx ms e ms' b) : PT X e (semR X.K W fx (fun _ => True) ms ms' (Fz fun _ (a b : Bool) => a = b) b) := by
  obtain ⟨t, p, rj⟩ := h
  exact ⟨fun pins s σ H Q I ⟨env, G, own, pg, sr, ns, ho, hx⟩ => p.run pins s σ H Q I (rj env σ G H own pg sr ns Q ho hx)⟩
theorem RJ.sem {α β : Type} {K : PySem.W.Frag} {P : Hp → Prop} {Rel : Hp → Hp → α → β → List Addr → Prop} {f : Env → Out α} : RJ K W fx P ms ms' Rel (semR K W fx P ms ms' Rel f) f :=
  fun env σ G H own p s ns Q ho hx => ⟨env, G, own, p, s, ns, ho, hx⟩
end

/-! ### statements -/
abbrev FS := Env → SOut
def FxS (fx : List (Nat × Md)) (σ σ' : St) : Prop := σ'.length = σ.length ∧ ∀ p ∈ fx, σ'[p.1]? = σ[p.1]?
theorem FxS.refl {fx : List (Nat × Md)} (σ : St) : FxS fx σ σ := ⟨rfl, fun _ _ => rfl⟩
theorem FxS.trans {fx : List (Nat × Md)} {a b c : St} (h : FxS fx a b) (k : FxS fx b c) : FxS fx a c := ⟨k.1.trans h.1, fun p hp => (k.2 p hp).trans (h.2 p hp)⟩
/-- the ends: of the next statement, of the loop around -/
structure Wants (K : PySem.W.Frag) (W : WX) (fx : List (Nat × Md)) (msN msL : List Md) (r : Md) (σ : St) (G H : Hp) (own : List Addr) (o : SOut) (D : Ends) : Prop where
  ns : o ≠ .stk
  nx : ∀ env', o = .nxt env' → ∀ σ' G' H' own', SR K msN env' σ' G' H' own' → FxS fx σ σ' → Step G H own G' H' own' → D.nx σ' H'
  bk : ∀ env', o = .brk env' → ∀ σ' G' H' own', SR K msL env' σ' G' H' own' → FxS fx σ σ' → Step G H own G' H' own' → D.bk σ' H'
  ct : ∀ env', o = .cnt env' → ∀ σ' G' H' own', SR K msL env' σ' G' H' own' → FxS fx σ σ' → Step G H own G' H' own' → D.ct σ' H'
  rt : ∀ v env', o = .ret v env' → ∀ u msR σ' G' H' own' as, FxOk fx msR → SR K msR env' σ' G' H' own' → FxS fx σ σ' → OwR K G' H' r v u as → (as ++ own').Nodup → Step G H own G' H' (as ++ own') → D.rt u H'
  ex : ∀ x env', o = .exc x env' → ∀ msR σ' cls d G' H' own', FxOk fx msR → SR K msR env' σ' G' H' own' → FxS fx σ σ' → ExR K G' H' x cls d → Step G H own G' H' own' → W cls d σ' H'
theorem Wants.after {K : PySem.W.Frag} {W : WX} {fx : List (Nat × Md)} {msN msL : List Md} {r : Md} {σ σ1 : St} {G H G1 H1 : Hp} {own own1 : List Addr} {o : SOut} {D : Ends} (w : Wants K W fx msN msL r σ G H own o D) (st : Step G H own G1 H1 own1) (fs : FxS fx σ σ1) : Wants K W fx msN msL r σ1 G1 H1 own1 o D :=
  ⟨w.ns, fun env' e σ' G' H' own' s f z => w.nx env' e σ' G' H' own' s (fs.trans f) (st.trans z), fun env' e σ' G' H' own' s f z => w.bk env' e σ' G' H' own' s (fs.trans f) (st.trans z),
    fun env' e σ' G' H' own' s f z => w.ct env' e σ' G' H' own' s (fs.trans f) (st.trans z), fun v env' e u msR σ' G' H' own' as fo s f rel nd z => w.rt v env' e u msR σ' G' H' own' as fo s (fs.trans f) rel nd (st.trans z),
    fun x env' e msR σ' cls d G' H' own' fo s f er z => w.ex x env' e msR σ' cls d G' H' own' fo s (fs.trans f) er (st.trans z)⟩
theorem Wants.eq {K : PySem.W.Frag} {W : WX} {fx : List (Nat × Md)} {msN msL : List Md} {r : Md} {σ : St} {G H : Hp} {own : List Addr} {o o' : SOut} {D : Ends} (w : Wants K W fx msN msL r σ G H own o D) (e : o = o') : Wants K W fx msN msL r σ G H own o' D := e ▸ w
def semS (K : PySem.W.Frag) (W : WX) (fx : List (Nat × Md)) (ms msN msL : List Md) (r : Md) (f : FS) : TS := fun D σ H =>
  ∃ (env : Env) (G : Hp) (own : List Addr), SR K ms env σ G H own ∧ Wants K W fx msN msL r σ G H own (f env) D
def SJ (X : Cx) (W : WX) (fx : List (Nat × Md)) (ms : List Md) (st : Stmt) (msN msL : List Md) (r : Md) (f : FS) : Prop := PS X st (semS X.K W fx ms msN msL r f)
def BJ (X : Cx) (W : WX) (fx : List (Nat × Md)) (ms : List Md) (st : List Stmt) (msN msL : List Md) (r : Md) (f : FS) : Prop := PSs X st (semS X.K W fx ms msN msL r f)

/-- what a context must have -/
structure Kok (X : Cx) (W : WX) : Prop where
  hu : X.A.units + 70 < cLine
  tk : L2N.Takes X W
  po : PassesOwn (model X.prog X.w) X.A X.env X.xe
  nd : X.N.Nodup
  gd : X.A.guards = some []
/-- .. in a calm place -/
structure Cok (X : Cx) (W : WX) : Prop extends Kok X W where
  calm : X.calm = true

section
variable {X : Cx} {W : WX} {fx : List (Nat × Md)} {ms ms1 ms2 ms3 msL msN : List Md} {e c : Expr} {es : List Expr} {st : Stmt} {rest a b : List Stmt} {r : Md} {pos : Pos}
theorem PS.weak {t u : TS} (h : PS X st t) (k : ∀ D σ H, u D σ H → t D σ H) : PS X st u := ⟨fun pins s σ H D I q => h.run pins s σ H D I (k D σ H q)⟩
theorem PSs.weak {sts : List Stmt} {t u : TS} (h : PSs X sts t) (k : ∀ D σ H, u D σ H → t D σ H) : PSs X sts u := ⟨fun pins s σ H D I q => h.run pins s σ H D I (k D σ H q)⟩
/-- from an expression to a statement's end -/
theorem Wants.expr {α β : Type} {K : PySem.W.Frag} {Rel : Hp → Hp → α → β → List Addr → Prop} {t : St → Hp → (β → Hp → Prop) → Prop} {f : Env → Out α} {g : α → Env → SOut} {env : Env} {σ : St} {G H : Hp} {own : List Addr} {D : Ends} {Q : β → Hp → Prop}
    (h : RJ K W fx (fun _ => True) ms ms1 Rel t f) (s : SR K ms env σ G H own) (w : Wants K W fx msN msL r σ G H own ((f env).bindS g) D)
    (k : ∀ x env1, f env = .ok x env1 → ∀ y G1 H1 own1 as, SR K ms1 env1 σ G1 H1 own1 → Rel G1 H1 x y as → (as ++ own1).Nodup → Step G H own G1 H1 (as ++ own1) → Q y H1) : t σ H Q := by
  refine h env σ G H own trivial s (fun e => w.ns (by rw [e]; rfl)) Q k fun x env' e msR cls d G' H' own' fo s' er stp => ?_
  exact w.ex x env' (by rw [e]; rfl) msR σ cls d G' H' own' fo s' (.refl σ) er stp

theorem BJ.nil : BJ X W fx ms [] ms msL r (fun env => .nxt env) := PSs.weak pss_nil fun D σ H ⟨env, G, own, s, w⟩ => w.nx env rfl σ G H own s (.refl σ) (.refl fun _ h => h)
theorem BJ.cons {f g : FS} (h : SJ X W fx ms st ms1 msL r f) (k : BJ X W fx ms1 rest ms2 msL r g) : BJ X W fx ms (st :: rest) ms2 msL r (fun env => (f env).seq g) := by
  refine PSs.weak (pss_cons h k) fun D σ H ⟨env, G, own, s, w⟩ => ⟨env, G, own, s, ?_⟩
  refine ⟨fun e => w.ns (by show SOut.seq _ g = _; rw [e]; rfl), fun env' e σ' G' H' own' s' fs stp => ⟨env', G', own', s', ?_⟩, fun env' e => w.bk env' (by show SOut.seq _ g = _; rw [e]; rfl), fun env' e => w.ct env' (by show SOut.seq _ g = _; rw [e]; rfl),
    fun v env' e => w.rt v env' (by show SOut.seq _ g = _; rw [e]; rfl), fun x env' e => w.ex x env' (by show SOut.seq _ g = _; rw [e]; rfl)⟩
  have e2 : (f env).seq g = g env' := by rw [e]; rfl
  exact (w.eq e2).after stp fs
theorem BJ.one {f : FS} (h : SJ X W fx ms st ms1 msL r f) : BJ X W fx ms [st] ms1 msL r f := pss_one h
theorem SJ.pass : SJ X W fx ms (.Pass pos) ms msL r (fun env => .nxt env) := PS.weak ps_pass fun D σ H ⟨env, G, own, s, w⟩ => w.nx env rfl σ G H own s (.refl σ) (.refl fun _ h => h)
theorem SJ.brk : SJ X W fx ms (.Break pos) ms1 ms r (fun env => .brk env) := PS.weak ps_break fun D σ H ⟨env, G, own, s, w⟩ => w.bk env rfl σ G H own s (.refl σ) (.refl fun _ h => h)
theorem SJ.cnt : SJ X W fx ms (.Continue pos) ms1 ms r (fun env => .cnt env) := PS.weak ps_continue fun D σ H ⟨env, G, own, s, w⟩ => w.ct env rfl σ G H own s (.refl σ) (.refl fun _ h => h)
/-- a statement that is never come to -/
theorem SJ.never : SJ X W fx ms st ms1 msL r (fun _ => .stk) := PS.weak ps_never fun D σ H ⟨env, G, own, s, w⟩ => w.ns rfl
def sEx (f : FE) : FS := fun env => (f env).bindS fun _ env => .nxt env
theorem SJ.expr {f : FE} {md : Md} (h : EJ X W fx ms e md ms1 f) (hs : swapsWith e none pos.line X.env = pure false := by rfl) : SJ X W fx ms (.Expr e pos) ms1 msL r (sEx f) := by
  obtain ⟨t, p, rj⟩ := h
  refine PS.weak (ps_expr p hs) fun D σ H ⟨env, G, own, s, w⟩ => Wants.expr rj s w fun x env1 e1 y G1 H1 own1 as s1 rel nd stp => ?_
  exact w.nx env1 (by show Out.bindS _ _ = _; rw [e1]; rfl) σ G1 H1 own1 s1 (.refl σ) (stp.own fun x hx => List.mem_append_right _ hx)
def sRet (f : FE) : FS := fun env => (f env).bindS fun v env => .ret v env
theorem SJ.ret {f : FE} (h : EJ X W fx ms e r ms1 f) (fo : FxOk fx ms1) : SJ X W fx ms (.Return (some e) pos) ms2 msL r (sRet f) := by
  obtain ⟨t, p, rj⟩ := h
  refine PS.weak (ps_ret p) fun D σ H ⟨env, G, own, s, w⟩ => Wants.expr rj s w fun x env1 e1 y G1 H1 own1 as s1 rel nd stp => ?_
  exact w.rt x env1 (by show Out.bindS _ _ = _; rw [e1]; rfl) y ms1 σ G1 H1 own1 as fo s1 (.refl σ) rel nd stp
def sIf (c : FT) (a b : FS) : FS := fun env => (c env).bindS fun x env => if x = true then a env else b env
theorem SJ.if {f : FT} {g k : FS} (hc : TJ X W fx ms c ms1 f) (ha : BJ X W fx ms1 a ms2 msL r g) (hb : BJ X W fx ms1 b ms2 msL r k) : SJ X W fx ms (.If c a b pos) ms2 msL r (sIf f g k) := by
  obtain ⟨t, p, rj⟩ := hc
  refine PS.weak (ps_if p ha hb) fun D σ H ⟨env, G, own, s, w⟩ => Wants.expr rj s w fun x env1 e1 y G1 H1 own1 as s1 rel nd stp => ?_
  obtain ⟨rfl, rfl⟩ := rel
  have e2 : sIf f g k env = if x = true then g env1 else k env1 := by show Out.bindS _ _ = _; rw [e1]; rfl
  have w1 := (w.eq e2).after (σ1 := σ) (stp.own fun x hx => List.mem_append_right _ hx) (.refl σ)
  cases x with
  | true => exact ⟨env1, G1, own1, s1, w1⟩
  | false => exact ⟨env1, G1, own1, s1, w1⟩

/-! ### targets: frozen values -/
/-- but for the slots at tv all is as it was -/
def OutOf (tv : List Nat) (σ σ' : St) : Prop := σ'.length = σ.length ∧ ∀ i, i ∉ tv → σ'[i]? = σ[i]?
theorem OutOf.refl {tv : List Nat} (σ : St) : OutOf tv σ σ := ⟨rfl, fun _ _ => rfl⟩
theorem OutOf.trans {tv tv' : List Nat} {a b c : St} (h : OutOf tv a b) (k : OutOf tv' b c) : OutOf (tv ++ tv') a c := ⟨k.1.trans h.1, fun i hi => (k.2 i fun z => hi (List.mem_append_right _ z)).trans (h.2 i fun z => hi (List.mem_append_left _ z))⟩
/-- the owned parameters are none of them -/
def noFx (fx : List (Nat × Md)) (tv : List Nat) : Bool := fx.all fun p => !tv.contains p.1
theorem OutOf.fxs {tv : List Nat} {fx' : List (Nat × Md)} {σ σ' : St} (h : OutOf tv σ σ') (n : noFx fx' tv = true) : FxS fx' σ σ' := ⟨h.1, fun p hp => h.2 p.1 fun z => by
  have q := List.all_eq_true.mp n p hp
  simp only [Bool.not_eq_true', List.contains_eq_mem, decide_eq_false_iff_not] at q
  exact q z⟩
def GJ (X : Cx) (tv : List Nat) (ms : List Md) (tg : Expr) (ms' : List Md) (g : T → Env → Option Env) : Prop :=
  ∃ t : TG, PG X tg t ∧ ∀ x v env σ G H own env', SR X.K ms env σ G H own → Tr X.K G x v → g x env = some env' → ∀ Q : St → Hp → Prop,
    (∀ σ' own', SR X.K ms' env' σ' G H own' → OutOf tv σ σ' → (∀ x ∈ own', x ∈ own) → Q σ' H) → t v σ H Q
def GsJ (X : Cx) (tv : List Nat) (ms : List Md) (ts : List Expr) (ms' : List Md) (g : List T → Env → Option Env) : Prop :=
  ∃ t : TGs, PGs X ts t ∧ ∀ xs vs env σ G H own env', SR X.K ms env σ G H own → TrL X.K G xs vs → g xs env = some env' → ∀ Q : St → Hp → Prop,
    (∀ σ' own', SR X.K ms' env' σ' G H own' → OutOf tv σ σ' → (∀ x ∈ own', x ∈ own) → Q σ' H) → t vs σ H Q
def gNm (i : Nat) (x : T) (env : Env) : Option Env := if i < env.length then some (env.set i (some x)) else none
/-- a slot set anew -/
theorem SR.set {K : PySem.W.Frag} {G H : Hp} {env : Env} {σ : St} {own as : List Addr} {i : Nat} {m' : Md} {x : T} {v : V} (s : SR K ms env σ G H own) (hi : i < env.length) (h : OwR K G H m' x v as) (nd : (as ++ own).Nodup) :
    ∃ own', SR K (ms.set i m') (env.set i (some x)) (σ.set i (some v)) G H own' ∧ ∀ y ∈ own', y ∈ as ++ own := by
  obtain ⟨l1, l2⟩ := s.sl.lens
  obtain ⟨m, hm⟩ : ∃ m, ms[i]? = some m := ⟨ms[i]'(by omega), by simp [l1, hi]⟩
  obtain ⟨so, a0, bs, e1, sl, pm, k⟩ := s.sl.split hm (List.getElem?_eq_getElem hi)
  have hb : ∀ y ∈ bs, y ∈ own := fun y hy => pm.symm.subset (List.mem_append_right _ hy)
  obtain ⟨own', sl', pm'⟩ := k G H m' (some x) (some v) as (fun _ _ h => h) (fun y hy => ⟨rfl, (s.sl.at y (hb y hy)).1⟩) ⟨v, rfl, h⟩
  refine ⟨own', ⟨sl', pm'.nodup_iff.mpr ?_, s.sub⟩, fun y hy => ?_⟩
  · have q : (as ++ (a0 ++ bs)).Nodup := (List.Perm.append_left as pm).nodup_iff.mp nd
    rw [List.nodup_append] at q ⊢
    exact ⟨q.1, (List.nodup_append.mp q.2.1).2.1, fun y hy z hz => q.2.2 y hy z (List.mem_append_right _ hz)⟩
  · rcases List.mem_append.mp (pm'.subset hy) with z | z
    · exact List.mem_append_left _ z
    · exact List.mem_append_right _ (hb y z)
theorem OutOf.set {σ : St} {i : Nat} {o : Option V} : OutOf [i] σ (σ.set i o) := ⟨List.length_set, fun j hj => by rw [List.getElem?_set_ne fun z => hj (by rw [z]; exact List.mem_cons_self)]⟩
theorem GJ.name {i : Nat} {x : Str} (hN : X.N.Nodup) (hi : X.N[i]? = some x := by rfl) (hx : Loc X.env.scope x := by first | exact Or.inl rfl | exact Or.inr rfl) (hf : X.fn x = true ∨ X.env.scope.names.lookup x = some .local := by first | exact .inl rfl | exact .inr rfl | assumption) :
    GJ X [i] ms (.Name x pos) (ms.set i .frz) (gNm i) := by
  refine ⟨_, pg_name hN hi hx hf, fun y v env σ G H own env' s h e Q q => ?_⟩
  unfold gNm at e
  split at e <;> cases e
  obtain ⟨own', s', sub⟩ := s.set (by assumption) (.frz h) (by simpa using s.nd)
  exact q _ own' s' .set fun y hy => by simpa using sub y hy
theorem GsJ.nil : GsJ X [] ms [] ms (fun xs env => match xs with | [] => some env | _ => none) := by
  refine ⟨_, pgs_nil, fun xs vs env σ G H own env' s h e Q q => ?_⟩
  cases h with
  | nil => cases e; exact ⟨rfl, q σ own s (.refl σ) fun _ h => h⟩
  | cons => cases e
def gCo (g : T → Env → Option Env) (gs : List T → Env → Option Env) (xs : List T) (env : Env) : Option Env := match xs with
  | x :: xs => (g x env).bind (gs xs)
  | _ => none
theorem GsJ.cons {tv tv2 : List Nat} {g : T → Env → Option Env} {gs : List T → Env → Option Env} (h : GJ X tv ms e ms1 g) (k : GsJ X tv2 ms1 es ms2 gs) (hs : (assignEach (e :: es) X.env).map (·.2) = assign e X.env :: (assignEach es X.env).map (·.2) := by rfl) : GsJ X (tv ++ tv2) ms (e :: es) ms2 (gCo g gs) := by
  obtain ⟨t, p, q1⟩ := h
  obtain ⟨t2, p2, q2⟩ := k
  refine ⟨_, pgs_cons p p2 hs, fun xs vs env σ G H own env' s h e Q q => ?_⟩
  cases h with
  | nil => cases e
  | cons hx hr =>
    simp only [gCo] at e
    cases e1 : g _ env with
    | none => rw [e1] at e; cases e
    | some env1 =>
      rw [e1] at e
      refine ⟨_, _, rfl, q1 _ _ env σ G H own env1 s hx e1 _ fun σ1 own1 s1 f1 sb1 => ?_⟩
      exact q2 _ _ env1 σ1 G H own1 env' s1 hr e Q fun σ2 own2 s2 f2 sb2 => q σ2 own2 s2 (f1.trans f2) fun y hy => sb1 y (sb2 y hy)
def gTu (gs : List T → Env → Option Env) (n : Nat) (x : T) (env : Env) : Option Env := match x with
  | .tup xs => if xs.length = n then gs xs env else none
  | _ => none
theorem GJ.tup {tv : List Nat} {n k : Nat} {gs : List T → Env → Option Env} (hc : X.calm = true) (h : GsJ X tv ms es ms1 gs) (hn : (assignEach es X.env).length = n := by rfl) (hst : (assignEach es X.env).findIdx? (·.1) = none := by rfl) : GJ X tv ms (.Tuple es k pos) ms1 (gTu gs n) := by
  obtain ⟨t, p, q1⟩ := h
  refine ⟨_, pg_tup hc p hn hst, fun x v env σ G H own env' s h e Q q => ?_⟩
  cases h <;> simp only [gTu] at e <;> try cases e
  rename_i hq hr
  split at e
  · rename_i hl
    exact ⟨_, _, rfl, SqT.sub s.sub hq, by rw [← hr.length]; exact hl, q1 _ _ env σ G H own env' s hr e Q q⟩
  · cases e
def gLi (gs : List T → Env → Option Env) (n : Nat) (x : T) (env : Env) : Option Env := match x with
  | .lst xs => if xs.length = n then gs xs env else none
  | _ => none
theorem GJ.lst {tv : List Nat} {n k : Nat} {gs : List T → Env → Option Env} (hc : X.calm = true) (h : GsJ X tv ms es ms1 gs) (hn : (assignEach es X.env).length = n := by rfl) (hst : (assignEach es X.env).findIdx? (·.1) = none := by rfl) : GJ X tv ms (.Tuple es k pos) ms1 (gLi gs n) := by
  obtain ⟨t, p, q1⟩ := h
  refine ⟨_, pg_lst hc p hn hst, fun x v env σ G H own env' s h e Q q => ?_⟩
  cases h <;> simp only [gLi] at e <;> try cases e
  rename_i hq hr
  split at e
  · rename_i hl
    exact ⟨_, _, rfl, .of (s.sub _ _ hq), by rw [← hr.length]; exact hl, q1 _ _ env σ G H own env' s hr e Q q⟩
  · cases e
def optS (o : Option Env) : SOut := match o with
  | some env => .nxt env
  | none => .stk
def sAsg (f : FE) (g : T → Env → Option Env) : FS := fun env => (f env).bindS fun x env => optS (g x env)
/-- target = frozen value -/
theorem SJ.asg {tv : List Nat} {f : FE} {g : T → Env → Option Env} {tg : Expr} (he : EF X W fx ms e ms1 f) (hg : GJ X tv ms1 tg ms2 g) (nf : noFx fx tv = true := by rfl) (hs : swapsWithSole [tg] e pos.line X.env = pure false := by rfl) (hw : swappedStores [tg] e X.env = pure none := by rfl)
    (h1 : (assignEach [tg] X.env).map (·.2) = [assign tg X.env] := by rfl) : SJ X W fx ms (.Assign [tg] e pos) ms2 msL r (sAsg f g) := by
  obtain ⟨t, p, rj⟩ := he
  obtain ⟨t2, p2, q2⟩ := hg
  refine PS.weak (ps_asg p p2 hs hw h1) fun D σ H ⟨env, G, own, s, w⟩ => Wants.expr rj s w fun x env1 e1 y G1 H1 own1 as s1 rel nd stp => ?_
  obtain ⟨rel, rfl⟩ := rel
  have e2 : sAsg f g env = optS (g x env1) := by show Out.bindS _ _ = _; rw [e1]; rfl
  cases e3 : g x env1 with
  | none => exact absurd (by rw [e2, e3]; rfl) w.ns
  | some env2 =>
    refine q2 x y env1 σ G1 H1 own1 env2 s1 rel e3 _ fun σ2 own2 s2 f2 sb => ?_
    exact w.nx env2 (by rw [e2, e3]; rfl) σ2 G1 H1 own2 s2 (f2.fxs nf) (stp.own sb)
/-- name = value, held as md -/
def sSet (i : Nat) (f : FE) : FS := fun env => (f env).bindS fun x env => if i < env.length then .nxt (env.set i (some x)) else .stk
theorem SJ.set {f : FE} {md : Md} {i : Nat} {x : Str} {pos' : Pos} (hN : X.N.Nodup) (he : EJ X W fx ms e md ms1 f) (nf : noFx fx [i] = true := by rfl) (hi : X.N[i]? = some x := by rfl) (hx : Loc X.env.scope x := by first | exact Or.inl rfl | exact Or.inr rfl) (hs : swapsWith e (some (.Name x pos')) pos.line X.env = pure false := by rfl)
    (hf : X.fn x = true ∨ X.env.scope.names.lookup x = some .local := by first | exact .inl rfl | exact .inr rfl | assumption) : SJ X W fx ms (.Assign [.Name x pos'] e pos) (ms1.set i md) msL r (sSet i f) := by
  obtain ⟨t, p, rj⟩ := he
  refine PS.weak (ps_set hN hi hx p hs hf) fun D σ H ⟨env, G, own, s, w⟩ => Wants.expr rj s w fun y env1 e1 v G1 H1 own1 as s1 rel nd stp => ?_
  have e2 : sSet i f env = if i < env1.length then .nxt (env1.set i (some y)) else .stk := by show Out.bindS _ _ = _; rw [e1]; rfl
  by_cases hl : i < env1.length
  · obtain ⟨own', s', sub⟩ := s1.set hl rel nd
    exact w.nx _ (by rw [e2, if_pos hl]) _ G1 H1 own' s' (OutOf.set.fxs nf) (stp.own sub)
  · exact absurd (by rw [e2, if_neg hl]) w.ns
end
end VS
-- VLoop
set_option Elab.async false
set_option linter.all false
set_option maxRecDepth 100000
/-! VLoop: what is walked, for, while, list comprehensions. -/
namespace VS
open PySem L2

/-- the walk J yields these items, whatever is made meanwhile -/
def Wk (K : PySem.W.Frag) (J : It) (items : List T) (G0 : Hp) : Prop := ∀ G H : Hp, (∀ a o, G0 a = some o → G a = some o) → (∀ a o, G a = some o → H a = some o) →
  (∀ i t, items[i]? = some t → J.go i H ∧ ∀ x H', J.yld i H x H' → ∃ G', Step G H [] G' H' [] ∧ (∀ a o, G' a = some o → H' a = some o) ∧ Tr K G' t x) ∧ J.stop items.length H
def IJ (X : Cx) (W : WX) (fx : List (Nat × Md)) (ms : List Md) (tg e : Expr) (ms' : List Md) (f : FA) : Prop :=
  ∃ wi : TI, PI X tg e wi ∧ ∀ (env : Env) (σ : St) (G H : Hp) (own : List Addr), SR X.K ms env σ G H own → f env ≠ .stk → ∀ R : It → Hp → Prop,
    (∀ items env', f env = .ok items env' → ∀ J G' H' own', SR X.K ms' env' σ G' H' own' → Wk X.K J items G' → Step G H own G' H' own' → R J H') →
    (∀ x env', f env = .exc x env' → ∀ msR cls d G' H' own', FxOk fx msR → SR X.K msR env' σ G' H' own' → ExR X.K G' H' x cls d → Step G H own G' H' own' → W cls d σ H') → wi σ H R
theorem PI.or {X : Cx} {tg e : Expr} {a b : TI} (h : PI X tg e a) (k : PI X tg e b) : PI X tg e (fun σ H R => a σ H R ∨ b σ H R) := ⟨fun pins s σ H R I q => by
  rcases q with q | q
  · exact h.run pins s σ H R I q
  · exact k.run pins s σ H R I q⟩
def seqO : T → Option (List T)
  | .tup xs => some xs
  | .lst xs => some xs
  | .str z => some (z.cps.toList.map fun c => .str ⟨#[c]⟩)
  | _ => none
def optL (o : Option (List T)) : Env → Out (List T) := fun env => match o with
  | some c => .ok c env
  | none => .stk
def iSeq (f : FE) : FA := fun env => (f env).bind fun x => optL (seqO x)
section
variable {X : Cx} {W : WX} {fx : List (Nat × Md)} {ms ms1 ms2 ms3 msL msN : List Md} {e c tg iter elt : Expr} {es : List Expr} {body : List Stmt} {r : Md} {pos : Pos}
theorem SqT.K_mono {K : PySem.W.Frag} {G H : Hp} {a : Addr} {xs : List V} (sub : ∀ a o, G a = some o → H a = some o) (h : SqT K G a xs) : SqT K H a xs := SqT.mono sub h
theorem wk_list {K : PySem.W.Frag} {G0 : Hp} {a : Addr} {ts : List T} {vs : List V} (h : G0 a = some (.lst vs)) (r : TrL K G0 ts vs) : Wk K (Itl K a) ts G0 := fun G H g sub => by
  have hq : SqL K H a vs := .of (sub _ _ (g _ _ h))
  refine ⟨fun i t e => ?_, ⟨vs, hq, by rw [r.length]; exact Nat.le_refl _⟩⟩
  obtain ⟨v, e1, h1⟩ := r.get e
  refine ⟨⟨vs, v, hq, e1⟩, fun x H' y => ?_⟩
  obtain ⟨rfl, y⟩ := y
  have e2 := y vs hq
  rw [e1] at e2
  cases e2
  exact ⟨G, .refl fun _ h => h, sub, h1.mono g⟩
theorem wk_tup {K : PySem.W.Frag} {G0 : Hp} {a : Addr} {ts : List T} {vs : List V} (h : SqT K G0 a vs) (r : TrL K G0 ts vs) : Wk K (Itt K a) ts G0 := fun G H g sub => by
  have hq : SqT K H a vs := SqT.mono sub (SqT.mono g h)
  refine ⟨fun i t e => ?_, ⟨vs, hq, by rw [r.length]; exact Nat.le_refl _⟩⟩
  obtain ⟨v, e1, h1⟩ := r.get e
  refine ⟨⟨vs, v, hq, e1⟩, fun x H' y => ?_⟩
  obtain ⟨rfl, y⟩ := y
  have e2 := y vs hq
  rw [e1] at e2
  cases e2
  exact ⟨G, .refl fun _ h => h, sub, h1.mono g⟩
theorem wk_str {K : PySem.W.Frag} {G0 : Hp} {z : Str} : Wk K (Its z) (z.cps.toList.map fun c => .str ⟨#[c]⟩) G0 := fun G H g sub => by
  have w := walk_str (z := z)
  refine ⟨fun i t e => ?_, ?_⟩
  · rw [List.getElem?_map] at e
    cases e1 : z.cps.toList[i]? with
    | none => rw [e1] at e; cases e
    | some d =>
      rw [e1] at e
      cases e
      have hi : i < z.cps.size := by simpa using (List.getElem?_eq_some_iff.mp e1).1
      refine ⟨w.goes i H hi trivial, fun x H' y => ?_⟩
      obtain ⟨rfl, d', e2, rfl⟩ := w.yields i H x H' hi trivial y
      have e3 : z.cps[i]? = some d := by rw [← Array.getElem?_toList]; exact e1
      rw [e3] at e2
      cases e2
      exact ⟨G, .refl fun _ h => h, sub, .str _⟩
  · rw [List.length_map, Array.length_toList]
    exact w.stops H trivial
/-- a list, a tuple, a text -/
theorem IJ.seq {f : FE} (h : EF X W fx ms e ms1 f) : IJ X W fx ms tg e ms1 (iSeq f) := by
  obtain ⟨t, p, rj⟩ := h
  refine ⟨_, PI.or (pi_list p) (PI.or (pi_tup p) (pi_str p)), fun env σ G H own s ns R hok hex => ?_⟩
  cases ef : f env with
  | stk => exact absurd (by show (f env).bind _ = _; rw [ef]; rfl) ns
  | exc x env' =>
    refine .inl (rj env σ G H own trivial s (by rw [ef]; intro z; cases z) _ (fun a env1 e1 => by rw [ef] at e1; cases e1) fun x' env2 e2 => hex x' env2 ?_)
    rw [ef] at e2
    cases e2
    show (f env).bind _ = _
    rw [ef]; rfl
  | ok v env1 =>
    have ev : iSeq f env = optL (seqO v) env1 := by show (f env).bind _ = _; rw [ef]; rfl
    cases es : seqO v with
    | none => exact absurd (by rw [ev, es]; rfl) ns
    | some items =>
      have ev2 : iSeq f env = .ok items env1 := by rw [ev, es]; rfl
      have go : ∀ Q : V → Hp → Prop, (∀ b G' H' own' as, SR X.K ms1 env1 σ G' H' own' → Fz (Tr X.K) G' H' v b as → (as ++ own').Nodup → Step G H own G' H' (as ++ own') → Q b H') → t σ H Q := fun Q q =>
        rj env σ G H own trivial s (by rw [ef]; intro z; cases z) Q (fun a env2 e2 => by rw [ef] at e2; cases e2; exact q) fun x env2 e2 => by rw [ef] at e2; cases e2
      cases v <;> simp only [seqO] at es <;> cases es
      · rename_i z
        refine .inr (.inr (go _ fun b G' H' own' as s1 rel nd stp => ?_))
        obtain ⟨rel, rfl⟩ := rel
        cases rel
        exact ⟨z, rfl, hok _ env1 ev2 _ G' H' own' s1 wk_str stp⟩
      · refine .inr (.inl (go _ fun b G' H' own' as s1 rel nd stp => ?_))
        obtain ⟨rel, rfl⟩ := rel
        cases rel with | tup h r =>
        exact ⟨_, rfl, ⟨_, SqT.sub s1.sub h⟩, hok _ env1 ev2 _ G' H' own' s1 (wk_tup h r) stp⟩
      · refine .inl (go _ fun b G' H' own' as s1 rel nd stp => ?_)
        obtain ⟨rel, rfl⟩ := rel
        cases rel with | lst h r =>
        exact ⟨_, rfl, ⟨_, .of (s1.sub _ _ h)⟩, hok _ env1 ev2 _ G' H' own' s1 (wk_list h r) stp⟩
/-- range(n), range(a, b) -/
def rgL (lo : Int) (n : Nat) : List T := (List.range n).map fun i => .int (lo + (i : Nat))
def rg1O : List T → Option (List T)
  | [.int j] => if -(2 ^ 62) ≤ j ∧ j < 2 ^ 62 then some (rgL 0 j.toNat) else none
  | _ => none
def rg2O : List T → Option (List T)
  | [.int i, .int j] => if -(2 ^ 62) ≤ i ∧ i < 2 ^ 62 ∧ -(2 ^ 62) ≤ j ∧ j < 2 ^ 62 then some (rgL i (j - i).toNat) else none
  | _ => none
theorem wk_range {K : PySem.W.Frag} {G0 : Hp} {lo : Int} {n : Nat} : Wk K (Itr lo n) (rgL lo n) G0 := fun G H g sub => by
  have hl : (rgL lo n).length = n := by simp [rgL]
  refine ⟨fun i t e => ?_, by rw [hl]; exact Nat.le_refl _⟩
  have hi : i < n := by rw [← hl]; exact (List.getElem?_eq_some_iff.mp e).1
  refine ⟨hi, fun x H' y => ?_⟩
  obtain ⟨rfl, rfl⟩ := y
  refine ⟨G, .refl fun _ h => h, sub, ?_⟩
  have e2 : t = .int (lo + (i : Nat)) := by
    unfold rgL at e
    rw [List.getElem?_map, List.getElem?_range hi] at e
    cases e
    rfl
  subst e2
  exact .int _
def iOpt (s : List T → Option (List T)) (f : FA) : FA := fun env => (f env).bind fun x => optL (s x)
theorem IJ.of {f : FA} {s : List T → Option (List T)} {wi : TI} {t : TA} (p : PI X tg e wi) (rj : RJ X.K W fx (fun _ => True) ms ms1 (Fz (TrL X.K)) t f)
    (k : ∀ (σ : St) (H : Hp) (R : It → Hp → Prop) (xs : List T) (items : List T), s xs = some items → t σ H (fun vs H1 => ∃ G1, TrL X.K G1 xs vs ∧ (∀ a o, G1 a = some o → H1 a = some o) ∧ ∀ J, Wk X.K J items G1 → R J H1) → wi σ H R)
    (kx : ∀ (σ : St) (H : Hp) (R : It → Hp → Prop), t σ H (fun _ _ => False) → wi σ H R) : IJ X W fx ms tg e ms1 (iOpt s f) := by
  refine ⟨wi, p, fun env σ G H own s' ns R hok hex => ?_⟩
  cases ef : f env with
  | stk => exact absurd (by show (f env).bind _ = _; rw [ef]; rfl) ns
  | exc x env' =>
    refine kx σ H R (rj env σ G H own trivial s' (by rw [ef]; intro z; cases z) _ (fun a env1 e1 => by rw [ef] at e1; cases e1) fun x' env2 e2 => hex x' env2 ?_)
    rw [ef] at e2
    cases e2
    show (f env).bind _ = _
    rw [ef]; rfl
  | ok xs env1 =>
    have ev : iOpt s f env = optL (s xs) env1 := by show (f env).bind _ = _; rw [ef]; rfl
    cases es : s xs with
    | none => exact absurd (by rw [ev, es]; rfl) ns
    | some items =>
      have ev2 : iOpt s f env = .ok items env1 := by rw [ev, es]; rfl
      refine k σ H R xs items es (rj env σ G H own trivial s' (by rw [ef]; intro z; cases z) _ (fun a env2 e2 => ?_) fun x env2 e2 => by rw [ef] at e2; cases e2)
      rw [ef] at e2
      cases e2
      intro b G' H' own' as s1 rel nd stp
      obtain ⟨rel, rfl⟩ := rel
      exact ⟨G', rel, s1.sub, fun J wk => hok items env1 ev2 J G' H' own' s1 wk stp⟩
theorem semR.mono {α β : Type} {K : PySem.W.Frag} {P : Hp → Prop} {Rel : Hp → Hp → α → β → List Addr → Prop} {f : Env → Out α} {σ : St} {H : Hp} {Q Q' : β → Hp → Prop} (h : ∀ v H, Q v H → Q' v H) (q : semR K W fx P ms ms1 Rel f σ H Q) : semR K W fx P ms ms1 Rel f σ H Q' := by
  obtain ⟨env, G, own, p, s, ns, ho, hx⟩ := q
  exact ⟨env, G, own, p, s, ns, fun a env' e b G' H' own' as s' rel nd st => h _ _ (ho a env' e b G' H' own' as s' rel nd st), hx⟩
theorem AJ.sem {f : FA} (h : AJ X W fx ms es ms1 f) : PA X es (semR X.K W fx (fun _ => True) ms ms1 (Fz (TrL X.K)) f) := by
  obtain ⟨t, p, rj⟩ := h
  exact ⟨fun pos pins s σ H Q I ⟨env, G, own, pg, sr, ns, ho, hx⟩ => p.run pos pins s σ H Q I (rj env σ G H own pg sr ns Q ho hx)⟩
theorem IJ.range1 {a : Expr} {p : Pos} {f : FA} (hg : Gl X "range") (hm : X.mg "range" = none) (ha : AJ X W fx ms [a] ms1 f) (hs : starEach [a] X.env = [(false, eval a X.env)] := by rfl) : IJ X W fx ms tg (.Call (.Name "range" p) [a] [] pos) ms1 (iOpt rg1O f) := by
  refine IJ.of (pi_range1 hg hm ha.sem hs) RJ.sem (fun σ H R xs items e h => semR.mono (fun vs H1 q => ?_) h) fun σ H R h => semR.mono (fun _ _ z => z.elim) h
  obtain ⟨G1, r, sub, q⟩ := q
  match xs, r, e with
  | [.int j], r, e =>
    simp only [rg1O] at e
    split at e <;> cases e
    rename_i hj
    obtain ⟨u, rfl, h9⟩ := r.one
    cases h9
    exact ⟨j, rfl, hj.1, hj.2, q _ wk_range⟩
theorem IJ.range2 {a b : Expr} {p : Pos} {f : FA} (hg : Gl X "range") (hm : X.mg "range" = none) (ha : AJ X W fx ms [a, b] ms1 f) (hs : starEach [a, b] X.env = [(false, eval a X.env), (false, eval b X.env)] := by rfl) (hs2 : starEach [b] X.env = [(false, eval b X.env)] := by rfl) :
    IJ X W fx ms tg (.Call (.Name "range" p) [a, b] [] pos) ms1 (iOpt rg2O f) := by
  refine IJ.of (pi_range2 hg hm ha.sem hs hs2) RJ.sem (fun σ H R xs items e h => semR.mono (fun vs H1 q => ?_) h) fun σ H R h => semR.mono (fun _ _ z => z.elim) h
  obtain ⟨G1, r, sub, q⟩ := q
  match xs, r, e with
  | [.int i, .int j], r, e =>
    simp only [rg2O] at e
    split at e <;> cases e
    rename_i hj
    obtain ⟨u, v, rfl, h9, h8⟩ := r.two
    cases h9; cases h8
    exact ⟨i, j, rfl, hj, q _ wk_range⟩

/-! ### for -/
def forL : List T → (T → Env → SOut) → Env → SOut
  | [], _, env => .nxt env
  | x :: xs, b, env => match b x env with
    | .nxt e => forL xs b e
    | .cnt e => forL xs b e
    | .brk e => .nxt e
    | .ret v e => .ret v e
    | .exc x e => .exc x e
    | .stk => .stk
def tgB (g : T → Env → Option Env) (b : FS) (x : T) (env : Env) : SOut := match g x env with
  | some env => b env
  | none => .stk
def sFor (f : FA) (g : T → Env → Option Env) (b : FS) : FS := fun env => (f env).bindS fun items env => forL items (tgB g b) env
theorem SJ.for {tv : List Nat} {f : FA} {g : T → Env → Option Env} {b : FS} (C : Cok X W) (hi : IJ X W fx ms tg iter ms1 f) (hg : GJ X tv ms1 tg ms2 g) (hb : BJ X W fx ms2 body ms1 ms1 r b) (nf : noFx fx tv = true := by rfl) (hs : ∀ x, foldedSetIterable iter X.env x = pure x := by intro _; rfl) :
    SJ X W fx ms (.For tg iter body [] pos) ms1 msL r (sFor f g b) := by
  obtain ⟨wi, p, hw⟩ := hi
  obtain ⟨t2, p2, q2⟩ := hg
  refine PS.weak (ps_for C.po C.calm p p2 hb hs) fun D σ H ⟨env, G, own, s, w⟩ => ?_
  refine hw env σ G H own s (fun e => w.ns (by show Out.bindS _ _ = _; rw [e]; rfl)) _ (fun items env1 e1 J G1 H1 own1 s1 wk stp => ?_) fun x env1 e1 msR cls d G1 H1 own1 fo s1 er stp => w.ex x env1 (by show Out.bindS _ _ = _; rw [e1]; rfl) msR σ cls d G1 H1 own1 fo s1 (.refl σ) er stp
  have e2 : sFor f g b env = forL items (tgB g b) env1 := by show Out.bindS _ _ = _; rw [e1]; rfl
  have w0 := (w.eq e2).after stp (.refl σ)
  refine ⟨fun i m σ' H' => m = items.length - i ∧ i ≤ items.length ∧ ∃ env' G' own', SR X.K ms1 env' σ' G' H' own' ∧ Step G1 H1 own1 G' H' own' ∧ Wants X.K W fx ms1 msL r σ' G' H' own' (forL (items.drop i) (tgB g b) env') D,
    ⟨items.length, rfl, Nat.zero_le _, env1, G1, own1, s1, .refl fun _ h => h, w0⟩, ?_⟩
  rintro i m σ' H' ⟨rfl, hi, env', G', own', s', st', w'⟩
  have hwk := wk G' H' st'.gm s'.sub
  by_cases hlt : i < items.length
  · obtain ⟨go, yl⟩ := hwk.1 i items[i] (by simp [hlt])
    refine .inr ⟨go, fun σ2 H2 => ∃ m', m' < items.length - i ∧ (m' = items.length - (i + 1) ∧ i + 1 ≤ items.length ∧ ∃ env' G' own', SR X.K ms1 env' σ2 G' H2 own' ∧ Step G1 H1 own1 G' H2 own' ∧ Wants X.K W fx ms1 msL r σ2 G' H2 own' (forL (items.drop (i + 1)) (tgB g b) env') D), fun σ2 H2 h => h, fun x H2 y => ?_⟩
    obtain ⟨G2, st2, sub2, tr⟩ := yl x H2 y
    have s2 : SR X.K ms1 env' σ' G2 H2 own' := s'.keep st2 sub2
    have st12 : Step G' H' own' G2 H2 own' := by simpa using st2.lift (own := own')
    rw [List.drop_eq_getElem_cons hlt] at w'
    cases eg : g items[i] env' with
    | none => exact absurd (by show forL (_ :: _) _ _ = _; simp only [forL, tgB, eg]) w'.ns
    | some env3 =>
      refine q2 _ x env' σ' G2 H2 own' env3 s2 tr eg _ fun σ3 own3 s3 f3 sb3 => ?_
      have st13 : Step G' H' own' G2 H2 own3 := st12.own sb3
      have w3 := w'.after st13 (f3.fxs nf)
      have ef : forL (items[i] :: items.drop (i + 1)) (tgB g b) env' = (match b env3 with
        | .nxt e => forL (items.drop (i + 1)) (tgB g b) e
        | .cnt e => forL (items.drop (i + 1)) (tgB g b) e
        | .brk e => .nxt e
        | .ret v e => .ret v e
        | .exc x e => .exc x e
        | .stk => .stk) := by simp only [forL, tgB, eg]
      have w4 := w3.eq ef
      refine ⟨env3, G2, own3, s3, ?_⟩
      have nxt : ∀ env5, forL (items[i] :: items.drop (i + 1)) (tgB g b) env' = forL (items.drop (i + 1)) (tgB g b) env5 → ∀ σ5 G5 H5 own5, SR X.K ms1 env5 σ5 G5 H5 own5 → FxS fx σ3 σ5 → Step G2 H2 own3 G5 H5 own5 →
          ∃ m', m' < items.length - i ∧ (m' = items.length - (i + 1) ∧ i + 1 ≤ items.length ∧ ∃ env' G' own', SR X.K ms1 env' σ5 G' H5 own' ∧ Step G1 H1 own1 G' H5 own' ∧ Wants X.K W fx ms1 msL r σ5 G' H5 own' (forL (items.drop (i + 1)) (tgB g b) env') D) :=
        fun env5 e5 σ5 G5 H5 own5 s5 f5 st5 => ⟨items.length - (i + 1), by omega, rfl, hlt, env5, G5, own5, s5, (st'.trans st13).trans st5, (w3.eq e5).after st5 f5⟩
      refine ⟨fun e => w4.ns (by rw [e]), fun env5 e5 σ5 G5 H5 own5 s5 f5 st5 => nxt env5 (by rw [ef, e5]) σ5 G5 H5 own5 s5 f5 st5, fun env5 e5 σ5 G5 H5 own5 s5 f5 st5 => w4.nx env5 (by rw [e5]) σ5 G5 H5 own5 s5 f5 st5, fun env5 e5 σ5 G5 H5 own5 s5 f5 st5 => nxt env5 (by rw [ef, e5]) σ5 G5 H5 own5 s5 f5 st5,
        fun v env5 e5 => w4.rt v env5 (by rw [e5]), fun x env5 e5 => w4.ex x env5 (by rw [e5])⟩
  · have e : i = items.length := by omega
    subst e
    rw [List.drop_length] at w'
    exact .inl ⟨hwk.2, w'.nx env' rfl σ' G' H' own' s' (.refl _) (.refl fun _ h => h)⟩

/-! ### while: at most so many turns -/
def whL : Nat → FT → FS → Env → SOut
  | 0, _, _, _ => .stk
  | n + 1, c, b, env => (c env).bindS fun x env => if x = true then (match b env with
    | .nxt e => whL n c b e
    | .cnt e => whL n c b e
    | .brk e => .nxt e
    | .ret v e => .ret v e
    | .exc x e => .exc x e
    | .stk => .stk) else .nxt env
theorem SJ.while {n : Nat} {f : FT} {b : FS} (C : Kok X W) (hc : TJ X W fx ms c ms f) (hb : BJ X W fx ms body ms ms r b) : SJ X W fx ms (.While c body [] pos) ms msL r (whL n f b) := by
  refine PS.weak (ps_while C.po hc.sem hb) fun D σ H ⟨env, G, own, s, w⟩ => ?_
  refine ⟨fun m σ' H' => ∃ env' G' own', SR X.K ms env' σ' G' H' own' ∧ Wants X.K W fx ms msL r σ' G' H' own' (whL m f b env') D, ⟨n, env, G, own, s, w⟩, ?_⟩
  rintro m σ' H' ⟨env', G', own', s', w'⟩
  cases m with
  | zero => exact absurd rfl w'.ns
  | succ m =>
    have el : whL (m + 1) f b env' = (f env').bindS fun x env => if x = true then (match b env with
      | .nxt e => whL m f b e
      | .cnt e => whL m f b e
      | .brk e => .nxt e
      | .ret v e => .ret v e
      | .exc x e => .exc x e
      | .stk => .stk) else .nxt env := rfl
    refine Wants.expr RJ.sem s' (w'.eq el) fun x env1 e1 y G1 H1 own1 as s1 rel nd stp => ?_
    obtain ⟨rfl, rfl⟩ := rel
    have e2 := el
    rw [e1] at e2
    have w1 := (w'.eq e2).after (σ1 := σ') (stp.own fun x hx => List.mem_append_right _ hx) (.refl _)
    cases x with
    | true =>
      rw [if_pos rfl]
      refine ⟨fun σ2 H2 => ∃ env' G' own', SR X.K ms env' σ2 G' H2 own' ∧ Wants X.K W fx ms msL r σ2 G' H2 own' (whL m f b env') D, fun σ2 H2 h => ⟨m, Nat.lt_succ_self m, h⟩, env1, G1, own1, s1, ?_⟩
      have w2 : Wants X.K W fx ms msL r σ' G1 H1 own1 (match b env1 with
        | .nxt e => whL m f b e
        | .cnt e => whL m f b e
        | .brk e => .nxt e
        | .ret v e => .ret v e
        | .exc x e => .exc x e
        | .stk => .stk) D := w1
      refine ⟨fun e => w2.ns (by rw [e]), fun env5 e5 σ5 G5 H5 own5 s5 f5 st5 => ⟨env5, G5, own5, s5, (w2.eq (by rw [e5])).after st5 f5⟩, fun env5 e5 => w2.nx env5 (by rw [e5]), fun env5 e5 σ5 G5 H5 own5 s5 f5 st5 => ⟨env5, G5, own5, s5, (w2.eq (by rw [e5])).after st5 f5⟩,
        fun v env5 e5 => w2.rt v env5 (by rw [e5]), fun x env5 e5 => w2.ex x env5 (by rw [e5])⟩
    | false =>
      rw [if_neg Bool.false_ne_true]
      exact w1.nx env1 rfl σ' G1 H1 own1 s1 (.refl _) (.refl fun _ h => h)
end
end VS
-- VFun
set_option Elab.async false
set_option linter.all false
set_option maxRecDepth 100000
/-! VFun: list comprehensions, defs: their promise by a function on trees, their calls. -/
namespace VS
open PySem L2

/-! ### list comprehensions -/
def wipeE (env : Env) : List Nat → Env
  | [] => env
  | v :: vs => (wipeE env vs).set v none
def restE (env1 : Env) : List Nat → Env → Env
  | [], env => env
  | v :: vs, env => restE env1 vs (env.set v (env1[v]?.getD none))
section
variable {K : PySem.W.Frag} {G H G' H' : Hp} {ms : List Md} {env env1 : Env} {σ : St} {own : List Addr}
theorem set_same {α : Type} {l : List α} {i : Nat} {x : α} (h : l[i]? = some x) : l.set i x = l := List.ext_getElem? fun j => by
  by_cases hj : i = j
  · subst hj; rw [List.getElem?_set_self (List.getElem?_eq_some_iff.mp h).1, h]
  · rw [List.getElem?_set_ne hj]
theorem SR.perm {own' : List Addr} (s : SR K ms env σ G H own) (sl : SL K G H ms env σ own') (p : own'.Perm own) : SR K ms env σ G H own' := ⟨sl, p.nodup_iff.mpr s.nd, s.sub⟩
/-- a slot forgotten -/
theorem SR.drop (s : SR K ms env σ G H own) (v : Nat) (so : Option V) : ∃ own', SR K ms (env.set v none) (σ.set v so) G H own' ∧ ∀ x ∈ own', x ∈ own := by
  by_cases hv : v < env.length
  · obtain ⟨l1, l2⟩ := s.sl.lens
    obtain ⟨m, hm⟩ : ∃ m, ms[v]? = some m := ⟨ms[v]'(by omega), by simp [l1, hv]⟩
    obtain ⟨s0, a0, bs, e1, sl, pm, k⟩ := s.sl.split hm (List.getElem?_eq_getElem hv)
    have hb : ∀ y ∈ bs, y ∈ own := fun y hy => pm.symm.subset (List.mem_append_right _ hy)
    obtain ⟨own', sl', pm'⟩ := k G H m none so [] (fun _ _ h => h) (fun y hy => ⟨rfl, (s.sl.at y (hb y hy)).1⟩) rfl
    rw [set_same hm] at sl'
    refine ⟨own', ⟨sl', pm'.nodup_iff.mpr ?_, s.sub⟩, fun y hy => hb y (by simpa using pm'.subset hy)⟩
    have q := pm.nodup_iff.mp s.nd
    simpa using (List.nodup_append.mp q).2.1
  · obtain ⟨l1, l2⟩ := s.sl.lens
    rw [List.set_eq_of_length_le (by omega), List.set_eq_of_length_le (by omega)]
    exact ⟨own, s, fun _ h => h⟩
theorem SR.wipe (s : SR K ms env σ G H own) : ∀ vs : List Nat, ∃ own', SR K ms (wipeE env vs) (L2.wipe σ vs) G H own' ∧ ∀ x ∈ own', x ∈ own
  | [] => ⟨own, s, fun _ h => h⟩
  | v :: vs => by
    obtain ⟨o1, s1, h1⟩ := SR.wipe s vs
    obtain ⟨o2, s2, h2⟩ := s1.drop v none
    exact ⟨o2, s2, fun x hx => h1 x (h2 x hx)⟩
theorem wipe_notin {σ : St} {i : Nat} : ∀ {vs : List Nat}, i ∉ vs → (L2.wipe σ vs)[i]? = σ[i]?
  | [], _ => rfl
  | v :: vs, h => by
    unfold L2.wipe
    rw [List.getElem?_set_ne fun z => h (by rw [z]; exact List.mem_cons_self)]
    exact wipe_notin fun z => h (List.mem_cons_of_mem _ z)
theorem wipe_same {σ σ' : St} (hl : σ.length = σ'.length) : ∀ {vs : List Nat}, (∀ i, i ∉ vs → σ'[i]? = σ[i]?) → L2.wipe σ' vs = L2.wipe σ vs := fun {vs} h => List.ext_getElem? fun i => by
  by_cases hi : i ∈ vs
  · have w : ∀ (τ : St) (vs : List Nat), i ∈ vs → (L2.wipe τ vs)[i]? = if i < τ.length then some none else none := by
      intro τ vs
      induction vs with
      | nil => intro h; cases h
      | cons v vs ih =>
        intro h
        unfold L2.wipe
        by_cases e : v = i
        · subst e
          rw [List.getElem?_set, if_pos rfl, wipe_length]
        · rw [List.getElem?_set_ne e]
          exact ih ((List.mem_cons.mp h).resolve_left fun z => e z.symm)
    rw [w σ' vs hi, w σ vs hi, hl]
  · rw [wipe_notin hi, wipe_notin hi, h i hi]
/-- the slots of the block's own names as they were ahead of it -/
theorem SR.rest (s1 : SR K ms env1 σ G H own) (gm : ∀ a o, G a = some o → G' a = some o) : ∀ (vs : List Nat) (env' : Env) (own' : List Addr), vs.Nodup → (∀ v ∈ vs, ms[v]? = some .frz) → SR K ms env' (L2.wipe σ vs) G' H' own' →
    ∃ own'', SR K ms (restE env1 vs env') σ G' H' own'' ∧ ∀ x ∈ own'', x ∈ own'
  | [], env', own', _, _, s => ⟨own', s, fun _ h => h⟩
  | v :: vs, env', own', nd, hv, s => by
    obtain ⟨l1, l2⟩ := s.sl.lens
    obtain ⟨m1, m2⟩ := s1.sl.lens
    have hm := hv v List.mem_cons_self
    have hlt : v < ms.length := (List.getElem?_eq_some_iff.mp hm).1
    have he : env'[v]? = some (env'[v]'(by omega)) := List.getElem?_eq_getElem (by omega)
    have he1 : env1[v]? = some (env1[v]'(by omega)) := List.getElem?_eq_getElem (by omega)
    obtain ⟨so1, as1, _, e1, sl1, _, _⟩ := s1.sl.split hm he1
    have a1 : as1 = [] := by
      cases q : env1[v]'(by omega) with
      | none => rw [q] at sl1; exact sl1
      | some t => rw [q] at sl1; obtain ⟨_, _, r⟩ := sl1; exact (OwR.frz_iff.mp r).2
    obtain ⟨s0, a0, bs, e0, sl, pm, k⟩ := s.sl.split hm he
    have hb : ∀ y ∈ bs, y ∈ own' := fun y hy => pm.symm.subset (List.mem_append_right _ hy)
    obtain ⟨own2, sl2, pm2⟩ := k G' H' .frz (env1[v]'(by omega)) so1 [] (fun _ _ h => h) (fun y hy => ⟨rfl, (s.sl.at y (hb y hy)).1⟩) (by
      subst a1
      exact sl1.keep gm (by simp))
    rw [set_same hm] at sl2
    have ew : (L2.wipe σ (v :: vs)).set v so1 = L2.wipe σ vs := by
      show ((L2.wipe σ vs).set v none).set v so1 = _
      rw [List.set_set]
      exact set_same (by rw [wipe_notin (List.nodup_cons.mp nd).1]; exact e1)
    rw [ew] at sl2
    have nd2 : own2.Nodup := pm2.nodup_iff.mpr (by simpa using (List.nodup_append.mp (pm.nodup_iff.mp s.nd)).2.1)
    obtain ⟨own3, s3, h3⟩ := SR.rest s1 gm vs (env'.set v (env1[v]'(by omega))) own2 (List.nodup_cons.mp nd).2 (fun w hw => hv w (List.mem_cons_of_mem _ hw)) ⟨sl2, nd2, s.sub⟩
    refine ⟨own3, ?_, fun x hx => hb x (by simpa using pm2.subset (h3 x hx))⟩
    show SR K ms (restE env1 vs (env'.set v (env1[v]?.getD none))) σ G' H' own3
    rw [he1]
    exact s3
end
/-- the turns: kept ones gathered -/
def lcL (b : T → Env → Out (Option T)) : List T → List T → Env → Out (List T)
  | [], acc, env => .ok acc env
  | x :: xs, acc, env => match b x env with
    | .ok (some y) env' => lcL b xs (acc ++ [y]) env'
    | .ok none env' => lcL b xs acc env'
    | _ => .stk
def lcB (vs : List Nat) (g : T → Env → Option Env) (tt : FT) (te : FE) (x : T) (env : Env) : Out (Option T) := match g x env with
  | some env2 => (tt env2).bind fun k env3 => if k = true then (te env3).bind fun y env4 => .ok (some y) (wipeE env4 vs) else .ok none (wipeE env3 vs)
  | none => .stk
def eLc (vs : List Nat) (f : FA) (g : T → Env → Option Env) (tt : FT) (te : FE) : FE := fun env => (f env).bind fun items env1 => if items.length ≤ 10000000 then (lcL (lcB vs g tt te) items [] (wipeE env1 vs)).bind fun ys env2 => .ok (.lst ys) (restE env1 vs env2) else .stk
def TsJ (X : Cx) (W : WX) (fx : List (Nat × Md)) (ms : List Md) (ifs : List Expr) (ms' : List Md) (f : FT) : Prop :=
  ∃ t : TT, PTs X ifs t ∧ RJ X.K W fx (fun _ => True) ms ms' (Fz fun _ (a b : Bool) => a = b) t f
def tYesF : FT := fun env => .ok true env
abbrev W0 : WX := fun _ _ _ _ => False
section
variable {X : Cx} {W : WX} {fx : List (Nat × Md)} {ms ms1 ms2 ms3 msL msN : List Md} {e c tg iter elt : Expr} {es ifs : List Expr} {body : List Stmt} {r : Md} {pos : Pos}
theorem TsJ.nil : TsJ X W fx ms [] ms tYesF := ⟨_, pts_nil, RJ.pure fun _ _ => rfl⟩
theorem TsJ.one {f : FT} (h : TJ X W fx ms c ms1 f) : TsJ X W fx ms [c] ms1 f := let ⟨t, p, r⟩ := h; ⟨t, pts_one p, r⟩
theorem TsJ.sem {f : FT} (h : TsJ X W fx ms ifs ms1 f) : PTs X ifs (semR X.K W fx (fun _ => True) ms ms1 (Fz fun _ (a b : Bool) => a = b) f) := by
  obtain ⟨t, p, rj⟩ := h
  exact ⟨fun pins s σ H Q I ⟨env, G, own, pg, sr, ns, ho, hx⟩ => p.run pins s σ H Q I (rj env σ G H own pg sr ns Q ho hx)⟩
/-- a target's canonical reading -/
def semG (K : PySem.W.Frag) (tv : List Nat) (ms ms' : List Md) (g : T → Env → Option Env) : TG := fun v σ H Q =>
  ∃ x env G own env', SR K ms env σ G H own ∧ Tr K G x v ∧ g x env = some env' ∧ ∀ σ' own', SR K ms' env' σ' G H own' → OutOf tv σ σ' → (∀ x ∈ own', x ∈ own) → Q σ' H
theorem GJ.sem {tv : List Nat} {g : T → Env → Option Env} (h : GJ X tv ms tg ms1 g) : PG X tg (semG X.K tv ms ms1 g) := by
  obtain ⟨t, p, q⟩ := h
  exact ⟨fun pins s σ H v u Q I rv ⟨x, env, G, own, env', sr, tr, eg, k⟩ => p.run pins s σ H v u Q I rv (q x v env σ G H own env' sr tr eg Q k)⟩
theorem SR.len_eq {K : PySem.W.Frag} {G H G' H' : Hp} {env env' : Env} {σ σ' : St} {own own' : List Addr} (s : SR K ms env σ G H own) (s' : SR K ms env' σ' G' H' own') : σ.length = σ'.length := by
  have a := s.sl.lens
  have b := s'.sl.lens
  omega

theorem lc_sem {K : PySem.W.Frag} {wi : TI} {vs tv : List Nat} {f : FA} {g : T → Env → Option Env} {tt : FT} {te : FE} (nd : vs.Nodup) (hv : ∀ v ∈ vs, ms1[v]? = some .frz) (htv : ∀ i ∈ tv, i ∈ vs)
    (hw : ∀ (env : Env) (σ : St) (G H : Hp) (own : List Addr), SR K ms env σ G H own → f env ≠ .stk → ∀ R : It → Hp → Prop,
      (∀ items env', f env = .ok items env' → ∀ J G' H' own', SR K ms1 env' σ G' H' own' → Wk K J items G' → Step G H own G' H' own' → R J H') →
      (∀ x env', f env = .exc x env' → ∀ msR cls d G' H' own', FxOk fx msR → SR K msR env' σ G' H' own' → ExR K G' H' x cls d → Step G H own G' H' own' → W cls d σ H') → wi σ H R) :
    RJ K W fx (fun _ => True) ms ms1 (fun G H a b as => OwR K G H (.own .frz) a b as)
      (tLc wi (semG K tv ms1 ms1 g) (semR K W0 [] (fun _ => True) ms1 ms1 (Fz fun _ (a b : Bool) => a = b) tt) (semR K W0 [] (fun _ => True) ms1 ms1 (Fz (Tr K)) te) vs) (eLc vs f g tt te) := by
  intro env σ G H own _ s ns Q hok hex
  refine hw env σ G H own s (fun e => ns (by show (f env).bind _ = _; rw [e]; rfl)) _ (fun items env1 e1 J G1 H1 own1 s1 wk stp => ?_) fun x env1 e1 => hex x env1 (by show (f env).bind _ = _; rw [e1]; rfl)
  have e2 : eLc vs f g tt te env = if items.length ≤ 10000000 then (lcL (lcB vs g tt te) items [] (wipeE env1 vs)).bind fun ys env2 => .ok (.lst ys) (restE env1 vs env2) else .stk := by
    show (f env).bind _ = _; rw [e1]; rfl
  by_cases hlen : items.length ≤ 10000000
  · rw [if_pos hlen] at e2
    intro D hD
    obtain ⟨ow, sw, hsw⟩ := s1.wipe vs
    -- the invariant: the list at D holds acc
    have gD : G1 D = none := upd_none (o := .lst []) s1.sub hD
    refine ⟨fun i m H' => m = items.length - i ∧ i ≤ items.length ∧ ∃ env' G' own' acc accV, SR K ms1 env' (wipe σ vs) G' H' own' ∧ Step G1 H1 own1 G' H' (D :: own') ∧ D ∉ own' ∧ G' D = none ∧ H' D = some (.lst accV) ∧ TrL K G' acc accV ∧ accV.length ≤ i ∧
        lcL (lcB vs g tt te) items [] (wipeE env1 vs) = lcL (lcB vs g tt te) (items.drop i) acc env', ⟨items.length, rfl, Nat.zero_le _, wipeE env1 vs, G1, ow, [], [], ?_, ?_, ?_, gD, upd_same, .nil, Nat.le_refl _, rfl⟩, ?_⟩
    · exact sw.keep (Step.newO hD) (sub_newO s1.sub hD)
    · exact ((Step.newO (G := G1) (o := .lst []) hD).lift (own := own1)).own fun x hx => by
        rcases List.mem_cons.mp hx with rfl | z
        · simp
        · simp [hsw x z]
    · intro z
      exact (s1.sl.at D (hsw D z)).2 hD
    rintro i m H' ⟨rfl, hi, env', G', own', acc, accV, s', st', nD, gD', hD', tr, hal, eq⟩
    have hwk := wk G' H' st'.gm s'.sub
    by_cases hlt : i < items.length
    · obtain ⟨go, yl⟩ := hwk.1 i items[i] (by simp [hlt])
      rw [List.drop_eq_getElem_cons hlt] at eq
      refine .inr ⟨go, fun H2 => ∃ env' G' own' acc accV, SR K ms1 env' (wipe σ vs) G' H2 own' ∧ Step G1 H1 own1 G' H2 (D :: own') ∧ D ∉ own' ∧ G' D = none ∧ H2 D = some (.lst accV) ∧ TrL K G' acc accV ∧ accV.length ≤ i + 1 ∧
          lcL (lcB vs g tt te) items [] (wipeE env1 vs) = lcL (lcB vs g tt te) (items.drop (i + 1)) acc env', fun H2 h => ⟨items.length - (i + 1), by omega, rfl, hlt, h⟩, fun x H2 y => ?_⟩
      obtain ⟨G2, st2, sub2, trx⟩ := yl x H2 y
      have s2 : SR K ms1 env' (wipe σ vs) G2 H2 own' := s'.keep st2 sub2
      have st2' : Step G' H' (D :: own') G2 H2 (D :: own') := by simpa using st2.lift (own := D :: own')
      have hD2 : H2 D = some (.lst accV) := st2.fr D _ hD' (by simp)
      have gD2 : G2 D = none := by
        cases q : G2 D with
        | none => rfl
        | some o =>
          rcases st2.gn D (by rw [q]; simp) with z | z | z
          · exact absurd gD' z
          · simp at z
          · rw [hD'] at z; cases z
      -- the body of a turn
      cases eg : g items[i] env' with
      | none => exact absurd (by rw [e2, eq]; simp only [lcL, lcB, eg]; rfl) ns
      | some env3 =>
        refine ⟨items[i], env', G2, own', env3, s2, trx, eg, fun σ3 own3 s3 f3 sb3 => ⟨?_, ?_⟩⟩
        · have hlw : (wipe σ vs).length = σ3.length := by
            have a := s2.sl.lens
            have b := s3.sl.lens
            omega
          have e5 : wipe σ3 vs = wipe (wipe σ vs) vs := wipe_same hlw fun j hj => f3.2 j fun z => hj (htv j z)
          exact e5.trans (wipe_same (wipe_length _ _).symm fun j hj => wipe_notin hj)
        have eb : lcB vs g tt te items[i] env' = (tt env3).bind fun k env3 => if k = true then (te env3).bind fun y env4 => .ok (some y) (wipeE env4 vs) else .ok none (wipeE env3 vs) := by
          simp only [lcB, eg]
        have stuck : lcB vs g tt te items[i] env' ≠ .stk := fun z => ns (by rw [e2, eq]; simp only [lcL, z]; rfl)
        have noexc : ∀ x env5, lcB vs g tt te items[i] env' ≠ .exc x env5 := fun x env5 z => ns (by rw [e2, eq]; simp only [lcL, z]; rfl)
        have dis3 : D ∉ own3 := fun z => nD (sb3 D z)
        -- a step from here keeps D
        have keepD : ∀ {G4 H4 : Hp} {own4 : List Addr}, Step G2 H2 own3 G4 H4 own4 → H4 D = some (.lst accV) ∧ G4 D = none ∧ D ∉ own4 := fun {G4 H4 own4} st4 => by
          refine ⟨st4.fr D _ hD2 dis3, ?_, fun z => ?_⟩
          · cases q : G4 D with
            | none => rfl
            | some o =>
              rcases st4.gn D (by rw [q]; simp) with z | z | z
              · exact absurd gD2 z
              · exact absurd z dis3
              · rw [hD2] at z; cases z
          · rcases st4.nw D z with y | y
            · exact dis3 y
            · rw [hD2] at y; cases y
        have stD : ∀ {G4 H4 : Hp} {own4 : List Addr}, Step G2 H2 own3 G4 H4 own4 → Step G1 H1 own1 G4 H4 (D :: own4) := fun {G4 H4 own4} st4 => by
          refine (st'.trans st2').trans ?_
          have m := st4.more (o0' := D :: own') fun x hx => List.mem_cons_of_mem _ (sb3 x hx)
          exact ⟨m.gm, m.fr, fun a ha => (List.mem_cons.mp ha).elim (fun z => .inl (by rw [z]; exact List.mem_cons_self)) (m.nw a), m.gn, m.no⟩
        refine ⟨env3, G2, own3, trivial, s3, fun z => stuck (by rw [eb, z]; rfl), fun k env4 e4 b G4 H4 own4 as4 s4 rel4 nd4 st4 => ?_, fun x env4 e4 => absurd (by rw [eb, e4]; rfl) (noexc x env4)⟩
        obtain ⟨rfl, rfl⟩ := rel4
        simp only [List.nil_append] at st4
        have eb2 : lcB vs g tt te items[i] env' = if k = true then (te env4).bind fun y env4 => .ok (some y) (wipeE env4 vs) else .ok none (wipeE env4 vs) := by rw [eb, e4]; rfl
        cases k with
        | true =>
          simp only [if_true] at eb2 ⊢
          refine ⟨env4, G4, own4, trivial, s4, fun z => stuck (by rw [eb2, z]; rfl), fun y env5 e5 w G5 H5 own5 as5 s5 rel5 nd5 st5 => ?_, fun x env5 e5 => absurd (by rw [eb2, e5]; rfl) (noexc x env5)⟩
          obtain ⟨rel5, rfl⟩ := rel5
          simp only [List.nil_append] at st5
          obtain ⟨h5, g5, n5⟩ := keepD (st4.trans st5)
          have eb3 : lcB vs g tt te items[i] env' = .ok (some y) (wipeE env5 vs) := by rw [eb2, e5]; rfl
          refine ⟨accV, h5, by rw [sizeLine_eq]; omega, ?_⟩
          obtain ⟨o6, s6, h6⟩ := s5.wipe vs
          have ew : wipe σ3 vs = wipe σ vs := by
            have hlw : (wipe σ vs).length = σ3.length := by
              have a := s2.sl.lens
              have b := s3.sl.lens
              omega
            rw [wipe_same hlw fun j hj => f3.2 j fun z => hj (htv j z)]
            exact wipe_same (wipe_length _ _).symm fun j hj => wipe_notin hj
          rw [ew] at s6
          have up : ∀ a o, a ≠ D → upd H5 D (.lst (accV ++ [w])) a = H5 a := fun (a : Addr) (o : HO) h => upd_ne h
          have n6 : D ∉ o6 := fun z => n5 (h6 D z)
          refine ⟨wipeE env5 vs, G5, o6, acc ++ [y], accV ++ [w], ⟨s6.sl.keep (fun _ _ h => h) fun a ha => ⟨upd_ne fun z => n6 (z ▸ ha), (s6.sl.at a ha).1⟩, s6.nd, fun a o q => ?_⟩, ?_, n6, g5, upd_same, ?_, ?_, ?_⟩
          · rw [upd_ne fun z => by rw [z, g5] at q; cases q]; exact s6.sub _ _ q
          · have q := (stD (st4.trans st5)).own (o2 := D :: o6) fun x hx => (List.mem_cons.mp hx).elim (fun z => by rw [z]; exact List.mem_cons_self) fun z => List.mem_cons_of_mem _ (h6 x z)
            refine ⟨q.gm, fun a o ho hn => ?_, q.nw, q.gn, fun a ha => ?_⟩
            · rw [upd_ne fun z => by rw [z, hD] at ho; cases ho]; exact q.fr a o ho hn
            · by_cases z : a = D
              · subst z; rw [upd_same]; simp
              · rw [upd_ne z]; exact q.no a ha
          · exact (tr.mono fun a o h => st5.gm _ _ (st4.gm _ _ (st2.gm _ _ h))).append (.cons rel5 .nil)
          · rw [List.length_append]; simp only [List.length_cons, List.length_nil]; omega
          · rw [eq]
            simp only [lcL, eb3]
        | false =>
          simp only [Bool.false_eq_true, if_false] at eb2 ⊢
          obtain ⟨h5, g5, n5⟩ := keepD st4
          obtain ⟨o6, s6, h6⟩ := s4.wipe vs
          have ew : wipe σ3 vs = wipe σ vs := by
            have hlw : (wipe σ vs).length = σ3.length := by
              have a := s2.sl.lens
              have b := s3.sl.lens
              omega
            rw [wipe_same hlw fun j hj => f3.2 j fun z => hj (htv j z)]
            exact wipe_same (wipe_length _ _).symm fun j hj => wipe_notin hj
          -- the modes behind the test are those ahead of the element: the turn ends with them
          rw [ew] at s6
          exact ⟨wipeE env4 vs, G4, o6, acc, accV, s6, (stD st4).own fun x hx => (List.mem_cons.mp hx).elim (fun z => by rw [z]; exact List.mem_cons_self) fun z => List.mem_cons_of_mem _ (h6 x z), fun z => n5 (h6 D z), g5, h5, tr.mono fun a o h => st4.gm _ _ (st2.gm _ _ h), by omega, by rw [eq]; simp only [lcL, eb2]⟩
    · have e : i = items.length := by omega
      subst e
      rw [List.drop_length] at eq
      refine .inl ⟨hwk.2, ?_⟩
      obtain ⟨own3, s3, h3⟩ := s1.rest st'.gm vs env' own' nd hv s'
      have e3 : eLc vs f g tt te env = .ok (.lst acc) (restE env1 vs env') := by rw [e2, eq]; rfl
      refine hok _ _ e3 (.ref D) G' H' own3 [D] s3 (.lst hD' gD' (.of_trL tr)) ?_ ?_
      · simp only [List.cons_append, List.nil_append, List.nodup_cons]
        exact ⟨fun z => nD (h3 D z), s3.nd⟩
      · exact (stp.trans st').own fun x hx => by
          rcases List.mem_append.mp hx with z | z
          · have : x = D := by simpa using z
            rw [this]; exact List.mem_cons_self
          · exact List.mem_cons_of_mem _ (h3 x z)
  · exact absurd (by rw [e2, if_neg hlen]) ns

/-- [elt for tg in iter if ..] -/
theorem EJ.lc {scope : Scope} {own : List (Str × Nat)} {tv : List Nat} {f : FA} {g : T → Env → Option Env} {tt : FT} {te : FE} (C : Cok X W) (hi : IJ X W fx ms tg iter ms1 f) (ok : blkC X.N X.env.scope scope own = true) (nd : (own.map (·.2)).Nodup) (hv : ∀ v ∈ own.map (·.2), ms1[v]? = some .frz)
    (htv : ∀ i ∈ tv, i ∈ own.map (·.2)) (hg : ∀ (s : Shared) (H : Hp) (C : Addr) (cl : List (Str × Addr)) (fp : List Addr), GJ (X.blk s H scope (compEnvC scope cl C X.env) fp) tv ms1 tg ms1 g)
    (ht : ∀ (s : Shared) (H : Hp) (C : Addr) (cl : List (Str × Addr)) (fp : List Addr), TsJ (X.blk s H scope (compEnvC scope cl C X.env) fp) W0 [] ms1 ifs ms1 tt)
    (he : ∀ (s : Shared) (H : Hp) (C : Addr) (cl : List (Str × Addr)) (fp : List Addr), EF (X.blk s H scope (compEnvC scope cl C X.env) fp) W0 [] ms1 elt ms1 te) (hs : ∀ x, foldedSetIterable iter X.env x = pure x := by intro _; rfl) :
    EJ X W fx ms (.ListComp elt [⟨tg, iter, ifs, 0⟩] scope pos) (.own .frz) ms1 (eLc (own.map (·.2)) f g tt te) := by
  obtain ⟨wi, p, hw⟩ := hi
  exact ⟨_, pe_lc C.calm C.nd p (blkOk_by ok) (fun s H C cl fp => (hg s H C cl fp).sem) (fun s H C cl fp => (ht s H C cl fp).sem) (fun s H C cl fp => (he s H C cl fp).sem) hs, lc_sem nd hv htv hw⟩
/-- name = [..], the name a local -/
theorem SJ.setLc {scope : Scope} {own : List (Str × Nat)} {tv : List Nat} {f : FA} {g : T → Env → Option Env} {tt : FT} {te : FE} {i : Nat} {y : Str} {py spos : Pos} (C : Cok X W) (hi : IJ X W fx ms tg iter ms1 f) (ok : blkC X.N X.env.scope scope own = true) (nd : (own.map (·.2)).Nodup) (hv : ∀ v ∈ own.map (·.2), ms1[v]? = some .frz)
    (htv : ∀ i ∈ tv, i ∈ own.map (·.2)) (hg : ∀ (s : Shared) (H : Hp) (C : Addr) (cl : List (Str × Addr)) (fp : List Addr), GJ (X.blk s H scope (compEnvC scope cl C X.env) fp) tv ms1 tg ms1 g)
    (ht : ∀ (s : Shared) (H : Hp) (C : Addr) (cl : List (Str × Addr)) (fp : List Addr), TsJ (X.blk s H scope (compEnvC scope cl C X.env) fp) W0 [] ms1 ifs ms1 tt)
    (he : ∀ (s : Shared) (H : Hp) (C : Addr) (cl : List (Str × Addr)) (fp : List Addr), EF (X.blk s H scope (compEnvC scope cl C X.env) fp) W0 [] ms1 elt ms1 te)
    (hy : X.N[i]? = some y := by rfl) (hyl : X.env.scope.names.lookup y = some .local := by rfl)
    (hsw : swapsWith (.ListComp elt [⟨tg, iter, ifs, 0⟩] scope pos) (some (.Name y py)) spos.line X.env = pure true) (nf : noFx fx [i] = true := by rfl) (hs : ∀ x, foldedSetIterable iter X.env x = pure x := by intro _; rfl) :
    SJ X W fx ms (.Assign [.Name y py] (.ListComp elt [⟨tg, iter, ifs, 0⟩] scope pos) spos) (ms1.set i (.own .frz)) msL r (sSet i (eLc (own.map (·.2)) f g tt te)) := by
  obtain ⟨wi, p, hw⟩ := hi
  refine PS.weak (ps_setLc C.calm C.nd hy hyl hsw p (blkOk_by ok) (fun s H C cl fp => (hg s H C cl fp).sem) (fun s H C cl fp => (ht s H C cl fp).sem) (fun s H C cl fp => (he s H C cl fp).sem) hs) fun D σ H ⟨env, G, own', s, w⟩ => Wants.expr (lc_sem nd hv htv hw) s w fun y env1 e1 v G1 H1 own1 as s1 rel nd stp => ?_
  have e2 : sSet i (eLc (own.map (·.2)) f g tt te) env = if i < env1.length then .nxt (env1.set i (some y)) else .stk := by show Out.bindS _ _ = _; rw [e1]; rfl
  by_cases hl : i < env1.length
  · obtain ⟨own', s', sub⟩ := s1.set hl rel nd
    exact w.nx _ (by rw [e2, if_pos hl]) _ G1 H1 own' s' (OutOf.set.fxs nf) (stp.own sub)
  · exact absurd (by rw [e2, if_neg hl]) w.ns
end
end VS
-- VFn
set_option Elab.async false
set_option linter.all false
set_option maxRecDepth 100000
/-! VFn: what a def promises where no repr is under way: in a calm place (FnG), within an except suite (FnT). -/
namespace VS
open PySem L2 PySem.Spec PyProof.Rows

/-- room for k levels, no guard on the stack -/
structure RoomG (k : Nat) (A : Around) : Prop where
  rm : L2H.RoomH k A
  gd : A.guards = some []
theorem RoomG.mono {j k : Nat} {A : Around} (r : RoomG k A) (h : j ≤ k) : RoomG j A := ⟨r.rm.mono h, r.gd⟩
theorem deeper_guards {A : Around} {env : PySem.Env} : (A.deeper env).guards = A.guards := rfl
theorem RoomG.deeper {k : Nat} {A : Around} (r : RoomG (k + 1) A) (env : PySem.Env) : RoomG k (A.deeper env) := ⟨r.rm.deeper env, r.gd⟩
theorem mark_guards {A : Around} {h : Option Value} : (A.mark h).guards = A.guards := rfl
theorem RoomG.mark {k : Nat} {A : Around} (r : RoomG k A) (h : Option Value) : RoomG k (A.mark h) := ⟨⟨r.rm.dp, r.rm.un⟩, r.gd⟩
theorem make_guards {A : Around} {C : Addr} {us : List Value} {kw : List (Str × Value)} : (A.under (.builtin "type.__call__" ⟨.ref C :: us, kw⟩)).guards = A.guards := by
  first
  | rfl
  | simp [Around.under, Code.guards, Code.isGuard, guardIds, pushGuards]
theorem RoomG.make {k : Nat} {A : Around} (r : RoomG (k + 1) A) (C : Addr) (us : List Value) (kw : List (Str × Value)) : RoomG k (A.under (.builtin "type.__call__" ⟨.ref C :: us, kw⟩)) := ⟨r.rm.make C us kw, make_guards.trans r.gd⟩

section
variable (P : Program) (w : World) (K : PySem.W.Frag) (mg : Str → Option Value) (base : Heap)
/-- a def's promise in a calm place -/
structure FnG (k : Nat) (f : Addr) (fd : FuncData) (ps : List Str) (sp : Sp) : Prop where
  len : ∀ vs H Q E, sp vs H Q E → vs.length = ps.length
  run : ∀ (A : Around) (outer : List PySem.Env) (s : Shared) (H : Hp) (args : Args) (us : List Value) (vs : List V) (Q : VK) (E : XK), RoomG k A → A.handled = none → Env0 P w K mg base A outer s H →
    BindsTo s fd args (ps.zip us) → Vals vs us → sp vs H Q E → codeAny (model P w) A (.call (.ref f) args) (CR (L2N.CX P w) outer P w H s Q E) s
/-- within a suite -/
structure FnT (k : Nat) (f : Addr) (fd : FuncData) (ps : List Str) (sp : Sp) : Prop where
  len : ∀ vs H Q E, sp vs H Q E → vs.length = ps.length
  run : ∀ (A : Around) (outer : List PySem.Env) (s : Shared) (H : Hp) (args : Args) (us : List Value) (vs : List V) (Q : VK) (E : XK) (p : Addr × Obj), RoomG k A → L2H.Hot1 A p → L2H.PinOk outer H s p → Env0 P w K mg base A outer s H →
    BindsTo s fd args (ps.zip us) → Vals vs us → sp vs H Q E → codeAny (model P w) A (.call (.ref f) args) (CR (L2N.CX P w) outer P w H s Q E) s
end
section
variable {P : Program} {w : World} {K : PySem.W.Frag} {mg : Str → Option Value} {base : Heap} {j k : Nat} {f : Addr} {fd : FuncData} {ps N : List Str} {sp : Sp} {x qual : Str} {st : Stmt}
theorem FnG.mono (F : FnG P w K mg base j f fd ps sp) (h : j ≤ k) : FnG P w K mg base k f fd ps sp := ⟨F.len, fun A outer s H args us vs Q E r => F.run A outer s H args us vs Q E (r.mono h)⟩
theorem FnT.mono (F : FnT P w K mg base j f fd ps sp) (h : j ≤ k) : FnT P w K mg base k f fd ps sp := ⟨F.len, fun A outer s H args us vs Q E p r => F.run A outer s H args us vs Q E p (r.mono h)⟩
/-- the body's end is the call's end -/
theorem ce_end {X : Cx} {σ : L2.St} {H' : Hp} {v : V} {u : Value} {s' : Shared} {Q : VK} {outer : List PySem.Env} (e1 : X.outer = outer) (e2 : X.ex = []) (J : Inv X [] σ H' s') (rv : RelV v u) (q : Q v H') : CE outer X.prog X.w X.H_0 X.s_0 Q u s' := by
  refine ⟨v, H', J.os, J.bare, ?_, J.hok, rv, q⟩
  have b := J.base
  rw [e2] at b
  subst e1
  exact b
def flV : Flow → Value
  | .ret v => v
  | _ => .none
theorem sp_end {X : Cx} {Q : VK} {outer : List PySem.Env} {E : XK} {fl : Flow} {s' : Shared} (e1 : X.outer = outer) (e2 : X.ex = []) (h : SP X [] { nx := fun _ H' => Q .non H', rt := Q } fl s') :
    CR (L2N.CX X.prog X.w) outer X.prog X.w X.H_0 X.s_0 Q E (.ok (.ret (flV fl))) s' := by
  cases fl with
  | ret u =>
    obtain ⟨v, σ', H', J, rv, q⟩ := h
    exact ce_end e1 e2 J rv q
  | next =>
    obtain ⟨σ', H', J, q⟩ := h
    exact ce_end (v := .non) e1 e2 J rfl q
  | brk =>
    obtain ⟨_, _, _, q⟩ := h
    exact q.elim
  | cont =>
    obtain ⟨_, _, _, q⟩ := h
    exact q.elim
/-- how the def is entered -/
theorem enter {A : Around} {outer : List PySem.Env} {s : Shared} {H : Hp} {args : Args} {us : List Value} {R : Result → Shared → Prop} {params : Arguments} {body : List Stmt} {scope : Scope} {dV kV doc pm cdv ct oc : Value} {an od : Option Addr} {osl : Array (Option Value)} {name : Str}
    (lk : K.lookup f = some ⟨oc, od, .func (PySem.W.fnOf name qual params body scope dV kV doc pm an cdv ct), osl⟩) (hcd : PySem.W.codeIn K cdv qual = true) (S : FnScope N ps scope) (hr : L2H.RoomH k A) (e0 : Env0 P w K mg base A outer s H)
    (hb : BindsTo s (PySem.W.fnOf name qual params body scope dV kV doc pm an cdv ct) args (ps.zip us))
    (go : ∀ s1 : Shared, InCallC s s.heap.objs.size (bindL (envOfC qual scope s.heap.objs.size f cdv).kindOf (ps.zip us) fun _ => none) (cellsFrom (s.heap.objs.size + 1) scope.names []) (bindC (envOfC qual scope s.heap.objs.size f cdv).kindOf (ps.zip us) fun _ => none) s1 →
      wpAny (model P w) (A.deeper (envOfC qual scope s.heap.objs.size f cdv)) (execs body (envOfC qual scope s.heap.objs.size f cdv)) (fun fl s' => R (.ok (.ret (match fl with | .ret v => v | _ => .none))) s')
        (fun e s' => wpAny (model P w) (A.deeper (envOfC qual scope s.heap.objs.size f cdv)) (leaving (envOfC qual scope s.heap.objs.size f cdv) e) (fun _ s'' => R (.error e) s'') (fun e' s'' => R (.error e') s'') s') s1) :
    codeAny (model P w) A (.call (.ref f) args) R s := by
  have inK : K.In s.heap := e0.mod.kin.keeps fun b o e => (e0.bs b o e).1
  have noLim : s.heap.NoLimit := e0.mod.nolimit.keeps fun b o e => (e0.bs b o e).1
  refine codeAny_call_function hr.depth (inK _ _ lk) rfl S.co S.gen rfl (PySem.W.codeRec_of inK hcd) (hb _ _ _ _ ?_)
  refine wpAny_newFunctionEnv_cells S.kind (fun ⟨n, v⟩ hy => (S.par n (List.of_mem_zip hy).1).imp id fun q => ⟨q, PySem.W.cellsFrom_some _ _ _ (.inl q)⟩) fun env he s1 x => ?_
  subst he
  exact ⟨noLim.keeps x.toInCall.keep, codeAny_func (go s1 x)⟩
/-- a def by its body, in a calm place -/
theorem fnG_of (F : Fun K x qual st f fd) (S : FnScope N ps (defScope st)) (len : ∀ vs H Q E, sp vs H Q E → vs.length = ps.length)
    (hbody : ∀ (cdv : Value) (A : Around) (outer : List PySem.Env) (s : Shared) (H : Hp) (vs : List V) (Q : VK) (E : XK), RoomG k (A.deeper (envOfC qual (defScope st) s.heap.objs.size f cdv)) → sp vs H Q E →
      ∃ t, PSs (cxOf (L2N.CX P w) P w K mg base N qual (defScope st) f cdv A outer s H E) (defBody st) t ∧ t { nx := fun _ H' => Q .non H', rt := Q } (L2.start N vs) H) : FnG P w K mg base (k + 1) f fd ps sp := by
  obtain ⟨oc, od, kV, doc, pm, an, cdv, ct, osl, rfl, lk, hcd⟩ := F.ex
  refine ⟨len, fun A outer s H args us vs Q E hr hh e0 hb r hsp => enter (k := k + 1) lk hcd S hr.rm e0 hb fun s1 x1 => ?_⟩
  obtain ⟨t, ht, hq⟩ := hbody cdv A outer s H vs Q E (hr.deeper _) hsp
  have I := inv_start (CX := L2N.CX P w) (N := N) (E := E) S hh e0 (len _ _ _ _ hsp) r x1
  exact wpAny_mono (ht.run [] s1 (L2.start N vs) H _ I hq) (fun fl s' hs => by
    have q := sp_end (E := E) rfl rfl hs
    cases fl <;> exact q) fun _ _ hs => hs
/-- .. within a suite -/
theorem fnT_of (F : Fun K x qual st f fd) (S : FnScope N ps (defScope st)) (len : ∀ vs H Q E, sp vs H Q E → vs.length = ps.length)
    (hbody : ∀ (cdv : Value) (A : Around) (outer : List PySem.Env) (s : Shared) (H : Hp) (vs : List V) (Q : VK) (E : XK) (p : Addr × Obj), L2H.Hot1 A p → RoomG k (A.deeper (envOfC qual (defScope st) s.heap.objs.size f cdv)) → sp vs H Q E →
      ∃ t, PSs (L2H.cxH (L2N.CX P w) P w K mg base N qual (defScope st) f cdv A outer s H E p) (defBody st) t ∧ t { nx := fun _ H' => Q .non H', rt := Q } (L2.start N vs) H) : FnT P w K mg base (k + 1) f fd ps sp := by
  obtain ⟨oc, od, kV, doc, pm, an, cdv, ct, osl, rfl, lk, hcd⟩ := F.ex
  refine ⟨len, fun A outer s H args us vs Q E p hr hot hp e0 hb r hsp => enter (k := k + 1) lk hcd S hr.rm e0 hb fun s1 x1 => ?_⟩
  obtain ⟨t, ht, hq⟩ := hbody cdv A outer s H vs Q E p hot (hr.deeper _) hsp
  have I := L2H.inv_startH (CX := L2N.CX P w) (N := N) (E := E) S hp e0 (len _ _ _ _ hsp) r x1
  exact wpAny_mono (ht.run [] s1 (L2.start N vs) H _ I hq) (fun fl s' hs => by
    have q := sp_end (E := E) rfl rfl hs
    cases fl <;> exact q) fun _ _ hs => hs
end

/-! ### calls -/
section
variable {X : Cx} {k : Nat} {f : Addr} {fd : FuncData} {ps : List Str} {sp : Sp} {E : L2.St → XK} {x : Str} {p pos : Pos} {e : Expr} {es : List Expr} {t : TA} {pins : List (Addr × Obj)} {σ : L2.St} {H : Hp} {s : Shared} {Q : VK} {us : List Value} {vs : List V}
theorem call_end (hx : PassesAt (L2N.CX X.prog X.w) X σ (E σ)) (I : Inv X pins σ H s) {r : Result} {s' : Shared} (h : CR (L2N.CX X.prog X.w) X.stack X.prog X.w H s Q (E σ) r s') : wants (EP X pins σ Q) X.xe r s' := by
  match r, h with
  | .error e, h => exact hx pins H s e s' I h
  | .ok (.ret u), h => exact I.after h
theorem runG (F : FnG X.prog X.w X.K X.mg X.base k f fd ps sp) (hr : RoomG k X.A) (hc : X.calm = true) (hb : Binds X.K fd ps []) (hx : PassesAt (L2N.CX X.prog X.w) X σ (E σ)) (I : Inv X pins σ H s) (r : Vals vs us) (h : sp vs H Q (E σ)) :
    wpAny (model X.prog X.w) X.A (call (.ref f) us) (EP X pins σ Q) X.xe s := by
  have hl : us.length = ps.length := r.length.symm.trans (F.len _ _ _ _ h)
  have b := hb s us I.kIn (by rw [List.append_nil]; exact hl)
  rw [List.append_nil] at b
  exact wpAny_call (codeAny_mono (F.run X.A X.stack s H ⟨us, []⟩ us vs Q (E σ) hr (I.ok.hd hc) I.env0 b r h) fun _ _ hq => call_end hx I hq)
theorem runT (F : FnT X.prog X.w X.K X.mg X.base k f fd ps sp) (hr : RoomG k X.A) (hc : L2H.HotC X) (hb : Binds X.K fd ps []) (hx : PassesAt (L2N.CX X.prog X.w) X σ (E σ)) (I : Inv X pins σ H s) (r : Vals vs us) (h : sp vs H Q (E σ)) :
    wpAny (model X.prog X.w) X.A (call (.ref f) us) (EP X pins σ Q) X.xe s := by
  obtain ⟨p, hot, hp⟩ := hc
  have hl : us.length = ps.length := r.length.symm.trans (F.len _ _ _ _ h)
  have b := hb s us I.kIn (by rw [List.append_nil]; exact hl)
  rw [List.append_nil] at b
  obtain ⟨g1, g2, g3, g4, g5⟩ := I.pin p (List.mem_append_left _ hp)
  have pin : L2H.PinOk X.stack H s p := ⟨g1, g2, fun hm => (List.mem_cons.mp (I.stkSub p.1 hm)).elim g3 g4, g5⟩
  exact wpAny_call (codeAny_mono (F.run X.A X.stack s H ⟨us, []⟩ us vs Q (E σ) p hr hot pin I.env0 b r h) fun _ _ hq => call_end hx I hq)
theorem pe_callV (hk : PySem.W.keepIn X.K (.ref f) = true) (hg : Gl X x) (hm : X.mg x = some (.ref f)) (ha : PA X (e :: es) t)
    (go : ∀ (pins : List (Addr × Obj)) (σ : L2.St) (H : Hp) (s : Shared) (Q : VK) (us : List Value) (vs : List V), Inv X pins σ H s → Vals vs us → sp vs H Q (E σ) → wpAny (model X.prog X.w) X.A (call (.ref f) us) (EP X pins σ Q) X.xe s)
    (hdb : (x == ("__debug__" : Str)) = false := by decide) (he : starEach (e :: es) X.env = (false, eval e X.env) :: starEach es X.env := by rfl) (hpl : (backTo pos (starEach es X.env)).any (·.1) = false := by rfl) :
    PE X (.Call (.Name x p) (e :: es) [] pos) (fun σ H Q => t σ H fun vs H1 => sp vs H1 Q (E σ)) := ⟨fun pins s σ H Q I h => by
  refine wpAny_Call_Name_kw (ld_glob I hg hm ?_ hdb)
  exact PySem.W.callWith_K (h₀ := X.base) I.ok.mod.kin hk (thn (ha.run pos pins s σ H _ I h) fun us s1 ⟨vs, H1, I1, r, q⟩ => ⟨I1.kIn, go pins σ H1 s1 Q us vs I1 r q⟩) he hpl⟩
end
end VS
-- VDef
set_option Elab.async false
set_option linter.all false
set_option maxRecDepth 100000
/-! VDef: freezing of slots; defs: their promise by a function on trees, their bodies, their calls. -/
namespace VS
open PySem L2

section
variable {K : PySem.W.Frag} {G H G' H' : Hp} {ms : List Md} {env env1 : Env} {σ : St} {own : List Addr}
/-- an owned slot is frozen -/
theorem SR.fz (s : SR K ms env σ G H own) (i : Nat) : ∃ G' own', SR K (ms.set i .frz) env σ G' H own' ∧ Step G H own G' H own' := by
  by_cases hi : i < env.length
  · obtain ⟨l1, l2⟩ := s.sl.lens
    obtain ⟨m, hm⟩ : ∃ m, ms[i]? = some m := ⟨ms[i]'(by omega), by simp [l1, hi]⟩
    have he := List.getElem?_eq_getElem hi
    obtain ⟨so, a0, bs, e1, sl, pm, k⟩ := s.sl.split hm he
    have nd := pm.nodup_iff.mp s.nd
    have hb : ∀ y ∈ bs, y ∈ own := fun y hy => pm.symm.subset (List.mem_append_right _ hy)
    have ha : ∀ y ∈ a0, y ∈ own := fun y hy => pm.symm.subset (List.mem_append_left _ hy)
    have g0 : ∀ x ∈ a0, G x = none := fun x hx => (s.sl.at x (ha x hx)).1
    have gs := frzG_sub (H := H) g0
    have ga : ∀ x ∈ a0, frzG G H a0 x = H x := fun x hx => by unfold frzG; rw [if_pos hx]
    have gb : ∀ x, x ∉ a0 → frzG G H a0 x = G x := fun x hx => by unfold frzG; rw [if_neg hx]
    have dis : ∀ y ∈ bs, y ∉ a0 := fun y hy hz => (List.nodup_append.mp nd).2.2 y hz y hy rfl
    obtain ⟨own', sl', pm'⟩ := k (frzG G H a0) H .frz env[i] so [] gs (fun y hy => ⟨rfl, by rw [gb y (dis y hy)]; exact (s.sl.at y (hb y hy)).1⟩) (by
      cases q : env[i] with
      | none => rfl
      | some t =>
        rw [q] at sl
        obtain ⟨v, e, r⟩ := sl
        exact ⟨v, e, .frz (r.froze gs ga)⟩)
    rw [set_same he, set_same e1] at sl'
    have sb : ∀ y ∈ own', y ∈ bs := fun y hy => by simpa using pm'.subset hy
    refine ⟨_, own', ⟨sl', pm'.nodup_iff.mpr (by simpa using (List.nodup_append.mp nd).2.1), fun x o q => ?_⟩, gs, fun x o e _ => e, fun x hx => .inl (hb x (sb x hx)), fun x hx => ?_, fun x hx => hx⟩
    · by_cases hx : x ∈ a0
      · rw [ga x hx] at q; exact q
      · rw [gb x hx] at q; exact s.sub _ _ q
    · by_cases hx' : x ∈ a0
      · exact .inr (.inl (ha x hx'))
      · rw [gb x hx'] at hx; exact .inl hx
  · obtain ⟨l1, l2⟩ := s.sl.lens
    rw [List.set_eq_of_length_le (by omega)]
    exact ⟨G, own, s, .refl fun _ h => h⟩
end
section
variable {X : Cx} {W : WX} {fx : List (Nat × Md)} {ms ms1 ms2 ms3 msL msN : List Md} {e c tg iter elt : Expr} {es ifs : List Expr} {st : Stmt} {body rest : List Stmt} {r : Md} {pos : Pos}
theorem BJ.fz (i : Nat) {f : FS} (h : BJ X W fx (ms.set i .frz) rest msN msL r f) : BJ X W fx ms rest msN msL r f := PSs.weak h fun D σ H ⟨env, G, own, s, w⟩ => by
  obtain ⟨G', own', s', stp⟩ := s.fz i
  exact ⟨env, G', own', s', w.after stp (.refl σ)⟩
theorem SJ.fz (i : Nat) {f : FS} (h : SJ X W fx ms st msN msL r f) : SJ X W fx ms st (msN.set i .frz) msL r f := PS.weak h fun D σ H ⟨env, G, own, s, w⟩ => ⟨env, G, own, s, w.ns, fun env' e σ' G' H' own' s' f' stp => by
  obtain ⟨G2, own2, s2, st2⟩ := s'.fz i
  exact w.nx env' e σ' G2 H' own2 s2 f' (stp.trans st2), w.bk, w.ct, w.rt, w.ex⟩
end

/-! ### a def's promise -/
def SpF (K : PySem.W.Frag) (pms : List Md) (r : Md) (f : List T → Out T) : Sp := fun vs H Q E =>
  vs.length = pms.length ∧ ∃ (G : Hp) (ts : List T) (own : List Addr), SR K pms (ts.map some) (vs.map some) G H own ∧ f ts ≠ .stk ∧
    (∀ v env', f ts = .ok v env' → ∀ u G' H' own' as, SR K pms env' (vs.map some) G' H' own' → OwR K G' H' r v u as → (as ++ own').Nodup → Step G H own G' H' (as ++ own') → Q u H') ∧
    (∀ x env', f ts = .exc x env' → ∀ cls d G' H' own', SR K pms env' (vs.map some) G' H' own' → ExR K G' H' x cls d → Step G H own G' H' own' → E cls d H')
/-- the owned parameters' ends -/
def mask : List Md → Env → Env
  | [], _ => []
  | .frz :: pms, _ :: env => none :: mask pms env
  | .own _ :: pms, eo :: env => eo :: mask pms env
  | .obj _ :: pms, eo :: env => eo :: mask pms env
  | _ :: pms, [] => none :: mask pms []
def fxOf : List Md → Nat → List (Nat × Md)
  | [], _ => []
  | .frz :: pms, i => fxOf pms (i + 1)
  | m :: pms, i => (i, m) :: fxOf pms (i + 1)
def finF (pms : List Md) (r : Md) (o : SOut) : Out T := match o with
  | .ret v env => .ok v (mask pms env)
  | .nxt env => (match r with
    | .frz => .ok .non (mask pms env)
    | _ => .stk)
  | .exc x env => .exc x (mask pms env)
  | _ => .stk
/-- a def's function: its body at the parameters -/
def defF (pms : List Md) (r : Md) (n : Nat) (body : FS) (ts : List T) : Out T := if ts.length = pms.length then finF pms r (body (ts.map some ++ List.replicate n none)) else .stk
section
variable {K : PySem.W.Frag} {G H G' H' : Hp}
theorem SL.start {lms : List Md} : ∀ {pms : List Md} {env : Env} {σ : St} {own : List Addr}, SL K G H pms env σ own → SL K G H (pms ++ lms) (env ++ List.replicate lms.length none) (σ ++ List.replicate lms.length none) own
  | _, _, _, _, .nil => by
    induction lms with
    | nil => exact .nil
    | cons m lms ih => exact .no ih
  | _, _, _, _, .no r => .no (SL.start r)
  | _, _, _, _, .ok h r => .ok h (SL.start r)
/-- the owned parameters, at the end -/
theorem SL.mask : ∀ {pms : List Md} {vs : List V} {k : Nat} {msR : List Md} {env : Env} {σ : St} {own : List Addr}, SL K G H msR env σ own → vs.length = pms.length → pms.length ≤ env.length →
    (∀ p ∈ fxOf pms k, msR[p.1 - k]? = some p.2) → (∀ p ∈ fxOf pms k, k ≤ p.1 ∧ σ[p.1 - k]? = (vs.map some)[p.1 - k]?) → ∃ own', SL K G H pms (VS.mask pms env) (vs.map some) own' ∧ own'.Sublist own
  | [], [], _, _, _, _, _, _, _, _, _, _ => ⟨[], .nil, List.nil_sublist _⟩
  | [], _ :: _, _, _, _, _, _, _, h, _, _, _ => by simp at h
  | _ :: _, [], _, _, _, _, _, _, h, _, _, _ => by simp at h
  | pm :: pms, v :: vs, k, _, [], _, _, _, _, h, _, _ => by simp at h
  | pm :: pms, v :: vs, k, m :: msR, eo :: env, so :: σ, own, sl, h1, h2, h3, h4 => by
    have step : ∀ {fx : List (Nat × Md)}, fxOf pms (k + 1) = fx → (∀ p ∈ fx, p ∈ fxOf (pm :: pms) k) → (∀ p ∈ fx, k + 1 ≤ p.1) → (∀ p ∈ fx, msR[p.1 - (k + 1)]? = some p.2) ∧ ∀ p ∈ fx, k + 1 ≤ p.1 ∧ σ[p.1 - (k + 1)]? = (vs.map some)[p.1 - (k + 1)]? := by
      intro fx _ hin hle
      refine ⟨fun p hp => ?_, fun p hp => ⟨hle p hp, ?_⟩⟩
      · have a := h3 p (hin p hp)
        have b := hle p hp
        rw [show p.1 - k = (p.1 - (k + 1)) + 1 by omega] at a
        simpa using a
      · have a := (h4 p (hin p hp)).2
        have b := hle p hp
        rw [show p.1 - k = (p.1 - (k + 1)) + 1 by omega] at a
        simpa using a
    have le : ∀ (l : List Md) (j : Nat), ∀ p ∈ fxOf l j, j ≤ p.1 := by
      intro l
      induction l with
      | nil => intro j p hp; cases hp
      | cons m l ih =>
        intro j p hp
        cases m with
        | frz => exact Nat.le_of_succ_le (ih (j + 1) p hp)
        | own c =>
          rcases List.mem_cons.mp hp with rfl | hp
          · exact Nat.le_refl _
          · exact Nat.le_of_succ_le (ih (j + 1) p hp)
        | obj c =>
          rcases List.mem_cons.mp hp with rfl | hp
          · exact Nat.le_refl _
          · exact Nat.le_of_succ_le (ih (j + 1) p hp)
    have h1' : vs.length = pms.length := by simpa using h1
    have h2' : pms.length ≤ env.length := by simpa using h2
    cases pm with
    | frz =>
      obtain ⟨a, b⟩ := step rfl (fun p hp => hp) (le pms (k + 1))
      cases sl with
      | no rr =>
        obtain ⟨o, s, sb⟩ := SL.mask (k := k + 1) rr h1' h2' a b
        exact ⟨o, .no s, sb⟩
      | ok hh rr =>
        obtain ⟨o, s, sb⟩ := SL.mask (k := k + 1) rr h1' h2' a b
        exact ⟨o, .no s, sb.trans (List.sublist_append_right _ _)⟩
    | own c =>
      obtain ⟨a, b⟩ := step rfl (fun p hp => List.mem_cons_of_mem _ hp) (le pms (k + 1))
      have hm : m = .own c := by simpa using h3 (k, .own c) List.mem_cons_self
      have hs : so = some v := by simpa using (h4 (k, .own c) List.mem_cons_self).2
      subst hm hs
      cases sl with
      | no rr =>
        obtain ⟨o, s, sb⟩ := SL.mask (k := k + 1) rr h1' h2' a b
        exact ⟨o, .no s, sb⟩
      | ok hh rr =>
        obtain ⟨o, s, sb⟩ := SL.mask (k := k + 1) rr h1' h2' a b
        exact ⟨_, .ok hh s, List.Sublist.append_left sb _⟩
    | obj c =>
      obtain ⟨a, b⟩ := step rfl (fun p hp => List.mem_cons_of_mem _ hp) (le pms (k + 1))
      have hm : m = .obj c := by simpa using h3 (k, .obj c) List.mem_cons_self
      have hs : so = some v := by simpa using (h4 (k, .obj c) List.mem_cons_self).2
      subst hm hs
      cases sl with
      | no rr =>
        obtain ⟨o, s, sb⟩ := SL.mask (k := k + 1) rr h1' h2' a b
        exact ⟨o, .no s, sb⟩
      | ok hh rr =>
        obtain ⟨o, s, sb⟩ := SL.mask (k := k + 1) rr h1' h2' a b
        exact ⟨_, .ok hh s, List.Sublist.append_left sb _⟩
end

theorem FxOk.nil {ms : List Md} : FxOk [] ms := fun _ h => nomatch h
theorem FxOk.cons {i : Nat} {m : Md} {fx : List (Nat × Md)} {ms : List Md} (h : ms[i]? = some m) (k : FxOk fx ms) : FxOk ((i, m) :: fx) ms := fun p hp => (List.mem_cons.mp hp).elim (fun e => by rw [e]; exact h) (k p)
/-- a def keeps its promise -/
structure DefOk (P : Program) (w : World) (K : PySem.W.Frag) (mg : Str → Option Value) (base : Heap) (k : Nat) (fa : Addr) (fd : FuncData) (ps : List Str) (pms : List Md) (r : Md) (f : List T → Out T) : Prop where
  ok : FnG P w K mg base k fa fd ps (SpF K pms r f)
  len : ∀ ts, f ts ≠ .stk → ts.length = pms.length
/-- .. within a suite -/
structure DefT (P : Program) (w : World) (K : PySem.W.Frag) (mg : Str → Option Value) (base : Heap) (k : Nat) (fa : Addr) (fd : FuncData) (ps : List Str) (pms : List Md) (r : Md) (f : List T → Out T) : Prop where
  ok : FnT P w K mg base k fa fd ps (SpF K pms r f)
  len : ∀ ts, f ts ≠ .stk → ts.length = pms.length
theorem DefT.mono {P : Program} {w : World} {K : PySem.W.Frag} {mg : Str → Option Value} {base : Heap} {j k : Nat} {fa : Addr} {fd : FuncData} {ps : List Str} {pms : List Md} {r : Md} {f : List T → Out T} (h : DefT P w K mg base j fa fd ps pms r f) (e : j ≤ k) : DefT P w K mg base k fa fd ps pms r f := ⟨h.ok.mono e, h.len⟩
theorem DefOk.mono {P : Program} {w : World} {K : PySem.W.Frag} {mg : Str → Option Value} {base : Heap} {j k : Nat} {fa : Addr} {fd : FuncData} {ps : List Str} {pms : List Md} {r : Md} {f : List T → Out T} (h : DefOk P w K mg base j fa fd ps pms r f) (e : j ≤ k) : DefOk P w K mg base k fa fd ps pms r f := ⟨h.ok.mono e, h.len⟩
theorem defF_len {pms : List Md} {r : Md} {n : Nat} {body : FS} {ts : List T} (h : defF pms r n body ts ≠ .stk) : ts.length = pms.length := by
  unfold defF at h
  split at h
  · assumption
  · exact absurd rfl h
abbrev WX.of (E : XK) : WX := fun cls d _ H => E cls d H
/-- the body's context -/
abbrev bodyX (P : Program) (w : World) (K : PySem.W.Frag) (mg : Str → Option Value) (base : Heap) (N : List Str) (qual : Str) (st : Stmt) (f : Addr) (cdv : Value) (A : Around) (outer : List PySem.Env) (s : Shared) (H : Hp) (E : XK) : Cx :=
  cxOf (L2N.CX P w) P w K mg base N qual (defScope st) f cdv A outer s H E
/-- the body's start and ends, by the promise -/
theorem def_core {K : PySem.W.Frag} {N : List Str} {pms lms msN msL : List Md} {r : Md} {body : FS} {vs : List V} {H : Hp} {Q : VK} {E : XK} (hN : pms.length + lms.length = N.length) (hx : FxOk (fxOf pms 0) msN)
    (h : SpF K pms r (defF pms r lms.length body) vs H Q E) : semS K (WX.of E) (fxOf pms 0) (pms ++ lms) msN msL r body { nx := fun _ H' => Q .non H', rt := Q } (L2.start N vs) H := by
  obtain ⟨hl, G, ts, own, sr, ns, hok, hex⟩ := h
  have hts : ts.length = pms.length := by
    have a := sr.sl.lens
    simpa using a.1.symm
  refine ⟨ts.map some ++ List.replicate lms.length none, G, own, ⟨?_, sr.nd, sr.sub⟩, ?_⟩
  · have q := sr.sl.start (lms := lms)
    have e : L2.start N vs = vs.map some ++ List.replicate lms.length none := by
      unfold L2.start
      rw [show N.length - vs.length = lms.length by omega]
    rw [e]
    exact q
  · generalize ho : body (ts.map some ++ List.replicate lms.length none) = o
    have ed : defF pms r lms.length body ts = finF pms r o := by
      unfold defF
      rw [if_pos hts, ho]
    have lenE : ∀ {msR : List Md} {env : Env} {σ' : St} {G' H' : Hp} {own' : List Addr}, SR K msR env σ' G' H' own' → FxOk (fxOf pms 0) msR → FxS (fxOf pms 0) (L2.start N vs) σ' → ∃ own2, SR K pms (mask pms env) (vs.map some) G' H' own2 ∧ ∀ x ∈ own2, x ∈ own' := fun {msR env σ' G' H' own'} s' fo fs => by
      have l := s'.sl.lens
      have hle := fs.1
      have hsl : (L2.start N vs).length = N.length := by
        unfold L2.start
        rw [List.length_append, List.length_map, List.length_replicate]
        omega
      obtain ⟨own2, sl2, sb⟩ := SL.mask (k := 0) (vs := vs) s'.sl hl (by omega) (fun p hp => by simpa using fo p hp) (fun p hp => ⟨Nat.zero_le _, by
        have a := fs.2 p hp
        have hm : p.1 < pms.length := by
          have b : ∀ (l : List Md) (j : Nat), ∀ p ∈ fxOf l j, p.1 < j + l.length := by
            intro l
            induction l with
            | nil => intro j p hp; cases hp
            | cons m l ih =>
              intro j p hp
              have c : ∀ p ∈ fxOf l (j + 1), p.1 < j + (m :: l).length := fun p hp => by
                have := ih (j + 1) p hp
                simp only [List.length_cons]
                omega
              cases m with
              | frz => exact c p hp
              | own c' =>
                rcases List.mem_cons.mp hp with rfl | hp
                · simp only [List.length_cons]; omega
                · exact c p hp
              | obj c' =>
                rcases List.mem_cons.mp hp with rfl | hp
                · simp only [List.length_cons]; omega
                · exact c p hp
          have := b pms 0 p hp
          omega
        rw [Nat.sub_zero, a]
        unfold L2.start
        rw [List.getElem?_append_left (by rw [List.length_map]; omega)]⟩)
      exact ⟨own2, ⟨sl2, s'.nd.sublist sb, s'.sub⟩, fun x hx => sb.subset hx⟩
    refine ⟨fun e => ns (by rw [ed, e]; rfl), fun env' e σ' G' H' own' s' fs stp => ?_, fun env' e => absurd (by rw [ed, e]; rfl) ns, fun env' e => absurd (by rw [ed, e]; rfl) ns, fun v env' e u msR σ' G' H' own' as fo s' fs rel nd stp => ?_, fun x env' e msR σ' cls d G' H' own' fo s' fs er stp => ?_⟩
    · obtain ⟨own2, s2, sb⟩ := lenE s' hx fs
      cases r with
      | frz => exact hok .non _ (by rw [ed, e]; rfl) .non G' H' own2 [] s2 (.frz .non) s2.nd (stp.own sb)
      | own c => exact absurd (by rw [ed, e]; rfl) ns
      | obj c => exact absurd (by rw [ed, e]; rfl) ns
    · obtain ⟨own2, s2, sb⟩ := lenE s' fo fs
      rw [List.nodup_append] at nd
      refine hok v _ (by rw [ed, e]; rfl) u G' H' own2 as s2 rel (List.nodup_append.mpr ⟨nd.1, s2.nd, fun a ha b hb => nd.2.2 a ha b (sb b hb)⟩) (stp.own fun x hx => ?_)
      rcases List.mem_append.mp hx with z | z
      · exact List.mem_append_left _ z
      · exact List.mem_append_right _ (sb x z)
    · obtain ⟨own2, s2, sb⟩ := lenE s' fo fs
      exact hex x _ (by rw [ed, e]; rfl) cls d G' H' own2 s2 er (stp.own sb)
/-- THE RULE for a def -/
theorem fnJ {P : Program} {w : World} {K : PySem.W.Frag} {mg : Str → Option Value} {base : Heap} {x qual : Str} {st : Stmt} {f : Addr} {fd : FuncData} {N ps : List Str} {k : Nat} {pms lms msN msL : List Md} {r : Md} {body : FS}
    (F : Fun K x qual st f fd) (S : FnScope N ps (defScope st)) (hp : pms.length = ps.length) (hN : pms.length + lms.length = N.length) (hx : FxOk (fxOf pms 0) msN)
    (hb : ∀ (cdv : Value) (A : Around) (outer : List PySem.Env) (s : Shared) (H : Hp) (E : XK), RoomG k (bodyX P w K mg base N qual st f cdv A outer s H E).A → Cok (bodyX P w K mg base N qual st f cdv A outer s H E) (WX.of E) →
      BJ (bodyX P w K mg base N qual st f cdv A outer s H E) (WX.of E) (fxOf pms 0) (pms ++ lms) (defBody st) msN msL r body) :
    DefOk P w K mg base (k + 1) f fd ps pms r (defF pms r lms.length body) := by
  refine ⟨fnG_of F S (fun vs H Q E h => h.1.trans hp) (fun cdv A outer s H vs Q E hr h => ?_), fun ts => defF_len⟩
  have C : Cok (bodyX P w K mg base N qual st f cdv A outer s H E) (WX.of E) := ⟨⟨Nat.lt_of_le_of_lt (Nat.add_le_add_left (show 70 ≤ 16 * k + 200 by omega) _) (by rw [← Nat.add_assoc]; exact hr.rm.un), L2N.takes_of rfl rfl rfl rfl, passes_of rfl, S.nd, hr.gd⟩, rfl⟩
  exact ⟨_, hb cdv A outer s H E hr C, def_core hN hx h⟩
/-- the body's context within a suite -/
abbrev bodyT (P : Program) (w : World) (K : PySem.W.Frag) (mg : Str → Option Value) (base : Heap) (N : List Str) (qual : Str) (st : Stmt) (f : Addr) (cdv : Value) (A : Around) (outer : List PySem.Env) (s : Shared) (H : Hp) (E : XK) (p : Addr × Obj) : Cx :=
  L2H.cxH (L2N.CX P w) P w K mg base N qual (defScope st) f cdv A outer s H E p
theorem fnT {P : Program} {w : World} {K : PySem.W.Frag} {mg : Str → Option Value} {base : Heap} {x qual : Str} {st : Stmt} {f : Addr} {fd : FuncData} {N ps : List Str} {k : Nat} {pms lms msN msL : List Md} {r : Md} {body : FS}
    (F : Fun K x qual st f fd) (S : FnScope N ps (defScope st)) (hp : pms.length = ps.length) (hN : pms.length + lms.length = N.length) (hx : FxOk (fxOf pms 0) msN)
    (hb : ∀ (cdv : Value) (A : Around) (outer : List PySem.Env) (s : Shared) (H : Hp) (E : XK) (p : Addr × Obj), RoomG k (bodyT P w K mg base N qual st f cdv A outer s H E p).A → Kok (bodyT P w K mg base N qual st f cdv A outer s H E p) (WX.of E) → L2H.HotC (bodyT P w K mg base N qual st f cdv A outer s H E p) →
      BJ (bodyT P w K mg base N qual st f cdv A outer s H E p) (WX.of E) (fxOf pms 0) (pms ++ lms) (defBody st) msN msL r body) :
    DefT P w K mg base (k + 1) f fd ps pms r (defF pms r lms.length body) := by
  refine ⟨fnT_of F S (fun vs H Q E h => h.1.trans hp) (fun cdv A outer s H vs Q E p hot hr h => ?_), fun ts => defF_len⟩
  have C : Kok (bodyT P w K mg base N qual st f cdv A outer s H E p) (WX.of E) := ⟨Nat.lt_of_le_of_lt (Nat.add_le_add_left (show 70 ≤ 16 * k + 200 by omega) _) (by rw [← Nat.add_assoc]; exact hr.rm.un), L2N.takes_of rfl rfl rfl rfl, passes_of rfl, S.nd, hr.gd⟩
  exact ⟨_, hb cdv A outer s H E p hr C ⟨p, hot, List.mem_cons_self⟩, def_core hN hx h⟩
/-- all frozen -/
def allFrz (pms : List Md) : Bool := pms.all fun m => match m with
  | .frz => true
  | _ => false
end VS
-- VCall
set_option Elab.async false
set_option linter.all false
set_option maxRecDepth 100000
/-! VCall: calls of defs; what is done to owned slots. -/
namespace VS
open PySem L2

section
variable {K : PySem.W.Frag} {G H G' H' : Hp} {ms : List Md} {env : Env} {σ : St} {own : List Addr}
theorem SL.frzs : ∀ {pms : List Md} {ts : List T} {vs : List V}, allFrz pms = true → TrL K G ts vs → ts.length = pms.length → SL K G H pms (ts.map some) (vs.map some) []
  | [], _, _, _, .nil, _ => .nil
  | [], _, _, _, .cons _ _, e => by simp at e
  | _ :: _, _, _, _, .nil, e => by simp at e
  | .frz :: pms, _, _, a, .cons h r, e => .ok (as := []) (bs := []) (.frz h) (SL.frzs (by simpa [allFrz] using a) r (by simpa using e))
  | .own _ :: pms, _, _, a, .cons h r, e => by simp [allFrz] at a
  | .obj _ :: pms, _, _, a, .cons h r, e => by simp [allFrz] at a
theorem SL.frz_own : ∀ {pms : List Md} {env : Env} {σ : St} {own : List Addr}, allFrz pms = true → SL K G H pms env σ own → own = []
  | _, _, _, _, _, .nil => rfl
  | .frz :: pms, _, _, _, a, .no r => SL.frz_own (pms := pms) (by simpa [allFrz] using a) r
  | .frz :: pms, _, _, _, a, .ok h r => by
    rw [SL.frz_own (pms := pms) (by simpa [allFrz] using a) r, (OwR.frz_iff.mp h).2]
    rfl
  | .own _ :: pms, _, _, _, a, .no _ => by simp [allFrz] at a
  | .obj _ :: pms, _, _, _, a, .no _ => by simp [allFrz] at a
  | .own _ :: pms, _, _, _, a, .ok _ _ => by simp [allFrz] at a
  | .obj _ :: pms, _, _, _, a, .ok _ _ => by simp [allFrz] at a
/-- what a slot owned was changed by a piece of code that had it alone -/
theorem SR.part (s : SR K ms env σ G H own) {j : Nat} {m : Md} {as bs a2 as2 own2 : List Addr} {eo : Option T} {so : Option V} {env' : Env} {σ' : St} {ms' : List Md} (pm : own.Perm (as ++ bs)) (sub : ∀ a o, G' a = some o → H' a = some o)
    (k : ∀ (G' H' : Hp) (m' : Md) (eo' : Option T) (so' : Option V) (as' : List Addr), (∀ a o, G a = some o → G' a = some o) → (∀ a ∈ bs, H' a = H a ∧ G' a = none) → SlotR K G' H' m' eo' so' as' →
        ∃ own', SL K G' H' (ms.set j m') (env.set j eo') (σ.set j so') own' ∧ own'.Perm (as' ++ bs))
    (stp : Step G H as G' H' (as2 ++ own2)) (nd2 : (as2 ++ own2).Nodup) (sl : SlotR K G' H' m eo so a2) (h2 : ∀ x ∈ a2, x ∈ own2) (nda : a2.Nodup) :
    ∃ own', SR K (ms.set j m) (env.set j eo) (σ.set j so) G' H' own' ∧ (as2 ++ own').Nodup ∧ Step G H own G' H' (as2 ++ own') := by
  have nd := pm.nodup_iff.mp s.nd
  have hb : ∀ y ∈ bs, y ∈ own := fun y hy => pm.symm.subset (List.mem_append_right _ hy)
  have ha : ∀ y ∈ as, y ∈ own := fun y hy => pm.symm.subset (List.mem_append_left _ hy)
  have dis : ∀ y ∈ bs, y ∉ as := fun y hy hz => (List.nodup_append.mp nd).2.2 y hz y hy rfl
  have kb : ∀ a ∈ bs, H' a = H a ∧ G' a = none := fun a hab => by
    obtain ⟨g, h⟩ := s.sl.at a (hb a hab)
    constructor
    · cases e : H a with
      | none => exact absurd e h
      | some o => exact stp.fr a o e (dis a hab)
    · cases e : G' a with
      | none => rfl
      | some o =>
        rcases stp.gn a (by rw [e]; simp) with z | z | z
        · exact absurd g z
        · exact absurd z (dis a hab)
        · exact absurd z h
  obtain ⟨own', sl', pm'⟩ := k G' H' m eo so a2 stp.gm kb sl
  have nw2 : ∀ x ∈ as2 ++ own2, x ∉ bs := fun x hx hxb => by
    rcases stp.nw x hx with z | z
    · exact dis x hxb z
    · exact (s.sl.at x (hb x hxb)).2 z
  have q := List.nodup_append.mp nd2
  have ndo : own'.Nodup := pm'.nodup_iff.mpr (List.nodup_append.mpr ⟨nda, (List.nodup_append.mp nd).2.1, fun x hx y hy e => nw2 x (List.mem_append_right _ (h2 x hx)) (e ▸ hy)⟩)
  refine ⟨own', ⟨sl', ndo, sub⟩, List.nodup_append.mpr ⟨q.1, ndo, fun x hx y hy e => ?_⟩, ?_⟩
  · rcases List.mem_append.mp (pm'.subset hy) with z | z
    · exact q.2.2 x hx y (h2 y z) e
    · exact nw2 x (List.mem_append_left _ hx) (e ▸ z)
  · refine ⟨stp.gm, fun a o e n => stp.fr a o e fun z => n (ha a z), fun a hx => ?_, fun a hx => (stp.gn a hx).imp id fun z => z.imp (ha a) id, stp.no⟩
    rcases List.mem_append.mp hx with z | z
    · exact (stp.nw a (List.mem_append_left _ z)).imp (ha a) id
    · rcases List.mem_append.mp (pm'.subset z) with z | z
      · exact (stp.nw a (List.mem_append_right _ (h2 a z))).imp (ha a) id
      · exact .inl (hb a z)
end

/-! ### calls of defs -/
def app0 (f : List T → Out T) (ts : List T) (env : Env) : Out T := match f ts with
  | .ok v _ => .ok v env
  | .exc x _ => .exc x env
  | .stk => .stk
def cal0 (f : List T → Out T) (g : FA) : FE := fun env => (g env).bind (app0 f)
def app1 (f : List T → Out T) (j : Nat) (ts : List T) (env : Env) : Out T := match env[j]? with
  | some (some t0) => (match f (t0 :: ts) with
    | .ok v penv => .ok v (env.set j (penv.headD none))
    | .exc x penv => .exc x (env.set j (penv.headD none))
    | .stk => .stk)
  | _ => .stk
def cal1 (f : List T → Out T) (j : Nat) (g : FA) : FE := fun env => match env[j]? with
  | some (some _) => (g env).bind (app1 f j)
  | _ => .stk
section
variable {X : Cx} {W : WX} {fx : List (Nat × Md)} {ms ms1 ms2 ms3 msL msN : List Md} {e c tg iter elt : Expr} {es ifs : List Expr} {st : Stmt} {body rest : List Stmt} {r : Md} {pos p : Pos}
variable {k : Nat} {fa : Addr} {fd : FuncData} {ps : List Str} {pms : List Md} {x : Str} {f : List T → Out T}
theorem app0_rj {P : Hp → Prop} (len : ∀ ts, f ts ≠ .stk → ts.length = pms.length) (hz : allFrz pms = true) (fo : FxOk fx ms) {ts : List T} {vs : List V} :
    RJ X.K W fx (fun G => P G ∧ TrL X.K G ts vs) ms ms (fun G H a b as => OwR X.K G H r a b as) (fun σ H Q => SpF X.K pms r f vs H Q (WE W σ)) (app0 f ts) := by
  intro env σ G H own p s ns Q hok hex
  have nf : f ts ≠ .stk := fun e => ns (by unfold app0; rw [e])
  have hl := len ts nf
  refine ⟨by rw [← p.2.length]; exact hl, G, ts, [], ⟨SL.frzs hz p.2 hl, .nil, s.sub⟩, nf, fun v env' e u G' H' own' as s' rel nd stp => ?_, fun x env' e cls d G' H' own' s' er stp => ?_⟩
  · have o' : own' = [] := SL.frz_own hz s'.sl
    subst o'
    rw [List.append_nil] at stp nd
    exact hok v env (by unfold app0; rw [e]) u G' H' own as (s.keep stp s'.sub) rel (nodup_fresh s stp nd) stp.lift
  · have o' : own' = [] := SL.frz_own hz s'.sl
    subst o'
    exact hex x env (by unfold app0; rw [e]) ms cls d G' H' own fo (s.keep stp s'.sub) er (by simpa using stp.lift (own := own))
/-- f(e, ..), nothing owned handed -/
theorem EJ.call {g : FA} (C : Cok X W) (F : DefOk X.prog X.w X.K X.mg X.base k fa fd ps pms r f) (hr : RoomG k X.A) (hg : Gl X x) (hm : X.mg x = some (.ref fa)) (kp : PySem.W.keepIn X.K (.ref fa) = true) (b : Binds X.K fd ps []) (hz : allFrz pms = true) (fo : FxOk fx ms1)
    (ha : AJ X W fx ms (e :: es) ms1 g) (hdb : (x == ("__debug__" : Str)) = false := by decide) (he : starEach (e :: es) X.env = (false, eval e X.env) :: starEach es X.env := by rfl) (hpl : (backTo pos (starEach es X.env)).any (·.1) = false := by rfl) :
    EJ X W fx ms (.Call (.Name x p) (e :: es) [] pos) r ms1 (cal0 f g) := by
  obtain ⟨t, pa, rj⟩ := ha
  exact ⟨_, pe_callV kp hg hm pa (fun pins σ H s Q us vs I r h => runG F.ok hr C.calm b (L2N.passAt C.tk σ) I r h) hdb he hpl, RJ.bind (t := t) PMono.true rj fun ts vs => app0_rj F.len hz fo⟩
/-- .. within a suite -/
theorem EJ.callT {g : FA} (C : Kok X W) (hot : L2H.HotC X) (F : DefT X.prog X.w X.K X.mg X.base k fa fd ps pms r f) (hr : RoomG k X.A) (hg : Gl X x) (hm : X.mg x = some (.ref fa)) (kp : PySem.W.keepIn X.K (.ref fa) = true) (b : Binds X.K fd ps []) (hz : allFrz pms = true) (fo : FxOk fx ms1)
    (ha : AJ X W fx ms (e :: es) ms1 g) (hdb : (x == ("__debug__" : Str)) = false := by decide) (he : starEach (e :: es) X.env = (false, eval e X.env) :: starEach es X.env := by rfl) (hpl : (backTo pos (starEach es X.env)).any (·.1) = false := by rfl) :
    EJ X W fx ms (.Call (.Name x p) (e :: es) [] pos) r ms1 (cal0 f g) := by
  obtain ⟨t, pa, rj⟩ := ha
  exact ⟨_, pe_callV kp hg hm pa (fun pins σ H s Q us vs I r h => runT F.ok hr hot b (L2N.passAt C.tk σ) I r h) hdb he hpl, RJ.bind (t := t) PMono.true rj fun ts vs => app0_rj F.len hz fo⟩
theorem app1_rj {P : Hp → Prop} {j : Nat} {m : Md} (len : ∀ ts, f ts ≠ .stk → ts.length = (m :: pms).length) (hz : allFrz pms = true) (hm : ms[j]? = some m) (fo : FxOk fx ms) {ts : List T} {vs : List V} :
    RJ X.K W fx (fun G => P G ∧ TrL X.K G ts vs) ms ms (fun G H a b as => OwR X.K G H r a b as) (fun σ H Q => ∀ v0, σ[j]? = some (some v0) → SpF X.K (m :: pms) r f (v0 :: vs) H Q (WE W σ)) (app1 f j ts) := by
  intro env σ G H own p s ns Q hok hex v0 hv0
  cases ee : env[j]? with
  | none => exact absurd (by unfold app1; rw [ee]) ns
  | some eo0 =>
    cases eo0 with
    | none => exact absurd (by unfold app1; rw [ee]) ns
    | some t0 =>
      obtain ⟨so, as, bs, e1, ⟨v, rfl, rel⟩, pm, kk⟩ := s.sl.split hm ee
      rw [hv0] at e1
      cases e1
      have nf : f (t0 :: ts) ≠ .stk := fun e => ns (by unfold app1; rw [ee]; simp only [e])
      have hl := len _ nf
      have hl' : ts.length = pms.length := by simpa using hl
      have nd0 := List.nodup_append.mp (pm.nodup_iff.mp s.nd)
      have fin : ∀ {penv : Env} {G' H' : Hp} {own' as2 : List Addr}, SR X.K (m :: pms) penv ((v0 :: vs).map some) G' H' own' → (as2 ++ own').Nodup → Step G H as G' H' (as2 ++ own') →
          ∃ own2, SR X.K ms (env.set j (penv.headD none)) σ G' H' own2 ∧ (as2 ++ own2).Nodup ∧ Step G H own G' H' (as2 ++ own2) := fun {penv G' H' own' as2} s' nd stp => by
        have q : ∃ a2 b2, SlotR X.K G' H' m (penv.headD none) (some v0) a2 ∧ own' = a2 ++ b2 := by
          generalize hpm : m :: pms = M at s'
          generalize hvs : (v0 :: vs).map some = S at s'
          obtain ⟨sl, _, _⟩ := s'
          cases sl with
          | nil => cases hpm
          | no r2 => exact ⟨[], _, rfl, rfl⟩
          | ok h2 r2 =>
            cases hpm
            cases hvs
            exact ⟨_, _, ⟨_, rfl, h2⟩, rfl⟩
        obtain ⟨a2, b2, sl2, e2⟩ := q
        have nda : a2.Nodup := by
          have q := (List.nodup_append.mp nd).2.1
          rw [e2] at q
          exact (List.nodup_append.mp q).1
        obtain ⟨own2, s2, n2, st2⟩ := s.part (m := m) (so := some v0) pm s'.sub kk stp nd sl2 (fun x hx => by rw [e2]; exact List.mem_append_left _ hx) nda (env' := env) (σ' := σ) (ms' := ms)
        rw [set_same hm, set_same hv0] at s2
        exact ⟨own2, s2, n2, st2⟩
      have sl0 : SL X.K G H (m :: pms) ((t0 :: ts).map some) ((v0 :: vs).map some) (as ++ []) := .ok rel (SL.frzs hz p.2 hl')
      refine ⟨by simp only [List.length_cons]; rw [← p.2.length, hl'], G, t0 :: ts, as, ⟨by simpa using sl0, nd0.1, s.sub⟩, nf, fun v penv e u G' H' own' as2 s' rel2 nd stp => ?_, fun x penv e cls d G' H' own' s' er stp => ?_⟩
      · obtain ⟨own2, s2, n2, st2⟩ := fin s' nd stp
        exact hok v _ (by unfold app1; rw [ee]; simp only [e]) u G' H' own2 as2 s2 rel2 n2 st2
      · obtain ⟨own2, s2, n2, st2⟩ := fin (as2 := []) s' (by simpa using s'.nd) (by simpa using stp)
        exact hex x _ (by unfold app1; rw [ee]; simp only [e]) ms cls d G' H' own2 fo s2 er (by simpa using st2)
/-- f(y, e, ..), the owned thing at slot j handed first -/
theorem EJ.call1 {g : FA} {j : Nat} {m : Md} {y : Str} {p2 : Pos} (C : Cok X W) (F : DefOk X.prog X.w X.K X.mg X.base k fa fd ps (m :: pms) r f) (hr : RoomG k X.A) (hg : Gl X x) (hm : X.mg x = some (.ref fa)) (kp : PySem.W.keepIn X.K (.ref fa) = true) (b : Binds X.K fd ps []) (hz : allFrz pms = true) (fo : FxOk fx ms1)
    (ha : AJ X W fx ms es ms1 g) (hj : ms1[j]? = some m := by rfl) (hN : X.N[j]? = some y := by rfl) (hv : Vis X.env.scope y := by first | exact Or.inl rfl | exact Or.inr (Or.inl rfl) | exact Or.inr (Or.inr rfl)) (hd : (y == ("__debug__" : Str)) = false := by decide)
    (hcd : (y == ("__classdict__" : Str)) = false := by decide) (hdb : (x == ("__debug__" : Str)) = false := by decide) (he : starEach ((.Name y p2) :: es) X.env = (false, eval (.Name y p2) X.env) :: starEach es X.env := by rfl) (hpl : (backTo pos (starEach es X.env)).any (·.1) = false := by rfl) :
    EJ X W fx ms (.Call (.Name x p) ((.Name y p2) :: es) [] pos) r ms1 (cal1 f j g) := by
  obtain ⟨t, pa, rj⟩ := ha
  refine ⟨_, pe_callV kp hg hm (pa_cons (pe_var hN hv hd hcd) pa he) (fun pins σ H s Q us vs I r h => runG F.ok hr C.calm b (L2N.passAt C.tk σ) I r h) hdb he hpl, fun env σ G H own pg s ns Q hok hex => ?_⟩
  cases ee : env[j]? with
  | none => exact absurd (by unfold cal1; rw [ee]) ns
  | some eo0 =>
    cases eo0 with
    | none => exact absurd (by unfold cal1; rw [ee]) ns
    | some t0 =>
      obtain ⟨l1, l2⟩ := s.sl.lens
      have hlt : j < env.length := (List.getElem?_eq_some_iff.mp ee).1
      obtain ⟨so, as, bs, e1, ⟨v, rfl, rel⟩, pm, kk⟩ := s.sl.split (m := ms[j]'(by omega)) (List.getElem?_eq_getElem (by omega)) ee
      have ec : cal1 f j g env = (g env).bind (app1 f j) := by unfold cal1; rw [ee]
      refine ⟨v, e1, ?_⟩
      refine rj env σ G H own trivial s (fun e => ns (by rw [ec, e]; rfl)) _ (fun ts env1 e2 vs G1 H1 own1 as1 s1 rel1 nd1 st1 => ?_) fun x env1 e2 => hex x env1 (by rw [ec, e2]; rfl)
      obtain ⟨rel1, rfl⟩ := rel1
      have ea : cal1 f j g env = app1 f j ts env1 := by rw [ec, e2]; rfl
      simp only [List.nil_append] at st1
      refine app1_rj (P := fun _ => True) (W := W) (fx := fx) F.len hz hj fo env1 σ G1 H1 own1 ⟨trivial, rel1⟩ s1 (by rw [← ea]; exact ns) Q (fun a env' e u G' H' own' as' s' rel' nd' st' => ?_) (fun x env' e msR cls d G' H' own' fo' s' er st' => ?_) v e1
      · exact hok a env' (ea.trans e) u G' H' own' as' s' rel' nd' (st1.trans st')
      · exact hex x env' (ea.trans e) msR cls d G' H' own' fo' s' er (st1.trans st')
end
end VS
-- VOwn
set_option Elab.async false
set_option linter.all false
set_option maxRecDepth 100000
/-! VOwn: an owned list in a slot: read, stored into, grown. -/
namespace VS
open PySem L2

section
variable {K : PySem.W.Frag} {G H G' H' : Hp} {ms : List Md} {env : Env} {σ : St} {own : List Addr}
theorem OwL.trL : ∀ {ts : List T} {vs : List V} {as : List Addr}, OwL K G H .frz ts vs as → TrL K G ts vs ∧ as = []
  | _, _, _, .nil => ⟨.nil, rfl⟩
  | _, _, _, .cons h r => by
    obtain ⟨h1, rfl⟩ := OwR.frz_iff.mp h
    obtain ⟨h2, rfl⟩ := OwL.trL r
    exact ⟨.cons h1 h2, rfl⟩
theorem SR.mut {j : Nat} {ts : List T} (s : SR K ms env σ G H own) (hm : ms[j]? = some (.own .frz)) (he : env[j]? = some (some (.lst ts))) :
    ∃ a vs, σ[j]? = some (some (.ref a)) ∧ H a = some (.lst vs) ∧ TrL K G ts vs ∧ ∀ ts' vs', TrL K G ts' vs' →
      ∃ own', SR K ms (env.set j (some (.lst ts'))) σ G (upd H a (.lst vs')) own' ∧ Step G H own G (upd H a (.lst vs')) own' := by
  obtain ⟨so, as, bs, e1, ⟨v, rfl, rel⟩, pm, k⟩ := s.sl.split hm he
  cases rel with | @lst _ a _ vs as' h g r =>
  obtain ⟨tr, rfl⟩ := r.trL
  refine ⟨a, vs, e1, h, tr, fun ts' vs' tr' => ?_⟩
  have nd := pm.nodup_iff.mp s.nd
  have na : a ∉ bs := by
    intro z
    exact (List.nodup_append.mp nd).2.2 a (by simp) a z rfl
  have hb : ∀ y ∈ bs, y ∈ own := fun y hy => pm.symm.subset (List.mem_append_right _ hy)
  have ha : a ∈ own := pm.symm.subset (by simp)
  obtain ⟨own', sl', pm'⟩ := k G (upd H a (.lst vs')) (.own .frz) (some (.lst ts')) (some (.ref a)) [a] (fun _ _ h => h) (fun y hy => ⟨upd_ne fun z => na (z ▸ hy), (s.sl.at y (hb y hy)).1⟩) ⟨_, rfl, .lst upd_same g (.of_trL tr')⟩
  rw [set_same hm, set_same e1] at sl'
  have sub : ∀ y ∈ own', y ∈ own := fun y hy => by
    rcases List.mem_append.mp (pm'.subset hy) with z | z
    · have : y = a := by simpa using z
      rw [this]; exact ha
    · exact hb y z
  refine ⟨own', ⟨sl', pm'.nodup_iff.mpr (by simpa using nd), fun x o q => ?_⟩, fun _ _ h => h, fun x o e n => ?_, fun x hx => .inl (sub x hx), fun x hx => .inl hx, fun x hx => ?_⟩
  · rw [upd_ne fun z => by rw [z, g] at q; cases q]; exact s.sub _ _ q
  · rw [upd_ne fun z => n (by rw [z]; exact ha)]; exact e
  · by_cases z : x = a
    · subst z; rw [upd_same]; simp
    · rw [upd_ne z]; exact hx
end

/-! ### read: x[e], len(x) -/
def hasO (env : Env) (j : Nat) : Bool := match env[j]? with
  | some (some _) => true
  | _ => false
def lstAt (env : Env) (j : Nat) : Option (List T) := match env[j]? with
  | some (some (.lst xs)) => some xs
  | _ => none
def onO (j : Nat) (g : FE) : FE := fun env => if hasO env j = true then g env else .stk
def ixK (j : Nat) (y : T) : FE := fun env => match lstAt env j, y with
  | some xs, .int i => optO (atI xs i) env
  | _, _ => .stk
def ixO (j : Nat) (f : FE) : FE := onO j fun env => (f env).bind (ixK j)
def lenOw (j : Nat) : FE := fun env => match lstAt env j with
  | some xs => .ok (.int xs.length) env
  | none => .stk
theorem lstAt_some {env : Env} {j : Nat} {xs : List T} (h : lstAt env j = some xs) : env[j]? = some (some (.lst xs)) := by
  unfold lstAt at h
  split at h <;> cases h
  assumption
theorem hasO_slot {K : PySem.W.Frag} {G H : Hp} {ms : List Md} {env : Env} {σ : St} {own : List Addr} {j : Nat} (s : SR K ms env σ G H own) (h : hasO env j = true) : ∃ v, σ[j]? = some (some v) := by
  unfold hasO at h
  split at h
  · rename_i t e
    obtain ⟨l1, l2⟩ := s.sl.lens
    have hlt : j < env.length := (List.getElem?_eq_some_iff.mp e).1
    obtain ⟨so, as, bs, e1, ⟨v, rfl, _⟩, _⟩ := s.sl.split (m := ms[j]'(by omega)) (List.getElem?_eq_getElem (by omega)) e
    exact ⟨v, e1⟩
  · cases h
section
variable {X : Cx} {W : WX} {fx : List (Nat × Md)} {ms ms1 ms2 ms3 msL msN : List Md} {e e2 c : Expr} {es : List Expr} {r : Md} {pos p : Pos} {j : Nat} {y : Str}
/-- first a slot's value, then an expression, then an operation on both -/
theorem RJ.onO {β : Type} {K : PySem.W.Frag} {Rel : Hp → Hp → T → V → List Addr → Prop} {t : St → Hp → (β → Hp → Prop) → Prop} {α : Type} {R : Hp → α → β → Prop} {f : Env → Out α} {u : V → β → St → Hp → (V → Hp → Prop) → Prop} {g : α → FE}
    (rj : RJ K W fx (fun _ => True) ms ms1 (Fz R) t f) (hne : ∀ a env x env', g a env ≠ .exc x env')
    (h : ∀ (a : α) (b : β) (v : V) (env : Env) (σ : St) (G H : Hp) (own : List Addr), SR K ms1 env σ G H own → σ[j]? = some (some v) → R G a b → g a env ≠ .stk → ∀ Q : V → Hp → Prop,
      (∀ z env', g a env = .ok z env' → ∀ w G' H' own' as, SR K ms2 env' σ G' H' own' → Rel G' H' z w as → (as ++ own').Nodup → Step G H own G' H' (as ++ own') → Q w H') → u v b σ H Q) :
    RJ K W fx (fun _ => True) ms ms2 Rel (fun σ H Q => ∃ v, σ[j]? = some (some v) ∧ t σ H fun b H1 => u v b σ H1 Q) (VS.onO j fun env => (f env).bind g) := by
  intro env σ G H own _ s ns Q hok hex
  have h1 : hasO env j = true := by
    cases q : hasO env j with
    | true => rfl
    | false => exact absurd (by show (if _ then _ else _) = _; rw [q]; rfl) ns
  have eo : VS.onO j (fun env => (f env).bind g) env = (f env).bind g := by show (if _ then _ else _) = _; rw [h1]; rfl
  obtain ⟨v, e1⟩ := hasO_slot s h1
  refine ⟨v, e1, rj env σ G H own trivial s (fun e => ns (by rw [eo, e]; rfl)) _ (fun a env1 e2 b G1 H1 own1 as1 s1 rel1 nd1 st1 => ?_) fun x env1 e2 => hex x env1 (by rw [eo, e2]; rfl)⟩
  obtain ⟨rel1, rfl⟩ := rel1
  simp only [List.nil_append] at st1
  have e3 : VS.onO j (fun env => (f env).bind g) env = g a env1 := by rw [eo, e2]; rfl
  exact h a b v env1 σ G1 H1 own1 s1 e1 rel1 (by rw [← e3]; exact ns) Q fun z env' e => fun w G' H' own' as s' rel nd st => hok z env' (e3.trans e) w G' H' own' as s' rel nd (st1.trans st)
theorem optO_ne {o : Option T} {env : Env} {x : Exc} {env' : Env} : optO o env ≠ .exc x env' := by
  unfold optO
  cases o <;> simp
/-- x[e], x an owned list -/
theorem EF.ixO {f : FE} {px : Pos} (hj : ms1[j]? = some (.own .frz) := by rfl) (he : EF X W fx ms e ms1 f) (hN : X.N[j]? = some y := by rfl) (hv : Vis X.env.scope y := by first | exact Or.inl rfl | exact Or.inr (Or.inl rfl) | exact Or.inr (Or.inr rfl)) (hs : PlainIx e := by exact fun _ _ => rfl) (hd : (y == ("__debug__" : Str)) = false := by decide)
    (hcd : (y == ("__classdict__" : Str)) = false := by decide) : EF X W fx ms (.Subscript (.Name y px) e pos) ms1 (VS.ixO j f) := by
  obtain ⟨t, p, rj⟩ := he
  refine ⟨_, pe_ix ix_list (pe_var hN hv hd hcd) p hs, RJ.onO (t := t) rj (fun a env x env' => ?_) fun a b v env σ G H own s e1 rel ns Q hok => ?_⟩
  · unfold ixK
    split
    · exact optO_ne
    · simp
  · cases el : lstAt env j with
    | none => exact absurd (by unfold ixK; simp only [el]) ns
    | some xs =>
      cases rel with
      | int i =>
        simp only [ixK, el] at ns hok
        obtain ⟨ad, vs, e2, hH, tr, _⟩ := s.mut hj (lstAt_some el)
        rw [e1] at e2
        cases e2
        cases ei : atI xs i with
        | none => exact absurd (by rw [ei]; rfl) ns
        | some z =>
          obtain ⟨w, h1, h2⟩ := atI_tr tr ei
          exact ⟨ad, vs, i, w, rfl, rfl, .of hH, h1, hok z env (by rw [ei]; rfl) w G H own [] s ⟨h2, rfl⟩ s.nd (.refl fun _ h => h)⟩
      | _ => exact absurd (by unfold ixK; simp only [el]) ns
/-- len(x), x an owned list -/
theorem EF.lenO {px pp : Pos} (hg : Gl X "len") (hm : X.mg "len" = none) (hj : ms[j]? = some (.own .frz) := by rfl) (hN : X.N[j]? = some y := by rfl) (hv : Vis X.env.scope y := by first | exact Or.inl rfl | exact Or.inr (Or.inl rfl) | exact Or.inr (Or.inr rfl)) (hd : (y == ("__debug__" : Str)) = false := by decide)
    (hcd : (y == ("__classdict__" : Str)) = false := by decide) (hst : starEach [.Name y px] X.env = (false, eval (.Name y px) X.env) :: starEach [] X.env := by rfl) : EF X W fx ms (.Call (.Name "len" pp) [.Name y px] [] pos) ms (lenOw j) := by
  refine ⟨_, pe_callB call_len hg hm PySem.boot_len (pa_cons (pe_var hN hv hd hcd) pa_nil hst), fun env σ G H own _ s ns Q hok hex => ?_⟩
  cases el : lstAt env j with
  | none => exact absurd (by show lenOw j env = _; unfold lenOw; rw [el]) ns
  | some xs =>
    obtain ⟨a, vs, e1, hH, tr, _⟩ := s.mut hj (lstAt_some el)
    exact ⟨_, e1, _, _, rfl, .inl ⟨vs, .of hH, rfl⟩, tr.length ▸ hok _ env (by show lenOw j env = _; unfold lenOw; rw [el]) _ G H own [] s ⟨.int _, rfl⟩ s.nd (.refl fun _ h => h)⟩

/-! ### grown, stored into -/
/-- x.m(e, ..): the list's new items, what comes back -/
def mtO (j : Nat) (m : List T → List T → Option (T × List T)) (f : FA) : FE := onO j fun env => (f env).bind fun ys env => match lstAt env j with
  | some xs => (match m xs ys with
    | some (z, xs') => .ok z (env.set j (some (.lst xs')))
    | none => .stk)
  | none => .stk
/-- a method of a list, by what it makes of the items -/
def MtO (K : PySem.W.Frag) (r : V → List V → Hp → VK → Prop) (m : List T → List T → Option (T × List T)) : Prop :=
  ∀ (G H : Hp) (a : Addr) (xs : List T) (vs : List V) (ys : List T) (us : List V) (z : T) (xs' : List T), (∀ a o, G a = some o → H a = some o) → H a = some (.lst vs) → TrL K G xs vs → TrL K G ys us → m xs ys = some (z, xs') → ∀ Q : V → Hp → Prop,
    (∀ w vs', Tr K G z w → TrL K G xs' vs' → Q w (upd H a (.lst vs'))) → r (.ref a) us H Q
theorem EF.mtO {id : String} {name : Str} {apos px : Pos} {rr : V → List V → Hp → VK → Prop} {m : List T → List T → Option (T × List T)} {f : FA} (slot : Slot "list" name id) (hty : typeOf (.builtin id) = pure (.type "method_descriptor")) (hr : MtR X id rr) (hmo : MtO X.K rr m)
    (ha : AJ X W fx ms (e :: es) ms1 f) (hj : ms1[j]? = some (.own .frz) := by rfl) (hj0 : ms[j]? = some (.own .frz) := by rfl) (hN : X.N[j]? = some y := by rfl) (hv : Vis X.env.scope y := by first | exact Or.inl rfl | exact Or.inr (Or.inl rfl) | exact Or.inr (Or.inr rfl)) (hd : (y == ("__debug__" : Str)) = false := by decide)
    (hcd : (y == ("__classdict__" : Str)) = false := by decide) (hbase : attributeBase (.Name y px) name X.env (eval (.Name y px) X.env) = eval (.Name y px) X.env := by rfl)
    (hfew : ((backTo pos (starEach (e :: es) X.env)).all (fun x => !x.1) && (backToKw pos (keywordEach [] X.env)).all (fun x => x.1.isSome) && decide ((e :: es).length + ([] : List Keyword).length + (if ([] : List Keyword).isEmpty then 0 else 1) < 30)) = true := by rfl)
    (hline : (apos.endLine == pos.line) = true := by rfl) (hs : starEach (e :: es) X.env = (false, eval e X.env) :: starEach es X.env := by rfl) (hplain : (backTo pos (starEach es X.env)).any (·.1) = false := by rfl) :
    EF X W fx ms (.Call (.Attribute (.Name y px) name apos) (e :: es) [] pos) ms1 (VS.mtO j m f) := by
  obtain ⟨t, p, rj⟩ := ha
  refine ⟨_, pe_bm PySem.F.plainAttrs_list slot hty hr (pe_var hN hv hd hcd) p hbase hfew hline hs hplain, fun env σ G H own _ s ns Q hok hex => ?_⟩
  have h1 : hasO env j = true := by
    cases q : hasO env j with
    | true => rfl
    | false => exact absurd (by show (if _ then _ else _) = _; rw [q]; rfl) ns
  have eo : VS.mtO j m f env = (f env).bind fun ys env => match lstAt env j with
    | some xs => (match m xs ys with
      | some (z, xs') => .ok z (env.set j (some (.lst xs')))
      | none => .stk)
    | none => .stk := by show (if _ then _ else _) = _; rw [h1]; rfl
  obtain ⟨v, e1⟩ := hasO_slot s h1
  -- it is a list at the start too
  have hl0 : ∃ a vs, v = .ref a ∧ H a = some (.lst vs) := by
    obtain ⟨l1, l2⟩ := s.sl.lens
    unfold hasO at h1
    split at h1
    · rename_i t0 e0
      obtain ⟨so, as, bs, e2, ⟨v', rfl, rel⟩, _⟩ := s.sl.split hj0 e0
      rw [e1] at e2
      cases e2
      cases rel with
      | lst h g r => exact ⟨_, _, rfl, h⟩
    · cases h1
  obtain ⟨a0, vs0, rfl, hH0⟩ := hl0
  refine ⟨.ref a0, e1, .inl ⟨rfl, vs0, .of hH0⟩, rj env σ G H own trivial s (fun e => ns (by rw [eo, e]; rfl)) _ (fun ys env1 e2 us G1 H1 own1 as1 s1 rel1 nd1 st1 => ?_) fun x env1 e2 => hex x env1 (by rw [eo, e2]; rfl)⟩
  obtain ⟨rel1, rfl⟩ := rel1
  simp only [List.nil_append] at st1
  have e3 : VS.mtO j m f env = match lstAt env1 j with
    | some xs => (match m xs ys with
      | some (z, xs') => .ok z (env1.set j (some (.lst xs')))
      | none => .stk)
    | none => .stk := by rw [eo, e2]; rfl
  cases el : lstAt env1 j with
  | none => exact absurd (by rw [e3, el]) ns
  | some xs =>
    cases em : m xs ys with
    | none => exact absurd (by rw [e3, el]; simp only [em]) ns
    | some zx =>
      obtain ⟨z, xs'⟩ := zx
      obtain ⟨a, vs, e4, hH, tr, k⟩ := s1.mut hj (lstAt_some el)
      rw [e1] at e4
      cases e4
      refine hmo G1 H1 a0 xs vs ys us z xs' s1.sub hH tr rel1 em Q fun w vs' hw hvs => ?_
      obtain ⟨own2, s2, st2⟩ := k xs' vs' hvs
      exact hok z _ (by rw [e3, el]; simp only [em]) w G1 _ own2 [] s2 ⟨hw, rfl⟩ s2.nd (st1.trans st2)
def apM (xs ys : List T) : Option (T × List T) := match ys with
  | [y] => if xs.length < 10000000 then some (.non, xs ++ [y]) else none
  | _ => none
theorem mo_append {K : PySem.W.Frag} : MtO K rAppend apM := fun G H a xs vs ys us z xs' sub hH tr try' e Q q => by
  match ys, try', e with
  | [y], try', e =>
    simp only [apM] at e
    split at e <;> cases e
    obtain ⟨u, rfl, h1⟩ := try'.one
    exact ⟨a, vs, u, rfl, rfl, hH, by rw [← tr.length, sizeLine_eq]; omega, q _ _ .non (tr.append (.cons h1 .nil))⟩
def exM (xs ys : List T) : Option (T × List T) := match ys with
  | [.lst zs] => if xs.length + zs.length < 10000000 then some (.non, xs ++ zs) else none
  | _ => none
theorem mo_extend {K : PySem.W.Frag} : MtO K rExtend exM := fun G H a xs vs ys us z xs' sub hH tr try' e Q q => by
  match ys, try', e with
  | [.lst zs], try', e =>
    simp only [exM] at e
    split at e <;> cases e
    obtain ⟨u, rfl, h1⟩ := try'.one
    cases h1 with | lst h r =>
    exact ⟨a, _, vs, _, rfl, rfl, hH, sub _ _ h, by rw [← tr.length, ← r.length, sizeLine_eq]; omega, q _ _ .non (tr.append r)⟩
def inM (xs ys : List T) : Option (T × List T) := match ys with
  | [.int i, y] => if xs.length < 10000000 ∧ 0 ≤ i ∧ i < 10000000 then some (.non, xs.take i.toNat ++ [y] ++ xs.drop i.toNat) else none
  | _ => none
theorem mo_insert {K : PySem.W.Frag} : MtO K (fun x vs H Q => ∃ (l : Addr) (xs : List V) (i : Int) (y : V), x = .ref l ∧ vs = [.int i, y] ∧ H l = some (.lst xs) ∧ xs.length < sizeLine ∧ 0 ≤ i ∧ i < 2 ^ 63 ∧
    Q .non (upd H l (.lst (xs.take i.toNat ++ [y] ++ xs.drop i.toNat)))) inM := fun G H a xs vs ys us z xs' sub hH tr try' e Q q => by
  match ys, try', e with
  | [.int i, y], try', e =>
    simp only [inM] at e
    split at e <;> cases e
    rename_i hz
    obtain ⟨u, v, rfl, h1, h2⟩ := try'.two
    cases h1
    exact ⟨a, vs, i, v, rfl, rfl, hH, by rw [← tr.length, sizeLine_eq]; omega, hz.2.1, by omega, q _ _ .non (((tr.take _).append (.cons h2 .nil)).append (tr.drop _))⟩

/-- x[e] = v -/
def stK (j : Nat) (v i : T) : FS := fun env => match lstAt env j, i with
  | some xs, .int k => (match ixN xs.length k with
    | some n => .nxt (env.set j (some (.lst (xs.set n v))))
    | none => .stk)
  | _, _ => .stk
def stO (j : Nat) (fv fi : FE) : FS := fun env => (fv env).bindS fun v env => if hasO env j = true then (fi env).bindS (stK j v) else .stk
theorem TrL.set {K : PySem.W.Frag} {G : Hp} {t : T} {v : V} (h : Tr K G t v) : ∀ {ts : List T} {vs : List V} (n : Nat), TrL K G ts vs → TrL K G (ts.set n t) (vs.set n v)
  | _, _, _, .nil => .nil
  | _, _, 0, .cons _ r => .cons h r
  | _, _, n + 1, .cons h2 r => .cons h2 (TrL.set h n r)
theorem SJ.stO {fv fi : FE} {px ps : Pos} {v : Expr} (hv : EF X W fx ms v ms1 fv) (hi : EF X W fx ms1 e ms2 fi) (hj : ms2[j]? = some (.own .frz) := by rfl) (hN : X.N[j]? = some y := by rfl) (hvs : Vis X.env.scope y := by first | exact Or.inl rfl | exact Or.inr (Or.inl rfl) | exact Or.inr (Or.inr rfl)) (hd : (y == ("__debug__" : Str)) = false := by decide)
    (hcd : (y == ("__classdict__" : Str)) = false := by decide)
    (hsu : ∀ v, assign (.Subscript (.Name y px) e ps) X.env v = (do
      let ov ← holding [v] (eval (.Name y px) X.env)
      let iv ← holding [v, ov] (eval e X.env)
      standAt ps
      holding [v, ov, iv] (setItem ov iv v)
      release [v, ov, iv] []) := by intro _; rfl)
    (hs : swapsWithSole [.Subscript (.Name y px) e ps] v pos.line X.env = pure false := by rfl) (hw : swappedStores [.Subscript (.Name y px) e ps] v X.env = pure none := by rfl) (h1 : (assignEach [.Subscript (.Name y px) e ps] X.env).map (·.2) = [assign (.Subscript (.Name y px) e ps) X.env] := by rfl) :
    SJ X W fx ms (.Assign [.Subscript (.Name y px) e ps] v pos) ms2 msL r (VS.stO j fv fi) := by
  obtain ⟨t1, p1, rj1⟩ := hv
  obtain ⟨t2, p2, rj2⟩ := hi
  refine PS.weak (ps_asg p1 (pg_sub (pe_var hN hvs hd hcd) p2 set_list hsu) hs hw h1) fun D σ H ⟨env, G, own, s, w⟩ => ?_
  refine rj1 env σ G H own trivial s (fun e => w.ns (by show Out.bindS _ _ = _; rw [e]; rfl)) _ (fun z env1 e1 u G1 H1 own1 as1 s1 rel1 nd1 st1 => ?_) fun x env1 e1 msR cls d G' H' own' fo s' er stp => w.ex x env1 (by show Out.bindS _ _ = _; rw [e1]; rfl) msR σ cls d G' H' own' fo s' (.refl σ) er stp
  obtain ⟨rel1, rfl⟩ := rel1
  simp only [List.nil_append] at st1
  have ea : VS.stO j fv fi env = if hasO env1 j = true then (fi env1).bindS (stK j z) else .stk := by show Out.bindS _ _ = _; rw [e1]; rfl
  have hh : hasO env1 j = true := by
    cases q : hasO env1 j with
    | true => rfl
    | false => exact absurd (by rw [ea, q]; rfl) w.ns
  rw [hh, if_pos rfl] at ea
  obtain ⟨v0, ev⟩ := hasO_slot s1 hh
  refine ⟨v0, ev, rj2 env1 σ G1 H1 own1 trivial s1 (fun e => w.ns (by rw [ea, e]; rfl)) _ (fun iv env2 e2 iu G2 H2 own2 as2 s2 rel2 nd2 st2 => ?_) fun x env2 e2 msR cls d G' H' own' fo s' er stp => w.ex x env2 (by rw [ea, e2]; rfl) msR σ cls d G' H' own' fo s' (.refl σ) er (st1.trans stp)⟩
  obtain ⟨rel2, rfl⟩ := rel2
  simp only [List.nil_append] at st2
  have eb : VS.stO j fv fi env = stK j z iv env2 := by rw [ea, e2]; rfl
  cases el : lstAt env2 j with
  | none => exact absurd (by rw [eb]; unfold stK; simp only [el]) w.ns
  | some xs =>
    obtain ⟨a, vs, e4, hH, tr, k⟩ := s2.mut hj (lstAt_some el)
    rw [ev] at e4
    cases e4
    cases rel2 with
    | int i =>
      cases en : ixN xs.length i with
      | none => exact absurd (by rw [eb]; unfold stK; simp only [el, en]) w.ns
      | some n =>
        obtain ⟨own3, s3, st3⟩ := k (xs.set n z) (vs.set n u) (TrL.set (rel1.mono st2.gm) n tr)
        exact ⟨a, vs, i, n, rfl, rfl, hH, by rw [← tr.length]; exact en, w.nx _ (by rw [eb]; unfold stK; simp only [el, en]) σ G2 _ own3 s3 (.refl σ) ((st1.trans st2).trans st3)⟩
    | _ => exact absurd (by rw [eb]; unfold stK; simp only [el]) w.ns
end
end VS
-- VMore
set_option Elab.async false
set_option linter.all false
set_option maxRecDepth 100000
/-! VMore: the rules of expressions put together: subscripts, slices, chains, and/or as values, built-ins, methods of texts, stores of several names. -/
namespace VS
open PySem L2

/-! ### isinstance -/
theorem isiB_kit {n c : String} {b : Bool} (h : isiB n c = some b) : kitB n c = some b := by
  unfold isiB at h
  split at h
  · rename_i hc
    obtain ⟨h1, h2⟩ := hc
    rcases h1 with rfl | rfl | rfl | rfl | rfl | rfl <;> rcases h2 with rfl | rfl | rfl | rfl | rfl | rfl <;> (cases h; decide +kernel)
  · cases h
theorem cal_isi {K : PySem.W.Frag} : Cal K .frz (rIsi K) isiO := .mk fun G H xs us c sub h e Q q => by
  match xs, h, e with
  | [x, .ty d], h, e =>
    simp only [isiO] at e
    cases en : tyName x with
    | none => rw [en] at e; cases e
    | some n =>
      rw [en] at e
      simp only at e
      cases eb : isiB n d with
      | none => rw [eb] at e; cases e
      | some b =>
        rw [eb] at e
        cases e
        obtain ⟨u, v, rfl, h1, h2⟩ := h.two
        cases h2
        exact ⟨u, _, _, _, b, rfl, .ty d, tyName_tr sub h1 en, kit_ty (isiB_kit eb), q.val sub (.bl _)⟩

theorem RJ.ef {K : PySem.W.Frag} {W : WX} {fx : List (Nat × Md)} {P : Hp → Prop} {ms ms1 : List Md} {t : TE} {f : FE} (h : RJ K W fx P ms ms1 (fun G H a b as => OwR K G H .frz a b as) t f) : RJ K W fx P ms ms1 (Fz (Tr K)) t f := h.rel fun _ _ _ _ _ q => OwR.frz_iff.mp q
section
variable {X : Cx} {W : WX} {fx : List (Nat × Md)} {ms ms1 ms2 ms3 ms4 msL msN : List Md} {e a b c o : Expr} {es : List Expr} {r md : Md} {pos p : Pos} {x : Str}
theorem EF.ix {f g : FE} (ha : EF X W fx ms a ms1 f) (hb : EF X W fx ms1 b ms2 g) (hs : PlainIx b := by exact fun _ _ => rfl) : EF X W fx ms (.Subscript a b pos) ms2 (op2 ixT f g) := by
  obtain ⟨t, p, ra⟩ := ha
  obtain ⟨t2, p2, rb⟩ := hb
  exact ⟨_, pe_ix ix_all p p2 hs, RJ.ef (RJ.bind (t := t) PMono.true ra fun x u => RJ.bind (t := t2) (PMono.true.and RMono.tr) (rb.imp fun _ _ => trivial) fun y v => RJ.op (bin_ix x y u v))⟩
/-! ### slices -/
abbrev FO := Env → Out (Option Int)
def OJ (X : Cx) (W : WX) (fx : List (Nat × Md)) (ms : List Md) (e : Option Expr) (ms' : List Md) (f : FO) : Prop :=
  ∃ t : TO, PO X e t ∧ RJ X.K W fx (fun _ => True) ms ms' (Fz fun _ (a b : Option Int) => a = b) t f
def oNone : FO := fun env => .ok none env
def oIntK (x : T) : FO := fun env => match x with
  | .int i => .ok (some i) env
  | _ => .stk
def oSome (f : FE) : FO := fun env => (f env).bind oIntK
theorem OJ.none : OJ X W fx ms none ms oNone := ⟨_, po_none, RJ.pure fun _ _ => rfl⟩
theorem OJ.some {f : FE} (h : EF X W fx ms e ms1 f) : OJ X W fx ms (some e) ms1 (oSome f) := by
  obtain ⟨t, p, rj⟩ := h
  refine ⟨_, po_some p, RJ.bind (t := t) PMono.true rj fun x u => ?_⟩
  intro env σ G H own pg s ns Q hok hex
  cases pg.2 with
  | int i => exact ⟨i, rfl, hok _ env rfl _ G H own [] s ⟨rfl, rfl⟩ s.nd (.refl fun _ h => h)⟩
  | _ => exact absurd rfl ns
def slE (f : FE) (l h : FO) : FE := fun env => (f env).bind fun x env => (l env).bind fun i env => (h env).bind fun j => optO (slT x i j)
theorem EF.sl {lo hi : Option Expr} {f : FE} {l h : FO} {p2 : Pos} (ha : EF X W fx ms a ms1 f) (hl : OJ X W fx ms1 lo ms2 l) (hh : OJ X W fx ms2 hi ms3 h) : EF X W fx ms (.Subscript a (.Slice lo hi none p2) pos) ms3 (slE f l h) := by
  obtain ⟨t, p, ra⟩ := ha
  obtain ⟨t2, p2, r2⟩ := hl
  obtain ⟨t3, p3, r3⟩ := hh
  refine ⟨_, pe_slice sl_all p p2 p3, RJ.ef (RJ.bind (t := t) PMono.true ra fun x u => RJ.bind (t := t2) (PMono.true.and RMono.tr) (r2.imp fun _ _ => trivial) fun i i' => RJ.bind (t := t3) ((PMono.true.and RMono.tr).and RMono.eq) (r3.imp fun _ _ => trivial) fun j j' => ?_)⟩
  refine RJ.pre (φ := i = i' ∧ j = j') (fun ⟨e1, e2⟩ => ?_) fun G h => ⟨h.1.2, h.2⟩
  subst e1 e2
  exact RJ.op fun G H c sub p e Q q => sl_sem G H c sub p.1.1.2 e Q q

/-! ### a < b < c -/
def chn (s1 s2 : T → T → Option T) (a b c : FE) : FE := fun env => (a env).bind fun x env => (b env).bind fun y env => (optO (s1 x y) env).bind fun k env => match k with
  | .bl true => (c env).bind fun z => optO (s2 y z)
  | .bl false => .ok (.bl false) env
  | _ => .stk
theorem EF.chain {op op' : CmpOp} {r1 r2 : R2} {s1 s2 : T → T → Option T} {f g h : FE} (ho : OpR X (compareOp op) r1) (ho' : OpR X (compareOp op') r2) (b1 : Bin X.K .frz r1 s1) (b2 : Bin X.K .frz r2 s2) (ha : EF X W fx ms a ms1 f) (hb : EF X W fx ms1 b ms2 g) (hc : EF X W fx ms2 c ms2 h)
    (hm : lastMarks [op, op'] [b, c] = false := by with_unfolding_all rfl) : EF X W fx ms (.Compare a [op, op'] [b, c] pos) ms2 (chn s1 s2 f g h) := by
  obtain ⟨t, p, ra⟩ := ha
  obtain ⟨t2, p2, rb⟩ := hb
  obtain ⟨t3, p3, rc⟩ := hc
  refine ⟨_, pe_chain ho ho' p p2 p3 hm, RJ.bind (t := t) PMono.true ra fun x u => RJ.bind (t := t2) (PMono.true.and RMono.tr) (rb.imp fun _ _ => trivial) fun y v => ?_⟩
  refine RJ.bind (t := fun _ H Q => r1 u v H Q) ((PMono.true.and RMono.tr).and RMono.tr) ((RJ.op (b1 x y u v)).rel fun _ _ _ _ _ q => OwR.frz_iff.mp q) fun k w => ?_
  refine RJ.pre (φ := ∃ G, Tr X.K G k w) (fun ⟨G0, hk⟩ => ?_) fun G h => ⟨G, h.2⟩
  cases k with
  | bl kb =>
    cases hk
    cases kb with
    | true =>
      have q := RJ.bind (t := t3) (u := fun w' σ H Q => r2 v w' H Q) (P := fun G => ((True ∧ Tr X.K G x u) ∧ Tr X.K G y v) ∧ Tr X.K G (.bl true) (.bl true)) (((PMono.true.and RMono.tr).and RMono.tr).and RMono.tr) (rc.imp fun _ _ => trivial) fun z w' => (RJ.op fun G H c' sub p e Q q => b2 y z v w' G H c' sub ⟨⟨trivial, p.1.1.2⟩, p.2⟩ e Q q : RJ X.K W fx _ ms2 ms2 (fun G H a b as => OwR X.K G H .frz a b as) _ _)
      intro env σ G H own pg s ns Q hok hex
      exact ⟨true, rfl, (q.rel fun _ _ _ _ _ q => OwR.frz_iff.mp q) env σ G H own pg s ns Q hok hex⟩
    | false =>
      intro env σ G H own pg s ns Q hok hex
      exact ⟨false, rfl, hok _ env rfl _ G H own [] s ⟨.bl false, rfl⟩ s.nd (.refl fun _ h => h)⟩
  | _ => intro env σ G H own pg s ns; exact absurd rfl ns
theorem TJ.chain {op op' : CmpOp} {r1 r2 : R2} {s1 s2 : T → T → Option T} {f g h : FE} (ho : OpR X (compareOp op) r1) (ho' : OpR X (compareOp op') r2) (b1 : Bin X.K .frz r1 s1) (b2 : Bin X.K .frz r2 s2) (ha : EF X W fx ms a ms1 f) (hb : EF X W fx ms1 b ms2 g) (hc : EF X W fx ms2 c ms2 h)
    (hm : lastMarks [op, op'] [b, c] = false := by with_unfolding_all rfl) : TJ X W fx ms (.Compare a [op, op'] [b, c] pos) ms2 (tst isBl (chn s1 s2 f g h)) := by
  have q : ∃ t : TE, RJ X.K W fx (fun _ => True) ms ms2 (Fz (Tr X.K)) t (chn s1 s2 f g h) ∧ PT X (.Compare a [op, op'] [b, c] pos) (tTest t) := by
    obtain ⟨t, p, ra⟩ := ha
    obtain ⟨t2, p2, rb⟩ := hb
    obtain ⟨t3, p3, rc⟩ := hc
    refine ⟨tChain r1 r2 t t2 t3, ?_, pt_chain ho ho' p p2 p3 hm⟩
    refine RJ.bind (t := t) PMono.true ra fun x u => RJ.bind (t := t2) (PMono.true.and RMono.tr) (rb.imp fun _ _ => trivial) fun y v => ?_
    refine RJ.bind (t := fun _ H Q => r1 u v H Q) ((PMono.true.and RMono.tr).and RMono.tr) ((RJ.op (b1 x y u v)).rel fun _ _ _ _ _ q => OwR.frz_iff.mp q) fun k w => ?_
    refine RJ.pre (φ := ∃ G, Tr X.K G k w) (fun ⟨G0, hk⟩ => ?_) fun G h => ⟨G, h.2⟩
    cases k with
    | bl kb =>
      cases hk
      cases kb with
      | true =>
        have q := RJ.bind (t := t3) (u := fun w' σ H Q => r2 v w' H Q) (P := fun G => ((True ∧ Tr X.K G x u) ∧ Tr X.K G y v) ∧ Tr X.K G (.bl true) (.bl true)) (((PMono.true.and RMono.tr).and RMono.tr).and RMono.tr) (rc.imp fun _ _ => trivial) fun z w' => (RJ.op fun G H c' sub p e Q q => b2 y z v w' G H c' sub ⟨⟨trivial, p.1.1.2⟩, p.2⟩ e Q q : RJ X.K W fx _ ms2 ms2 (fun G H a b as => OwR X.K G H .frz a b as) _ _)
        intro env σ G H own pg s ns Q hok hex
        exact ⟨true, rfl, (q.rel fun _ _ _ _ _ q => OwR.frz_iff.mp q) env σ G H own pg s ns Q hok hex⟩
      | false =>
        intro env σ G H own pg s ns Q hok hex
        exact ⟨false, rfl, hok _ env rfl _ G H own [] s ⟨.bl false, rfl⟩ s.nd (.refl fun _ h => h)⟩
    | _ => intro env σ G H own pg s ns; exact absurd rfl ns
  obtain ⟨t, rj, pt⟩ := q
  exact ⟨_, pt, RJ.tstB PMono.true rj⟩

/-! ### and, or, not as values: bools ahead of the last -/
def andV (a b : FE) : FE := fun env => (a env).bind fun x env => match x with
  | .bl true => b env
  | .bl false => .ok (.bl false) env
  | _ => .stk
def orV (a b : FE) : FE := fun env => (a env).bind fun x env => match x with
  | .bl false => b env
  | .bl true => .ok (.bl true) env
  | _ => .stk
def notV (x : T) : Option T := match x with
  | .bl b => some (.bl (!b))
  | _ => none
theorem EF.one {op : BoolOp} {f : FE} (h : EF X W fx ms a ms1 f) : EF X W fx ms (.BoolOp op [a] pos) ms1 f := let ⟨t, p, r⟩ := h; ⟨t, pe_one p, r⟩
theorem EF.and {f g : FE} (ha : EF X W fx ms a ms1 f) (hb : EF X W fx ms1 (.BoolOp .And (b :: es) pos) ms1 g) : EF X W fx ms (.BoolOp .And (a :: b :: es) pos) ms1 (andV f g) := by
  obtain ⟨t, p, ra⟩ := ha
  obtain ⟨t2, p2, rb⟩ := hb
  refine ⟨_, pe_and p p2, RJ.bind (t := t) PMono.true ra fun k w => ?_⟩
  refine RJ.pre (φ := ∃ G, Tr X.K G k w) (fun ⟨G0, hk⟩ => ?_) fun G h => ⟨G, h.2⟩
  cases k with
  | bl kb =>
    cases hk
    cases kb with
    | true =>
      intro env σ G H own pg s ns Q hok hex
      exact ⟨true, rfl, rb env σ G H own trivial s ns Q hok hex⟩
    | false =>
      intro env σ G H own pg s ns Q hok hex
      exact ⟨false, rfl, hok _ env rfl _ G H own [] s ⟨.bl false, rfl⟩ s.nd (.refl fun _ h => h)⟩
  | _ => intro env σ G H own pg s ns; exact absurd rfl ns
theorem EF.or {f g : FE} (ha : EF X W fx ms a ms1 f) (hb : EF X W fx ms1 (.BoolOp .Or (b :: es) pos) ms1 g) : EF X W fx ms (.BoolOp .Or (a :: b :: es) pos) ms1 (orV f g) := by
  obtain ⟨t, p, ra⟩ := ha
  obtain ⟨t2, p2, rb⟩ := hb
  refine ⟨_, pe_or p p2, RJ.bind (t := t) PMono.true ra fun k w => ?_⟩
  refine RJ.pre (φ := ∃ G, Tr X.K G k w) (fun ⟨G0, hk⟩ => ?_) fun G h => ⟨G, h.2⟩
  cases k with
  | bl kb =>
    cases hk
    cases kb with
    | true =>
      intro env σ G H own pg s ns Q hok hex
      exact ⟨true, rfl, hok _ env rfl _ G H own [] s ⟨.bl true, rfl⟩ s.nd (.refl fun _ h => h)⟩
    | false =>
      intro env σ G H own pg s ns Q hok hex
      exact ⟨false, rfl, rb env σ G H own trivial s ns Q hok hex⟩
  | _ => intro env σ G H own pg s ns; exact absurd rfl ns
theorem EF.not {f : FE} (ha : EF X W fx ms a ms1 f) : EF X W fx ms (.UnaryOp .Not a pos) ms1 (op1 notV f) := by
  obtain ⟨t, p, ra⟩ := ha
  refine ⟨_, pe_not p, RJ.bind (t := t) PMono.true ra fun k w => ?_⟩
  intro env σ G H own pg s ns Q hok hex
  cases pg.2 with
  | bl b => exact ⟨b, rfl, hok _ env rfl _ G H own [] s ⟨.bl _, rfl⟩ s.nd (.refl fun _ h => h)⟩
  | _ => exact absurd rfl ns
def negT : T → Option T
  | .int i => some (.int (-i))
  | _ => none
theorem EF.neg {f : FE} (ha : EF X W fx ms a ms1 f) : EF X W fx ms (.UnaryOp .USub a pos) ms1 (op1 negT f) := by
  obtain ⟨t, p, ra⟩ := ha
  refine ⟨_, pe_un un_neg p, RJ.bind (t := t) PMono.true ra fun k w => ?_⟩
  intro env σ G H own pg s ns Q hok hex
  cases pg.2 with
  | int b => exact ⟨b, rfl, hok _ env rfl _ G H own [] s ⟨.int _, rfl⟩ s.nd (.refl fun _ h => h)⟩
  | _ => exact absurd rfl ns

/-! ### built-ins by their names -/
theorem EJ.callB {id : String} {rr : List V → Hp → VK → Prop} {s : List T → Option T} {f : FA} (hc : CallR X (.builtin id) rr) (hs : Cal X.K md rr s) (hg : Gl X x) (hm : X.mg x = none) (hv : bootBuiltins x = some (.builtin id)) (ha : AJ X W fx ms (e :: es) ms1 f) (hn : x ≠ "__name__" := by decide) (hdb : (x == ("__debug__" : Str)) = false := by decide)
    (he : starEach (e :: es) X.env = (false, eval e X.env) :: starEach es X.env := by rfl) (hpl : (backTo pos (starEach es X.env)).any (·.1) = false := by rfl) : EJ X W fx ms (.Call (.Name x p) (e :: es) [] pos) md ms1 (opL s f) := by
  obtain ⟨t, pa, rj⟩ := ha
  exact ⟨_, pe_callB hc hg hm hv pa hn hdb he hpl, RJ.bind (t := t) PMono.true rj fun xs us => RJ.op (hs xs us)⟩
theorem EJ.callTy {id : String} {rr : List V → Hp → VK → Prop} {s : List T → Option T} {f : FA} (hc : CallR X (.type id) rr) (hs : Cal X.K md rr s) (hg : Gl X x) (hm : X.mg x = none) (hv : bootBuiltins x = some (.type id)) (ha : AJ X W fx ms (e :: es) ms1 f) (hn : x ≠ "__name__" := by decide) (hdb : (x == ("__debug__" : Str)) = false := by decide)
    (he : starEach (e :: es) X.env = (false, eval e X.env) :: starEach es X.env := by rfl) (hpl : (backTo pos (starEach es X.env)).any (·.1) = false := by rfl) : EJ X W fx ms (.Call (.Name x p) (e :: es) [] pos) md ms1 (opL s f) := by
  obtain ⟨t, pa, rj⟩ := ha
  exact ⟨_, pe_callTy hc hg hm hv pa hn hdb he hpl, RJ.bind (t := t) PMono.true rj fun xs us => RJ.op (hs xs us)⟩
/-- a built-in class as a value -/
theorem EF.tyN {id : String} (hg : Gl X x) (hm : X.mg x = none) (hv : bootBuiltins x = some (.type id)) (hn : x ≠ "__name__" := by decide) (hd : (x == ("__debug__" : Str)) = false := by decide) : EF X W fx ms (.Name x pos) ms (VS.cst (.ty id)) := .cst (pe_bltn (v := .ty id) hg hm hv rfl hn hd) fun _ => .ty id

/-! ### methods of texts -/
def isStr : T → Bool
  | .str _ => true
  | _ => false
def mS (s : T → List T → Option T) (f : FE) (g : FA) : FE := fun env => (f env).bind fun x env => if isStr x = true then (g env).bind fun ys => optO (s x ys) else .stk
theorem EJ.mS {id : String} {name : Str} {apos : Pos} {rr : V → List V → Hp → VK → Prop} {s : T → List T → Option T} {f : FE} {g : FA} (slot : Slot "str" name id) (hty : typeOf (.builtin id) = pure (.type "method_descriptor")) (hm : MtR X id rr)
    (hs : ∀ x u ys us, VOp X.K (fun G H a b as => OwR X.K G H md a b as) (fun G => (True ∧ Tr X.K G x u) ∧ TrL X.K G ys us) (rr u us) (s x ys)) (ho : EF X W fx ms o ms1 f) (ha : AJ X W fx ms1 (e :: es) ms2 g)
    (hbase : attributeBase o name X.env (eval o X.env) = eval o X.env := by rfl)
    (hfew : ((backTo pos (starEach (e :: es) X.env)).all (fun x => !x.1) && (backToKw pos (keywordEach [] X.env)).all (fun x => x.1.isSome) && decide ((e :: es).length + ([] : List Keyword).length + (if ([] : List Keyword).isEmpty then 0 else 1) < 30)) = true := by rfl)
    (hline : (apos.endLine == pos.line) = true := by rfl) (hst : starEach (e :: es) X.env = (false, eval e X.env) :: starEach es X.env := by rfl) (hplain : (backTo pos (starEach es X.env)).any (·.1) = false := by rfl) :
    EJ X W fx ms (.Call (.Attribute o name apos) (e :: es) [] pos) md ms2 (VS.mS s f g) := by
  obtain ⟨t, p, ra⟩ := ho
  obtain ⟨t2, p2, rb⟩ := ha
  refine ⟨_, pe_bm PySem.F.plainAttrs_str slot hty hm p p2 hbase hfew hline hst hplain, RJ.bind (t := t) PMono.true ra fun x u => ?_⟩
  refine RJ.pre (φ := ∃ G, Tr X.K G x u) (fun ⟨G0, hk⟩ => ?_) fun G h => ⟨G, h.2⟩
  cases x with
  | str z =>
    cases hk
    have q := RJ.bind (t := t2) (u := fun us σ H Q => rr (.str z) us H Q) (P := fun G => True ∧ Tr X.K G (.str z) (.str z)) (PMono.true.and RMono.tr) (rb.imp fun _ _ => trivial) fun ys us => RJ.op (hs (.str z) (.str z) ys us)
    intro env σ G H own pg s ns Q hok hex
    exact ⟨rfl, q env σ G H own pg s ns Q hok hex⟩
  | _ => intro env σ G H own pg s ns; exact absurd rfl ns
def strsO : List T → Option (List Str)
  | [] => some []
  | .str s :: r => (strsO r).map (s :: ·)
  | _ => none
theorem strsO_tr {K : PySem.W.Frag} {G : Hp} : ∀ {ts : List T} {vs : List V} {bs : List Str}, TrL K G ts vs → strsO ts = some bs → vs = bs.map V.str
  | _, _, _, .nil, e => by cases e; rfl
  | t :: ts, _, bs, .cons h r, e => by
    cases h <;> simp only [strsO] at e <;> try cases e
    cases q : strsO ts with
    | none => rw [q] at e; cases e
    | some cs =>
      rw [q] at e
      cases e
      rw [strsO_tr r q]
      rfl
def itemsO : T → Option (List T)
  | .lst xs => some xs
  | .tup xs => some xs
  | _ => none
def joinT (x : T) (ys : List T) : Option T := match x, ys with
  | .str a, [y] => (match itemsO y with
    | some zs => (match strsO zs with
      | some ss => if (ss.map (·.length)).sum + ss.length * a.length ≤ 16777216 then some (.str (Txt.join a ss)) else none
      | none => none)
    | none => none)
  | _, _ => none
theorem mt_joinT {K : PySem.W.Frag} : ∀ x u ys us, VOp K (fun G H a b as => OwR K G H .frz a b as) (fun G => (True ∧ Tr K G x u) ∧ TrL K G ys us) ((fun x xs H Q => ∃ a p, ∃ ys : List Str, x = .str a ∧ xs = [.ref p] ∧ (SqL K H p (ys.map V.str) ∨ SqT K H p (ys.map V.str)) ∧
    (ys.map (·.length)).sum + ys.length * a.length ≤ 16777216 ∧ Q (.str (Txt.join a ys)) H) u us) (joinT x ys) := fun x u ys us G H c sub p e Q hq => by
  have q : Gave K G H .frz c Q := ⟨hq⟩
  obtain ⟨⟨_, hx⟩, hy⟩ := p
  cases hx <;> try (simp only [joinT] at e; cases e)
  match ys, hy, e with
  | [y], hy, e =>
    simp only [joinT] at e
    obtain ⟨v, rfl, hv⟩ := hy.one
    split at e
    · rename_i zs hz
      split at e
      · rename_i ss hss
        split at e <;> cases e
        rename_i hsz
        cases hv with
        | tup h7 r7 =>
          cases hz
          have e3 := strsO_tr r7 hss
          subst e3
          exact ⟨_, _, ss, rfl, rfl, .inr (SqT.sub sub h7), hsz, q.val sub (.str _)⟩
        | lst h7 r7 =>
          cases hz
          have e3 := strsO_tr r7 hss
          subst e3
          exact ⟨_, _, ss, rfl, rfl, .inl (.of (sub _ _ h7)), hsz, q.val sub (.str _)⟩
        | _ => simp [itemsO] at hz
      · cases e
    · cases e
def splitT (x : T) (ys : List T) : Option T := match x, ys with
  | .str a, [.str b] => if (b.length == 0) = false ∧ a.length + 2 ≤ sizeLine then some (.lst ((Txt.split a b).map .str)) else none
  | _, _ => none
theorem TrL.strs {K : PySem.W.Frag} {G : Hp} : ∀ (ns : List Str), TrL K G (ns.map T.str) (ns.map V.str)
  | [] => .nil
  | n :: ns => .cons (.str n) (TrL.strs ns)
theorem mt_splitT {K : PySem.W.Frag} : ∀ x u ys us, VOp K (fun G H a b as => OwR K G H .frz a b as) (fun G => (True ∧ Tr K G x u) ∧ TrL K G ys us) ((fun x xs H Q => ∃ a b, x = .str a ∧ xs = [.str b] ∧ (b.length == 0) = false ∧ a.length + 2 ≤ sizeLine ∧ rNewStrs (Txt.split a b) H Q) u us) (splitT x ys) := fun x u ys us G H c sub p e Q hq => by
  have q : Gave K G H .frz c Q := ⟨hq⟩
  obtain ⟨⟨_, hx⟩, hy⟩ := p
  cases hx <;> try (simp only [splitT] at e; cases e)
  match ys, hy, e with
  | [.str b], hy, e =>
    simp only [splitT] at e
    split at e <;> cases e
    rename_i hz
    obtain ⟨v, rfl, hv⟩ := hy.one
    cases hv
    exact ⟨_, _, rfl, rfl, hz.1, hz.2, q.lst sub (TrL.strs _)⟩

/-! ### a, b = x, y; a, b, c = x, y, z -/
def par2 (i j : Nat) (f : FA) : FS := fun env => (f env).bindS fun vs env => match vs with
  | [v, w] => if i < env.length ∧ j < env.length then .nxt ((env.set i (some v)).set j (some w)) else .stk
  | _ => .stk
theorem SJ.par2 {i j : Nat} {x y : Str} {px py pt : Pos} {kt k2 pt2} {f : FA} (C : Cok X W) (ha : AJ X W fx ms [a, b] ms1 f) (hi : X.N[i]? = some x := by rfl) (hj : X.N[j]? = some y := by rfl) (hij : i ≠ j := by decide)
    (hx : X.env.scope.names.lookup x = some .local := by rfl) (hy : X.env.scope.names.lookup y = some .local := by rfl)
    (hw : swappedStores [.Tuple [.Name x px, .Name y py] kt pt] (.Tuple [a, b] k2 pt2) X.env = pure (some [x, y]) := by rfl)
    (hs : swapsWithSole [.Tuple [.Name x px, .Name y py] kt pt] (.Tuple [a, b] k2 pt2) pos.line X.env = pure false := by rfl) (nf : noFx fx [i, j] = true := by rfl) :
    SJ X W fx ms (.Assign [.Tuple [.Name x px, .Name y py] kt pt] (.Tuple [a, b] k2 pt2) pos) ((ms1.set i .frz).set j .frz) msL r (VS.par2 i j f) := by
  obtain ⟨t, p, rj⟩ := ha
  refine PS.weak (ps_par C.calm C.nd hi hj hij hx hy p hw hs) fun D σ H ⟨env, G, own, s, w⟩ => Wants.expr rj s w fun vs env1 e1 us G1 H1 own1 as s1 rel nd stp => ?_
  obtain ⟨rel, rfl⟩ := rel
  match vs, rel, e1 with
  | [v1, v2], rel, e1 =>
    have e2 : VS.par2 i j f env = if i < env1.length ∧ j < env1.length then .nxt ((env1.set i (some v1)).set j (some v2)) else .stk := by show Out.bindS _ _ = _; rw [e1]; rfl
    obtain ⟨u1, u2, rfl, h1, h2⟩ := rel.two
    by_cases hl : i < env1.length ∧ j < env1.length
    · obtain ⟨o2, s2, b2⟩ := s1.set hl.1 (.frz h1) (by simpa using s1.nd)
      obtain ⟨o3, s3, b3⟩ := s2.set (by rw [List.length_set]; exact hl.2) (.frz h2) (by simpa using s2.nd)
      refine ⟨u1, u2, rfl, w.nx _ (by rw [e2, if_pos hl]) _ G1 H1 o3 s3 ((OutOf.trans (tv := [i]) (tv' := [j]) .set .set).fxs nf) (stp.own fun z hz => ?_)⟩
      simpa using b2 z (by simpa using b3 z hz)
    · exact absurd (by rw [e2, if_neg hl]) w.ns
  | [], rel, e1 => exact absurd (by show Out.bindS _ _ = _; rw [e1]; rfl) w.ns
  | [v1], rel, e1 => exact absurd (by show Out.bindS _ _ = _; rw [e1]; rfl) w.ns
  | v1 :: v2 :: v3 :: vr, rel, e1 => exact absurd (by show Out.bindS _ _ = _; rw [e1]; rfl) w.ns
def par3 (i j l : Nat) (f : FA) : FS := fun env => (f env).bindS fun vs env => match vs with
  | [u, v, w] => if i < env.length ∧ j < env.length ∧ l < env.length then .nxt (((env.set i (some u)).set j (some v)).set l (some w)) else .stk
  | _ => .stk
theorem SJ.par3 {i j l : Nat} {x y z : Str} {px py pz pt : Pos} {kt k2 pt2} {f : FA} (C : Cok X W) (ha : AJ X W fx ms [a, b, c] ms1 f) (hi : X.N[i]? = some x := by rfl) (hj : X.N[j]? = some y := by rfl) (hl : X.N[l]? = some z := by rfl) (hij : i ≠ j := by decide) (hil : i ≠ l := by decide) (hjl : j ≠ l := by decide)
    (hx : X.env.scope.names.lookup x = some .local := by rfl) (hy : X.env.scope.names.lookup y = some .local := by rfl) (hz : X.env.scope.names.lookup z = some .local := by rfl)
    (hw : swappedStores [.Tuple [.Name x px, .Name y py, .Name z pz] kt pt] (.Tuple [a, b, c] k2 pt2) X.env = pure (some [x, y, z]) := by rfl)
    (hs : swapsWithSole [.Tuple [.Name x px, .Name y py, .Name z pz] kt pt] (.Tuple [a, b, c] k2 pt2) pos.line X.env = pure false := by rfl) (nf : noFx fx [i, j, l] = true := by rfl) :
    SJ X W fx ms (.Assign [.Tuple [.Name x px, .Name y py, .Name z pz] kt pt] (.Tuple [a, b, c] k2 pt2) pos) (((ms1.set i .frz).set j .frz).set l .frz) msL r (VS.par3 i j l f) := by
  obtain ⟨t, p, rj⟩ := ha
  refine PS.weak (ps_par3 C.calm C.nd hi hj hl hij hil hjl hx hy hz p hw hs) fun D σ H ⟨env, G, own, s, w⟩ => Wants.expr rj s w fun vs env1 e1 us G1 H1 own1 as s1 rel nd stp => ?_
  obtain ⟨rel, rfl⟩ := rel
  match vs, rel, e1 with
  | [v1, v2, v3], rel, e1 =>
    have e2 : VS.par3 i j l f env = if i < env1.length ∧ j < env1.length ∧ l < env1.length then .nxt (((env1.set i (some v1)).set j (some v2)).set l (some v3)) else .stk := by show Out.bindS _ _ = _; rw [e1]; rfl
    cases rel with | cons h1 rr =>
    obtain ⟨u2, u3, rfl, h2, h3⟩ := rr.two
    by_cases hl : i < env1.length ∧ j < env1.length ∧ l < env1.length
    · obtain ⟨o2, s2, b2⟩ := s1.set hl.1 (.frz h1) (by simpa using s1.nd)
      obtain ⟨o3, s3, b3⟩ := s2.set (by rw [List.length_set]; exact hl.2.1) (.frz h2) (by simpa using s2.nd)
      obtain ⟨o4, s4, b4⟩ := s3.set (by rw [List.length_set, List.length_set]; exact hl.2.2) (.frz h3) (by simpa using s3.nd)
      refine ⟨_, u2, u3, rfl, w.nx _ (by rw [e2, if_pos hl]) _ G1 H1 o4 s4 ((OutOf.trans (tv := [i, j]) (tv' := [l]) (OutOf.trans (tv := [i]) (tv' := [j]) .set .set) .set).fxs nf) (stp.own fun z hz => ?_)⟩
      simpa using b2 z (by simpa using b3 z (by simpa using b4 z hz))
    · exact absurd (by rw [e2, if_neg hl]) w.ns
  | [], rel, e1 => exact absurd (by show Out.bindS _ _ = _; rw [e1]; rfl) w.ns
  | [v1], rel, e1 => exact absurd (by show Out.bindS _ _ = _; rw [e1]; rfl) w.ns
  | [v1, v2], rel, e1 => exact absurd (by show Out.bindS _ _ = _; rw [e1]; rfl) w.ns
  | v1 :: v2 :: v3 :: v4 :: vr, rel, e1 => exact absurd (by show Out.bindS _ _ = _; rw [e1]; rfl) w.ns
end
end VS
-- VIter
set_option Elab.async false
set_option linter.all false
set_option maxRecDepth 100000
/-! VIter: enumerate over a tuple, zip; x[i] op= e; sums of lists. -/
namespace VS
open PySem L2

/-! ### enumerate(tuple) -/
/-- the tuple at a, its items in new pairs with their places -/
def IteT (K : PySem.W.Frag) (a : Addr) : It :=
  ⟨fun i H => ∃ xs x, SqT K H a xs ∧ xs[i]? = some x, fun i H v H' => ∃ N x, v = .ref N ∧ H N = none ∧ H' = upd H N (.tup [.int (i : Nat), x]) ∧ ∀ xs, SqT K H a xs → xs[i]? = some x, fun i H => ∃ xs, SqT K H a xs ∧ xs.length = i⟩
theorem two_mem {b e it : Addr} (h : b ∈ [e, it]) : b = e ∨ b = it := by simpa using h
theorem turnEnumT {P : Program} {w : World} {K : PySem.W.Frag} {els : List Expr} {k0 : Nat} {tp : Pos} (a e it : Addr) :
    Turn P w K (.Tuple els k0 tp) (IteT K a) [e, it] e (fun i h => (∃ old, IsEnum h e it ((i : Nat) : Int) old) ∧ h.IsTupleIter it a i ∧ e ≠ it) where
  mem := List.mem_cons_self
  obj := fun i h st b hb => by
    obtain ⟨⟨old, he⟩, ⟨o, ho, _, hd⟩, _⟩ := st
    rcases two_mem hb with rfl | rfl
    · exact ⟨_, he, fun _ z => nomatch z⟩
    · exact ⟨o, ho, fun _ z => by rw [hd] at z; cases z⟩
  keep := fun i h h' st k => ⟨st.1.imp fun old he => k e List.mem_cons_self _ he, st.2.1.at fun o q => k it (by simp) o q, st.2.2⟩
  item := by
    intro X eP eW eK calm i pins s σ H E I fresh st go
    subst eP eW eK
    obtain ⟨⟨old, he⟩, hit, dif⟩ := st
    obtain ⟨xs, x, q, hx⟩ := go
    obtain ⟨vals, rel, tupH, _⟩ := I.tuple q
    have T0 : s.heap.IsTuple a vals.toArray := tupH
    have lenI : i < vals.toArray.size := by
      rw [List.size_toArray, ← rel.length]
      exact (List.getElem?_eq_some_iff.mp hx).1
    have aNe : a ≠ it := fun z => by
      obtain ⟨o, ho, hc, _⟩ := hit
      obtain ⟨o2, ho2, hc2, _⟩ := tupH
      rw [z, ho] at ho2
      cases ho2
      rw [hc] at hc2
      injection hc2 with z2
      exact absurd z2 (by decide)
    have eNe : e ∉ [it, a] := fun z => by
      rcases two_mem z with rfl | rfl
      · exact dif rfl
      · obtain ⟨o2, ho2, hc2, _⟩ := tupH
        rw [show s.heap.get? e = some _ from he] at ho2
        cases ho2
        injection (show Value.type "enumerate" = Value.type "tuple" from hc2) with z2
        exact absurd z2 (by decide)
    refine wpAny_pyNext_enum_itemC (Draws.tuple (A := X.A.in1) (show X.A.in1.handled = none from I.ok.hd calm) it a aNe vals.toArray) he ⟨hit, T0⟩ lenI dif eNe fun u h' tk hu out st' hT _ hk => ?_
    obtain ⟨u', hu', ru⟩ := rel.get hx
    have eu : u = u' := by
      have z : vals.toArray[i]? = some u := hu
      rw [List.getElem?_toArray, hu'] at z
      exact (Option.some.inj z).symm
    subst eu
    have big : ∀ b ∈ [e, it], b < s.heap.objs.size := fun b hb => by
      rcases two_mem hb with rfl | rfl
      · exact Heap.lt_size he
      · obtain ⟨_, ho, _⟩ := hit
        exact Heap.lt_size ho
    refine ⟨_, rfl, wpAny_letOwnedTupleGo_enum (s := { s with heap := h', toks := tk + 1 }) out fun h2 he2 sb => ?_⟩
    have T2 : h2.get? s.heap.objs.size = some { cls := .type "tuple", data := .seq #[.int i tk, u] } := (sb.2 _ (Nat.ne_of_gt (big e List.mem_cons_self))).trans hT
    have newOk : ObjOk X.prog X.w (upd H s.heap.objs.size (.tup [.int (i : Nat), x])) h2 s.heap.objs.size (.tup [.int (i : Nat), x]) :=
      ⟨show 2 ≤ sizeLine by decide, [.int i tk, u], .cons ⟨_, rfl⟩ (.cons ru .nil), _, T2, rfl, _, rfl⟩
    have I2 : Inv X pins σ (upd H s.heap.objs.size (.tup [.int (i : Nat), x])) { s with heap := h2, toks := tk + 1 } :=
      I.turnedNew (ch := [e, it]) (fun b ob nb g => (sb.2 b fun z => nb (z ▸ List.mem_cons_self)).trans (hk b ob (fun z => nb (z ▸ List.mem_cons_self)) (fun z => nb (z ▸ List.mem_cons_of_mem _ List.mem_cons_self)) g)) fresh (Nat.le_refl _) newOk
    refine ⟨.ref s.heap.objs.size, _, I2, rfl, ⟨_, x, rfl, I.hok.fresh (Nat.le_refl _), rfl, fun ys hy => (I.tuple_inj hy q) ▸ hx⟩, ⟨⟨u, ?_⟩, st'.1.at fun o g => (sb.2 it (Ne.symm dif)).trans g, dif⟩, fun b hb => ?_⟩
    · rw [show ((i + 1 : Nat) : Int) = (i : Int) + 1 by omega]
      exact he2
    · rw [upd_ne (Nat.ne_of_lt (big b hb))]
      exact (fresh b hb).1
  done := by
    intro X eP eW eK calm i pins s σ H E I fresh st go
    subst eP eW eK
    obtain ⟨⟨old, he⟩, hit, dif⟩ := st
    obtain ⟨xs, q, hx⟩ := go
    obtain ⟨vals, rel, tupH, _⟩ := I.tuple q
    have T0 : s.heap.IsTuple a vals.toArray := tupH
    have aNe : a ≠ it := fun z => by
      obtain ⟨o, ho, hc, _⟩ := hit
      obtain ⟨o2, ho2, hc2, _⟩ := tupH
      rw [z, ho] at ho2
      cases ho2
      rw [hc] at hc2
      injection hc2 with z2
      exact absurd z2 (by decide)
    have lenI : vals.toArray.size = i := by rw [List.size_toArray, ← rel.length, hx]
    obtain ⟨f0, f1, f2, f3, f4, f5⟩ := fresh it (List.mem_cons_of_mem _ List.mem_cons_self)
    exact wpAny_pyNext_enum_endD (Draws.tuple (A := X.A.in1) (show X.A.in1.handled = none from I.ok.hd calm) it a aNe vals.toArray) he ⟨by rw [lenI]; exact hit, T0⟩ fun h' eb => ⟨rfl, I.turned (t' := s.toks) (fun b o nb g => eb b o nb g) f0 f1 f3 f4 f5⟩
  self := fun _ _ _ _ _ st h => st.1.elim fun _ he => wpAny_pyIter_enum he h
set_option maxHeartbeats 2000000 in
theorem enumMade {v : Value} {ob : Obj} {Hd : Heap → Prop} (B : Begins v ob Hd) :
    Meets (Builtin.«enumerate.__new__» ⟨[.type "enumerate", v], []⟩) (fun _ R s => Hd s.heap ∧ R (.ok (.ret (.ref (s.heap.push ob).objs.size))) { s with heap := (s.heap.push ob).push { cls := .type "enumerate", data := .fields #[.none, .bool false, .ref s.heap.objs.size, rawInt 0, .none, .none] } }) := by
  refine .of_wp fun prog w A R st q => ?_
  obtain ⟨hp, gn, dr, tk, os⟩ := st
  obtain ⟨h0, q⟩ := q
  have subE := sub_enumerate
  have itB : ∀ {A' : Around} {E : Value → Shared → Prop} {Q : Value → Shared → Prop}, Q (.ref hp.objs.size) ⟨hp.push ob, gn, dr, tk, os⟩ → wpAny (model prog w) A' (pyIter v) Q E ⟨hp, gn, dr, tk, os⟩ := fun k => B.iter prog w _ _ ⟨hp, gn, dr, tk, os⟩ _ h0 k
  wp_walk using itB
  refine wpAny_stack_any fun _ => wpAny_pure ?_
  split
  · rename_i cc _ _ _ _ _
    cases (cc == Value.type "enumerate") <;> (wp_walk using itB; exact ⟨_, rfl, q⟩)
  · wp_walk using itB
    exact ⟨_, rfl, q⟩
theorem enumCall {prog : Program} {w : World} {A : Around} {E : Value → Shared → Prop} {s : Shared} {v : Value} {ob : Obj} {Hd : Heap → Prop} {Q : Value → Shared → Prop} (B : Begins v ob Hd) (h0 : Hd s.heap)
    (k : ∀ h', IsEnum h' (s.heap.objs.size + 1) s.heap.objs.size 0 .none → h'.get? s.heap.objs.size = some ob → (∀ b o, s.heap.get? b = some o → h'.get? b = some o) → Q (.ref (s.heap.objs.size + 1)) { s with heap := h' }) :
    wpAny (model prog w) A (call (.type "enumerate") [v]) Q E s := by
  refine callType_new F.called_enumerate (by decide) (F.typeCall_enumerate_1 _) (F.newCall_enumerate_1 _) (fun obj => F.args_object_init_2 obj _) F.entry_enumerate_new (enumMade B) ⟨h0, ?_⟩
  have sz : (s.heap.push ob).objs.size = s.heap.objs.size + 1 := Heap.size_push ..
  have at1 := Heap.get?_push_size (s.heap.push ob) (o := { cls := .type "enumerate", data := .fields #[.none, .bool false, .ref s.heap.objs.size, rawInt 0, .none, .none] }) rfl
  rw [sz] at at1
  show _ ∧ _
  rw [sz]
  exact ⟨⟨_, at1, rfl⟩, k _ at1 (Heap.get?_push_of_some _ (Heap.get?_push_size _ B.free)) fun b o x => Heap.get?_push_of_some _ (Heap.get?_push_of_some _ x)⟩
def iEnT (K : PySem.W.Frag) (ta : TA) : TI := fun σ H R => ta σ H fun vs H1 => ∃ a xs, vs = [.ref a] ∧ SqT K H1 a xs ∧ R (IteT K a) H1
theorem piEnumT {X : Cx} {e : Expr} {ta : TA} {p pos tp : Pos} {els : List Expr} {k0 : Nat} (hg : Gl X "enumerate") (hm : X.mg "enumerate" = none) (ha : PA X [e] ta) (hs : starEach [e] X.env = [(false, eval e X.env)] := by rfl) :
    PI X (.Tuple els k0 tp) (.Call (.Name "enumerate" p) [e] [] pos) (iEnT X.K ta) := by
  refine ⟨fun pins s σ H R I h => PyProof.Rows.Call_ (ld_blt I hg hm PyProof.Rows.boot_enumerate (PyProof.Rows.callWith_type1 (thn (ha.run pos pins s σ H _ I h) fun us s1 ⟨vs, H1, I1, r1, a, xs, ex, q, k⟩ => ?_) hs rfl))⟩
  subst ex
  obtain ⟨u, rfl, ru⟩ := r1.one
  cases ru
  obtain ⟨vals, rel, tupH, _⟩ := I1.tuple q
  have T0 : s1.heap.IsTuple a vals.toArray := tupH
  refine enumCall (begins_tuple a vals.toArray) T0 fun h' he hit hk => wpAny_pyIter_enum he ?_
  have I2 : Inv X pins σ H1 { s1 with heap := h' } := I1.kept (t' := s1.toks) hk
  refine ⟨s1.heap.objs.size + 1, [s1.heap.objs.size + 1, s1.heap.objs.size], _, _, H1, rfl, I2, turnEnumT a _ _, ⟨⟨.none, he⟩, ⟨_, hit, rfl, rfl⟩, Nat.succ_ne_self _⟩, fun b hb => ?_, k⟩
  have up : s1.heap.objs.size ≤ b := by
    rcases two_mem hb with z | z
    · exact z ▸ Nat.le_add_right _ _
    · exact Nat.le_of_eq z.symm
  exact I1.fpOk up (I1.hok.fresh up)

/-! ### what enumerate and zip yield -/
def enL (xs : List T) : List T := xs.zipIdx.map fun p => .tup [.int (p.2 : Nat), p.1]
theorem enL_get {xs : List T} {i : Nat} {t : T} (h : (enL xs)[i]? = some t) : ∃ x, xs[i]? = some x ∧ t = .tup [.int (i : Nat), x] := by
  unfold enL at h
  rw [List.getElem?_map, List.getElem?_zipIdx] at h
  cases e : xs[i]? with
  | none => rw [e] at h; cases h
  | some x =>
    rw [e] at h
    simp only [Option.map_some, Option.some.injEq, Nat.zero_add] at h
    exact ⟨x, rfl, h.symm⟩
theorem enL_length (xs : List T) : (enL xs).length = xs.length := by simp [enL]
/-- a new pair -/
theorem new_pair {K : PySem.W.Frag} {G H : Hp} {N : Addr} {a b : T} {x y : V} (sub : ∀ a o, G a = some o → H a = some o) (hN : H N = none) (ha : Tr K G a x) (hb : Tr K G b y) :
    ∃ G', Step G H [] G' (upd H N (.tup [x, y])) [] ∧ (∀ a o, G' a = some o → upd H N (.tup [x, y]) a = some o) ∧ Tr K G' (.tup [a, b]) (.ref N) :=
  ⟨upd G N (.tup [x, y]), Step.new sub hN, sub_new sub, .newT sub hN (.cons ha (.cons hb .nil))⟩
theorem wk_enT {K : PySem.W.Frag} {G0 : Hp} {a : Addr} {ts : List T} {vs : List V} (h : SqT K G0 a vs) (r : TrL K G0 ts vs) : Wk K (IteT K a) (enL ts) G0 := fun G H g sub => by
  have hq : SqT K H a vs := SqT.mono sub (SqT.mono g h)
  refine ⟨fun i t e => ?_, ⟨vs, hq, by rw [enL_length, r.length]⟩⟩
  obtain ⟨x, e1, rfl⟩ := enL_get e
  obtain ⟨v, e2, h1⟩ := r.get e1
  refine ⟨⟨vs, v, hq, e2⟩, fun y H' yy => ?_⟩
  obtain ⟨N, z, rfl, hN, rfl, yz⟩ := yy
  have e3 := yz vs hq
  rw [e2] at e3
  cases e3
  exact new_pair sub hN (.int _) (h1.mono g)
theorem wk_enL {K : PySem.W.Frag} {G0 : Hp} {a : Addr} {ts : List T} {vs : List V} (h : G0 a = some (.lst vs)) (r : TrL K G0 ts vs) : Wk K (Ite K a) (enL ts) G0 := fun G H g sub => by
  have hq : SqL K H a vs := .of (sub _ _ (g _ _ h))
  have w := walk_enum (K := K) (a := a) (xs := vs)
  refine ⟨fun i t e => ?_, ?_⟩
  · obtain ⟨x, e1, rfl⟩ := enL_get e
    obtain ⟨v, e2, h1⟩ := r.get e1
    have hi : i < vs.length := (List.getElem?_eq_some_iff.mp e2).1
    refine ⟨w.goes i H hi hq, fun y H' yy => ?_⟩
    obtain ⟨N, z0, z, rfl, hN, rfl, q1, q2⟩ := w.yields i H y H' hi hq yy
    cases q1
    have q3 : vs[i]? = some z := q2
    rw [e2] at q3
    cases q3
    exact new_pair sub hN (.int _) (h1.mono g)
  · rw [enL_length, r.length]
    exact w.stops H hq
def enO : List T → Option (List T)
  | [.tup xs] => some (enL xs)
  | [.lst xs] => some (enL xs)
  | _ => none
section
variable {X : Cx} {W : WX} {fx : List (Nat × Md)} {ms ms1 : List Md} {e : Expr} {pos p : Pos}
theorem IJ.enum {tp : Pos} {els : List Expr} {k0 : Nat} {f : FA} (hg : Gl X "enumerate") (hm : X.mg "enumerate" = none) (ha : AJ X W fx ms [e] ms1 f) (hs : starEach [e] X.env = [(false, eval e X.env)] := by rfl) : IJ X W fx ms (.Tuple els k0 tp) (.Call (.Name "enumerate" p) [e] [] pos) ms1 (iOpt enO f) := by
  refine IJ.of (PI.or (pi_enum hg hm ha.sem hs) (piEnumT hg hm ha.sem hs)) RJ.sem (fun σ H R xs items e h => ?_) fun σ H R h => .inl (semR.mono (fun _ _ z => z.elim) h)
  match xs, e with
  | [.tup ys], e =>
    cases e
    refine .inr (semR.mono (fun vs H1 q => ?_) h)
    obtain ⟨G1, r, sub, q⟩ := q
    obtain ⟨u, rfl, h9⟩ := r.one
    cases h9 with | tup h7 r7 => exact ⟨_, _, rfl, SqT.sub sub h7, q _ (wk_enT h7 r7)⟩
  | [.lst ys], e =>
    cases e
    refine .inl (semR.mono (fun vs H1 q => ?_) h)
    obtain ⟨G1, r, sub, q⟩ := q
    obtain ⟨u, rfl, h9⟩ := r.one
    cases h9 with | lst h7 r7 => exact ⟨_, _, rfl, .of (sub _ _ h7), q _ (wk_enL h7 r7)⟩
end
end VS
-- VExtra
set_option Elab.async false
set_option linter.all false
set_option maxRecDepth 100000
/-! VExtra: x[i] op= e on an owned list, sum of lists, repr of data, text * int. -/
namespace VS
open PySem L2 PySem.Spec PyProof.Rows

/-! ### x[i] op= e, x an owned list -/
theorem pget_list {X : Cx} : PGet X (rIxL X.K) := by
  intro pins s σ H x y v u Q I rx ry h
  obtain ⟨p, xs, i, z, rfl, rfl, hq, he, q⟩ := h
  cases rx
  obtain ⟨t, rfl⟩ := ry
  obtain ⟨its, r, pl, hz⟩ := I.list hq
  obtain ⟨j, h1, h2, h3, h4, h5⟩ := atI_get he
  obtain ⟨w, ew, rw'⟩ := r.get h2
  have hl := r.length
  have hn := line63
  have fin : EP X pins σ Q w s := ⟨z, H, I, rw', q⟩
  by_cases h0 : 0 ≤ i
  · have hj : i.toNat = j := by
      rw [seqIndex_of h0 h5] at h1
      exact Option.some.inj h1
    exact wpAny_mono (wpAny_getItem_list (Q := fun r s' => r = w ∧ EP X pins σ Q r s') (E := X.xe) pl.isList (by omega) (by omega) (by rw [hj]; simpa using ew) ⟨rfl, fin⟩) (fun _ _ h => h.2) fun _ _ z => z
  · have hj : (i + (its.toArray.size : Int)).toNat = j := by
      rw [seqIndex_neg (by omega) h4] at h1
      rw [List.size_toArray, ← hl]
      exact Option.some.inj h1
    exact wpAny_mono (wpAny_getItem_list_neg (Q := fun r s' => r = w ∧ EP X pins σ Q r s') (E := X.xe) pl.isList (by omega) (by rw [List.size_toArray] <;> omega) (by omega) (by rw [hj]; simpa using ew) ⟨rfl, fin⟩) (fun _ _ h => h.2) fun _ _ z => z
def addIT : T → T → Option T
  | .int i, .int j => some (.int (i + j))
  | _, _ => none
theorem bin_ipAdd {K : PySem.W.Frag} : Bin K .frz (ipI fun i j => i + j) addIT := .mk fun G H x y u v c sub hx hy e Q q => by
  cases hx <;> cases hy <;> simp only [addIT] at e <;> cases e
  exact ⟨_, _, rfl, rfl, q.val sub (.int _)⟩
theorem bin_ipSub {K : PySem.W.Frag} : Bin K .frz (ipI fun i j => i - j) subT := .mk fun G H x y u v c sub hx hy e Q q => by
  cases hx <;> cases hy <;> simp only [subT] at e <;> cases e
  exact ⟨_, _, rfl, rfl, q.val sub (.int _)⟩
/-- the new item, stored -/
def auK (j : Nat) (s : T → T → Option T) (i x y : T) : FS := fun env => match s x y with
  | some z => stK j z i env
  | none => .stk
def auG (j : Nat) (s : T → T → Option T) (fe : FE) (i : T) : FS := fun env => match lstAt env j, i with
  | some xs, .int k => (match atI xs k with
    | some x => (fe env).bindS (auK j s i x)
    | none => .stk)
  | _, _ => .stk
def augO (j : Nat) (s : T → T → Option T) (fi fe : FE) : FS := fun env => if hasO env j = true then (fi env).bindS (auG j s fe) else .stk
section
variable {X : Cx} {W : WX} {fx : List (Nat × Md)} {ms ms1 ms2 ms3 msL msN : List Md} {e e2 c : Expr} {es : List Expr} {r : Md} {pos p : Pos} {j : Nat} {y : Str}
theorem SJ.augO {fi fe : FE} {px ps : Pos} {i v : Expr} {op : Operator} {rr : R2} {s : T → T → Option T} (hp : PIp X op rr) (hb : Bin X.K .frz rr s) (hi : EF X W fx ms i ms1 fi) (he : EF X W fx ms1 v ms2 fe) (hj : ms2[j]? = some (.own .frz) := by rfl) (hj1 : ms1[j]? = some (.own .frz) := by rfl) (hN : X.N[j]? = some y := by rfl)
    (hvs : Vis X.env.scope y := by first | exact Or.inl rfl | exact Or.inr (Or.inl rfl) | exact Or.inr (Or.inr rfl)) (hd : (y == ("__debug__" : Str)) = false := by decide) (hcd : (y == ("__classdict__" : Str)) = false := by decide)
    (ha : ∀ ov iv new, augStore i ov iv new = (do holding [new, ov, iv] (setItem ov iv new); release [new, ov, iv] []; pure .next) := by intros; rfl) :
    SJ X W fx ms (.AugAssign (.Subscript (.Name y px) i ps) op v pos) ms2 msL r (VS.augO j s fi fe) := by
  obtain ⟨t1, p1, rj1⟩ := hi
  obtain ⟨t2, p2, rj2⟩ := he
  refine PS.weak (ps_augS (pe_var hN hvs hd hcd) p1 pget_list p2 hp set_list ha) fun D σ H ⟨env, G, own, sr, w⟩ => ?_
  have hh : hasO env j = true := by
    cases q : hasO env j with
    | true => rfl
    | false => exact absurd (by show (if _ then _ else _) = _; rw [q]; rfl) w.ns
  have ea : VS.augO j s fi fe env = (fi env).bindS (auG j s fe) := by show (if _ then _ else _) = _; rw [hh]; rfl
  obtain ⟨v0, ev⟩ := hasO_slot sr hh
  refine ⟨v0, ev, rj1 env σ G H own trivial sr (fun e => w.ns (by rw [ea, e]; rfl)) _ (fun iv env1 e1 iu G1 H1 own1 as1 s1 rel1 nd1 st1 => ?_) fun x env1 e1 msR cls d G' H' own' fo s' er stp => w.ex x env1 (by rw [ea, e1]; rfl) msR σ cls d G' H' own' fo s' (.refl σ) er stp⟩
  obtain ⟨rel1, rfl⟩ := rel1
  simp only [List.nil_append] at st1
  have eb : VS.augO j s fi fe env = auG j s fe iv env1 := by rw [ea, e1]; rfl
  cases el : lstAt env1 j with
  | none => exact absurd (by rw [eb]; unfold auG; simp only [el]) w.ns
  | some xs =>
    cases rel1 with
    | int k =>
      cases ei : atI xs k with
      | none => exact absurd (by rw [eb]; unfold auG; simp only [el, ei]) w.ns
      | some x =>
        have ec : VS.augO j s fi fe env = (fe env1).bindS (auK j s (.int k) x) := by rw [eb]; unfold auG; simp only [el, ei]
        obtain ⟨a, vs, e2, hH, tr, _⟩ := s1.mut hj1 (lstAt_some el)
        rw [ev] at e2
        cases e2
        obtain ⟨xu, h1, h2⟩ := atI_tr tr ei
        refine ⟨a, vs, k, xu, rfl, rfl, .of hH, h1, ?_⟩
        refine rj2 env1 σ G1 H1 own1 trivial s1 (fun e => w.ns (by rw [ec, e]; rfl)) _ (fun yv env2 e2 yu G2 H2 own2 as2 s2 rel2 nd2 st2 => ?_) fun x env2 e2 msR cls d G' H' own' fo s' er stp => w.ex x env2 (by rw [ec, e2]; rfl) msR σ cls d G' H' own' fo s' (.refl σ) er (st1.trans stp)
        obtain ⟨rel2, rfl⟩ := rel2
        simp only [List.nil_append] at st2
        have ed : VS.augO j s fi fe env = auK j s (.int k) x yv env2 := by rw [ec, e2]; rfl
        cases es : s x yv with
        | none => exact absurd (by rw [ed]; unfold auK; simp only [es]) w.ns
        | some z =>
          have ee : VS.augO j s fi fe env = stK j z (.int k) env2 := by rw [ed]; unfold auK; simp only [es]
          refine hb x yv xu yu G2 H2 z s2.sub ⟨⟨trivial, h2.mono st2.gm⟩, rel2⟩ es _ fun zu G3 H3 as3 st3 sub3 relz _ => ?_
          obtain ⟨relz9, rfl⟩ := OwR.frz_iff.mp relz
          have s3 := s2.keep st3 sub3
          have st3' : Step G2 H2 own2 G3 H3 own2 := by simpa using st3.lift (own := own2)
          cases el2 : lstAt env2 j with
          | none => exact absurd (by rw [ee]; unfold stK; simp only [el2]) w.ns
          | some xs2 =>
            obtain ⟨a2, vs2, e4, hH2, tr2, kk⟩ := s3.mut hj (lstAt_some el2)
            rw [ev] at e4
            cases e4
            cases en : ixN xs2.length k with
            | none => exact absurd (by rw [ee]; unfold stK; simp only [el2, en]) w.ns
            | some n =>
              obtain ⟨own4, s4, st4⟩ := kk (xs2.set n z) (vs2.set n zu) (TrL.set relz9 n tr2)
              exact ⟨a, vs2, k, n, rfl, rfl, hH2, by rw [← tr2.length]; exact en, w.nx _ (by rw [ee]; unfold stK; simp only [el2, en]) σ G3 _ own4 s4 (.refl σ) (((st1.trans st2).trans st3').trans st4)⟩
    | _ => exact absurd (by rw [eb]; unfold auG; simp only [el]) w.ns
end

/-! ### text * int -/
def mulST : T → T → Option T
  | .str a, .int k => if 0 ≤ k ∧ k < 10000000 ∧ a.length * k.toNat ≤ sizeLine then some (.str ⟨(List.replicate k.toNat a.cps).foldl (· ++ ·) #[]⟩) else none
  | x, y => mulT x y
theorem rep_one (a : Array Nat) : (List.replicate 1 a).foldl (· ++ ·) #[] = a := by simp
theorem rep_nil (k : Nat) : (List.replicate k (#[] : Array Nat)).foldl (· ++ ·) #[] = #[] := by
  induction k with
  | zero => rfl
  | succ k ih => rw [List.replicate_succ, List.foldl_cons]; simpa using ih
theorem rep_len (a : Str) : ∀ k : Nat, (⟨(List.replicate k a.cps).foldl (· ++ ·) #[]⟩ : Str).length = a.length * k := by
  have h : ∀ (k : Nat) (b : Array Nat), ((List.replicate k a.cps).foldl (· ++ ·) b).size = b.size + a.cps.size * k := by
    intro k
    induction k with
    | zero => intro b; simp
    | succ k ih => intro b; rw [List.replicate_succ, List.foldl_cons, ih, Array.size_append, Nat.mul_succ]; omega
  intro k
  have e := h k #[]
  show (List.foldl (fun x1 x2 => x1 ++ x2) #[] (List.replicate k a.cps)).size = a.cps.size * k
  rw [e]
  simp
def rMulS : R2 := fun x y H Q => ∃ a k, x = .str a ∧ y = .int k ∧ 0 ≤ k ∧ k < 10000000 ∧ a.length * k.toNat ≤ sizeLine ∧ Q (.str ⟨(List.replicate k.toNat a.cps).foldl (· ++ ·) #[]⟩) H
theorem op_mulS {X : Cx} : OpR X (binaryOp .Mult) rMulS := by
  intro pins s σ H x y v u Q I rx ry h
  obtain ⟨a, k, rfl, rfl, h0, h1, hz, q⟩ := h
  obtain ⟨t, rfl⟩ := rx
  obtain ⟨t', rfl⟩ := ry
  have e1 : decide (k < -(2 ^ 63 : Int)) = false := decide_eq_false (by omega)
  have e2 : decide (k ≥ 2 ^ 63) = false := decide_eq_false (by omega)
  refine PySem.P.mul_str (by rw [e1, e2]; rfl) (fun hk _ hb => ?_) (fun hk _ => ?_) ?_
  · have : a.length ≤ a.length * k.toNat := Nat.le_mul_of_pos_right _ (by omega)
    have h9 : (2 ^ 63 - 1 : Int) / 10000000 ≤ (2 ^ 63 - 1) / k := by
      apply Int.le_ediv_of_mul_le (by omega)
      have : (2 ^ 63 - 1 : Int) / 10000000 * k ≤ (2 ^ 63 - 1 : Int) / 10000000 * 10000000 := Int.mul_le_mul_of_nonneg_left (by omega) (by decide)
      exact Int.le_trans this (by decide)
    have h8 : (a.length : Int) ≤ 16777216 := by rw [sizeLine_eq] at hz; omega
    have h7 : (2 ^ 63 - 1 : Int) / 10000000 = 922337203685 := by decide
    omega
  · exact decide_eq_false (by omega)
  · split
    · rename_i hk
      have e : k = 0 := by omega
      subst e
      exact ⟨Nat.zero_le _, .str _, H, I.tok _, ⟨_, rfl⟩, q⟩
    · rename_i hk
      split
      · rename_i hc
        rcases Bool.or_eq_true_iff.mp hc with hc | hc
        · have e : k = 1 := by simpa using hc
          subst e
          refine ⟨.str a, H, I, ⟨_, rfl⟩, ?_⟩
          have e : (List.replicate (1 : Int).toNat a.cps).foldl (· ++ ·) #[] = a.cps := rep_one a.cps
          rw [e] at q
          exact q
        · have e : a.cps = #[] := by
            have : a.length = 0 := by simpa using hc
            exact Array.eq_empty_of_size_eq_zero this
          obtain ⟨cps⟩ := a
          simp only at e
          subst e
          refine ⟨.str ⟨#[]⟩, H, I, ⟨_, rfl⟩, ?_⟩
          rw [rep_nil] at q
          exact q
      · exact ⟨by rw [rep_len]; exact hz, .str _, H, I.tok _, ⟨_, rfl⟩, q⟩
def rMulAS : R2 := fun x y H Q => rMulS x y H Q ∨ rMulA x y H Q
theorem op_mulAS {X : Cx} : OpR X (binaryOp .Mult) rMulAS := OpR.or op_mulS op_mulA
theorem bin_mulS {K : PySem.W.Frag} : Bin K .frz rMulAS mulST := .mk fun G H x y u v c sub hx hy e Q q => by
  by_cases hs : ∃ a k, x = .str a ∧ y = .int k
  · obtain ⟨a, k, rfl, rfl⟩ := hs
    cases hx; cases hy
    simp only [mulST] at e
    split at e <;> cases e
    rename_i hz
    exact .inl ⟨_, _, rfl, rfl, hz.1, hz.2.1, hz.2.2, q.val sub (.str _)⟩
  · have e2 : mulST x y = mulT x y := by
      unfold mulST
      split
      · exact absurd ⟨_, _, rfl, rfl⟩ hs
      · rfl
    rw [e2] at e
    exact .inr (bin_mul x y u v G H c sub ⟨⟨trivial, hx⟩, hy⟩ e Q q.to)

/-! ### repr of data -/
def isRefT : T → Bool
  | .tup _ => true
  | .lst _ => true
  | _ => false
def reprO : List T → Option T
  | [x] => (match toD x with
    | some d => if isRefT x && SeqAt.shaped d && d.showable && decide (d.shown.length ≤ sizeLine) then some (.str d.shown) else none
    | none => none)
  | _ => none
def rReprD (K : PySem.W.Frag) : List V → Hp → VK → Prop := fun xs H Q => ∃ (a : Addr) (d : PyData), xs = [.ref a] ∧ Dp K H (.ref a) d ∧ SeqAt.shaped d = true ∧ d.showable = true ∧ d.shown.length ≤ sizeLine ∧ Q (.str d.shown) H
theorem call_reprD {X : Cx} (hg : X.A.guards = some []) (hu : X.A.units + 70 < cLine) : CallR X (.builtin "repr") (rReprD X.K) := by
  intro pins s σ H xs us Q I r h
  obtain ⟨a, d, rfl, hd, sd, sh, hz, q⟩ := h
  obtain ⟨u, rfl, rx⟩ := vals1 r
  obtain ⟨as, r1⟩ := Dp.reads I d _ u hd rx
  cases rx
  have hs : (d.canLay0 && decide (d.depth ≤ 64)) = true := sd
  rw [Bool.and_eq_true] at hs
  have hdep : d.depth ≤ 64 := of_decide_eq_true hs.2
  exact repr_of_reads' r1 sh (PyData.noDict_hsm (PyData.hasDict_of_canLay d hs.1)) hg (by omega) (fun _ _ e => e) (fun h' u tk hk => ⟨.str d.shown, H, I.kept (t' := tk) hk, ⟨u, rfl⟩, q⟩) hz
theorem cal_reprD {K : PySem.W.Frag} : Cal K .frz (rReprD K) reprO := .mk fun G H xs us c sub h e Q q => by
  match xs, h, e with
  | [x], h, e =>
    simp only [reprO] at e
    cases ed : toD x with
    | none => rw [ed] at e; cases e
    | some d =>
      rw [ed] at e
      simp only at e
      split at e <;> cases e
      rename_i hc
      simp only [Bool.and_eq_true, decide_eq_true_eq] at hc
      obtain ⟨⟨⟨h1, h2⟩, h3⟩, h4⟩ := hc
      obtain ⟨u, rfl, hx⟩ := h.one
      have dp := hx.dp sub ed
      cases hx <;> simp [isRefT] at h1
      · exact ⟨_, d, rfl, dp, h2, h3, h4, q.val sub (.str _)⟩
      · exact ⟨_, d, rfl, dp, h2, h3, h4, q.val sub (.str _)⟩
/-! ### str of numbers and of texts -/
def strSO : List T → Option T
  | [.int i] => if i.natAbs < 2 ^ 64 then some (.str (toString i)) else none
  | [.str a] => some (.str a)
  | _ => none
def rStrA : List V → Hp → VK → Prop := fun xs H Q => (∃ i, xs = [.int i] ∧ i.natAbs.log2 < 1920 ∧ Q (.str (toString i)) H) ∨ ∃ a, xs = [.str a] ∧ Q (.str a) H
theorem call_strA {X : Cx} : CallR X (.type "str") rStrA := CallR.or call_str_int SkE.call_str_str
theorem cal_strA {K : PySem.W.Frag} : Cal K .frz rStrA strSO := .mk fun G H xs us c sub h e Q q => by
  match xs, h, e with
  | [.int i], h, e =>
    simp only [strSO] at e
    split at e <;> cases e
    rename_i hz
    obtain ⟨u, rfl, h9⟩ := h.one
    cases h9
    refine .inl ⟨_, rfl, ?_, q.val sub (.str _)⟩
    by_cases h0 : i.natAbs = 0
    · rw [h0]; decide
    · have := (Nat.log2_lt h0).mpr hz
      omega
  | [.str a], h, e =>
    cases e
    obtain ⟨u, rfl, h9⟩ := h.one
    cases h9
    exact .inr ⟨_, rfl, q.val sub (.str _)⟩
end VS
-- VSum
set_option Elab.async false
set_option linter.all false
set_option maxRecDepth 100000
set_option maxHeartbeats 1000000
/-! VSum: sum(lists, a list). -/
namespace VS
open PySem L2 PySem.Spec PyProof.Rows

/-- a plain list of these items -/
def LL (h : Heap) (v : Value) (its : List Value) : Prop := ∃ a n, v = .ref a ∧ PySem.IsL h a its.toArray n
theorem args_sum2 (a b : Value) : argsOk "sum" ⟨[a, b], []⟩ := by unfold argsOk; kernel_rfl
/-- the sum of the first items -/
def catF (lss : List (List Value)) (i : Nat) : List Value := (lss.take i).flatten
theorem catF_succ {lss : List (List Value)} {i : Nat} {ls : List Value} (h : lss[i]? = some ls) : catF lss (i + 1) = catF lss i ++ ls := by
  unfold catF
  rw [List.take_succ, h, List.flatten_append]
  simp
theorem catF_len (lss : List (List Value)) (i : Nat) : (catF lss i).length ≤ (lss.map List.length).sum := by
  unfold catF
  rw [List.length_flatten]
  have : ∀ (l : List Nat) (i : Nat), (l.take i).sum ≤ l.sum := by
    intro l
    induction l with
    | nil => intro i; simp
    | cons a l ih =>
      intro i
      cases i with
      | zero => simp
      | succ i => simp only [List.take_succ_cons, List.sum_cons]; have := ih i; omega
  rw [List.map_take]
  exact this _ _
section
variable {prog : Program} {w : World} {A : Around} {R : Result → Shared → Prop}
theorem sum_loop {I S l a0 : Addr} {items : Array Value} {lss : List (List Value)} {st : List Value} {h0 : Heap} (hh : A.handled = none) (hl0 : h0.IsList l items) (hI0 : h0.objs.size ≤ I) (hS0 : h0.objs.size ≤ S) (hIS : I ≠ S)
    (hitems : ∀ (i : Nat) (v : Value), items[i]? = some v → ∃ ls, lss[i]? = some ls ∧ LL h0 v ls) (hz : st.length + (lss.map List.length).sum ≤ sizeLine) :
    ∀ (k i : Nat) (s : Shared) (a n c : Nat), items.size - i = k → i ≤ items.size → (∀ b o, h0.get? b = some o → s.heap.get? b = some o) → s.heap.IsListIter I l i →
      s.heap.get? S = some { cls := .type "list", dict := none, data := .seq #[.ref a] c, slots := #[] } → PySem.IsL s.heap a (st ++ catF lss i).toArray n → a ≠ I → a ≠ S → ((i = 0 → a = a0) ∧ (i ≠ 0 → h0.objs.size ≤ a)) →
      (∀ h' tk a n, (∀ b o, h0.get? b = some o → h'.get? b = some o) → PySem.IsL h' a (st ++ catF lss items.size).toArray n → ((items.size = 0 → a = a0) ∧ (items.size ≠ 0 → h0.objs.size ≤ a)) → R (.ok (.ret (.ref a))) { s with heap := h', toks := tk }) →
      codeAny (model prog w) A (.builtin "sum.loop" ⟨[.ref I, .ref S, rawInt 2, rawInt 0], []⟩) R s := by
  have lt0 : ∀ {b : Addr} {o : Obj}, h0.get? b = some o → b ≠ I ∧ b ≠ S := fun {b o} e => by
    have q := Heap.lt_size e
    exact ⟨Nat.ne_of_lt (Nat.lt_of_lt_of_le q hI0), Nat.ne_of_lt (Nat.lt_of_lt_of_le q hS0)⟩
  intro k
  induction k with
  | zero =>
    intro i s a n c hk hi keep hit hS ha aI aS hd hR
    have e : i = items.size := by omega
    subst e
    refine codeAny_builtin F.entry_sum_loop ?_
    rw [Around.under_plainId F.plain_sum_loop _]
    show wpAny _ A.in1 (seqItems? (.ref S) >>= _) _ _ s
    refine wpAny_bind (wpAny_seqItems hS rfl ?_)
    show wpAny _ A.in1 (tryCatch (pyNext (.ref I)) _ >>= _) _ _ s
    refine wpAny_bind (wpAny_tryCatch (wpAny_pyNext_list_end (A := A.in1) hh hit (hl0.at fun o q => keep _ _ q) (by simp) fun h' eb => ?_))
    exact wpAny_pure (hR h' s.toks a n (fun b o q => eb b o (lt0 q).1 (keep b o q)) (eb a _ aI ha) hd)
  | succ k ih =>
    intro i s a n c hk hi keep hit hS ha aI aS hd hR
    have hlt : i < items.size := by omega
    obtain ⟨ls, els, b, nb, eb, hb⟩ := hitems i items[i] (by simp [hlt])
    refine codeAny_builtin F.entry_sum_loop ?_
    rw [Around.under_plainId F.plain_sum_loop _]
    show wpAny _ A.in1 (seqItems? (.ref S) >>= _) _ _ s
    refine wpAny_bind (wpAny_seqItems hS rfl ?_)
    show wpAny _ A.in1 (tryCatch (pyNext (.ref I)) _ >>= _) _ _ s
    refine wpAny_bind (wpAny_tryCatch (wpAny_pyNext_list_item hit (hl0.at fun o q => keep _ _ q) (x := items[i]) (by simp [hlt]) fun h' hit' sb => ?_))
    rw [eb]
    have kb : PySem.IsL h' b ls.toArray nb := (sb.2 b (lt0 hb).1).trans (keep _ _ hb)
    have ka : PySem.IsL h' a (st ++ catF lss i).toArray n := (sb.2 a aI).trans ha
    have kS : h'.get? S = some { cls := .type "list", dict := none, data := .seq #[.ref a] c, slots := #[] } := (sb.2 S (Ne.symm hIS)).trans hS
    have hz1 : (st ++ catF lss i).toArray.size + ls.toArray.size ≤ sizeLine := by
      have e := catF_succ els
      have z := catF_len lss (i + 1)
      rw [e, List.length_append] at z
      simp only [List.size_toArray, List.length_append]
      omega
    show wpAny _ A.in1 ((holding [Value.ref b] (binaryOp .Add (.ref a) (.ref b))).attempt >>= _) _ _ _
    refine wpAny_bind (wpAny_attempt (wpAny_holding (PySem.P.add_list ka kb ?_ hz1)))
    have e1 : (st ++ catF lss i).toArray ++ ls.toArray = (st ++ catF lss (i + 1)).toArray := by rw [catF_succ els]; simp
    rw [e1]
    have ltS := Heap.lt_size kS
    have pS : (h'.push { cls := .type "list", data := .seq (st ++ catF lss (i + 1)).toArray }).get? S = some { cls := .type "list", dict := none, data := .seq #[.ref a] c, slots := #[] } := Heap.get?_push_of_some _ kS
    show wpAny _ A.in1 (updateSeq S (fun _ => #[.ref h'.objs.size]) >>= _) _ _ _
    refine wpAny_bind (wpAny_updateSeq pS rfl (wpAny_bind (wpAny_letGo ?_)))
    show wpAny _ A.in1 (updateSeq S (fun _ => #[.ref h'.objs.size]) >>= _) _ _ _
    have pS2 : ((h'.push { cls := .type "list", data := .seq (st ++ catF lss (i + 1)).toArray }).update S (Obj.mapSeq fun _ => #[.ref h'.objs.size])).get? S = some { cls := .type "list", dict := none, data := .seq #[.ref h'.objs.size] c, slots := #[] } := by
      rw [Heap.get?_update_self _ pS rfl]
      simp [Obj.mapSeq]
    refine wpAny_bind (wpAny_updateSeq pS2 rfl (wpAny_pure ⟨plainId_quiet F.plain_sum_loop _, ?_⟩))
    have other : ∀ x, x ≠ S → (((h'.push { cls := .type "list", data := .seq (st ++ catF lss (i + 1)).toArray }).update S (Obj.mapSeq fun _ => #[.ref h'.objs.size])).update S (Obj.mapSeq fun _ => #[.ref h'.objs.size])).get? x = (h'.push { cls := .type "list", data := .seq (st ++ catF lss (i + 1)).toArray }).get? x := fun x hx => by
      rw [Heap.get?_update_other _ _ (Ne.symm hx), Heap.get?_update_other _ _ (Ne.symm hx)]
    have ltI : I < h'.objs.size := let ⟨_, e, _⟩ := hit'; Heap.lt_size e
    refine ih (i + 1) _ h'.objs.size 0 c (by omega) hlt (fun x o q => ?_) ?_ ?_ ?_ (Ne.symm (Nat.ne_of_lt ltI)) (Ne.symm (Nat.ne_of_lt ltS)) ⟨fun z => absurd z (Nat.succ_ne_zero _), fun _ => Nat.le_trans hI0 (Nat.le_of_lt ltI)⟩ fun h'' tk a' n' q1 q2 q3 => ?_
    · show Heap.get? _ x = some o
      rw [other x (lt0 q).2]
      exact Heap.get?_push_of_some _ ((sb.2 x (lt0 q).1).trans (keep x o q))
    · exact hit'.at fun o q => (other I hIS).trans (Heap.get?_push_of_some _ q)
    · show Heap.get? _ S = _
      rw [Heap.get?_update_self _ pS2 rfl]
      simp [Obj.mapSeq]
    · show Heap.get? _ _ = _
      rw [other _ (Ne.symm (Nat.ne_of_lt ltS))]
      exact Heap.get?_push_size _ rfl
    · exact hR h'' tk a' n' q1 q2 q3
theorem call_sum2 {E : Value → Shared → Prop} {s : Shared} {l a0 : Addr} {n0 : Nat} {items : Array Value} {lss : List (List Value)} {st : List Value} {Q : Value → Shared → Prop} (hh : A.handled = none) (hl : s.heap.IsList l items) (h0 : PySem.IsL s.heap a0 st.toArray n0)
    (hitems : ∀ (i : Nat) (v : Value), items[i]? = some v → ∃ ls, lss[i]? = some ls ∧ LL s.heap v ls) (hz : st.length + (lss.map List.length).sum ≤ sizeLine)
    (hQ : ∀ h' tk a n, (∀ b o, s.heap.get? b = some o → h'.get? b = some o) → PySem.IsL h' a (st ++ catF lss items.size).toArray n → ((items.size = 0 → a = a0) ∧ (items.size ≠ 0 → s.heap.objs.size ≤ a)) → Q (.ref a) { s with heap := h', toks := tk }) :
    wpAny (model prog w) A (call (.builtin "sum") [.ref l, .ref a0]) Q E s := by
  refine call_function_tree F.kind_sum F.plain_sum F.entry_sum (args_sum2 _ _) ?_
  unfold Builtin.«sum»
  simp only [List.length_cons, List.length_nil]
  rw [if_neg (by decide)]
  refine wpAny_bind (wpAny_of_eq (show Builtin.Builtins.bindParams "sum" ["start"] 0 ⟨[Value.ref a0], []⟩ = pure [some (Value.ref a0)] from rfl) ?_)
  refine wpAny_bind (wpAny_pyIter_list hl ?_)
  refine wpAny_bind (wpAny_pure ?_)
  have k0 : PySem.IsL (s.heap.push { cls := .type "list_iterator", data := .fields #[.ref l, .int 0 0] }) a0 st.toArray n0 := Heap.get?_push_of_some _ h0
  simp only [List.forIn_cons, List.forIn_nil]
  refine wpAny_bind (wpAny_bind (wpAny_bind (wpAny_isInstance (T := "list") (b := false) ⟨_, k0, rfl⟩ F.sub_list_str ?_)))
  simp only [Bool.false_eq_true, if_false]
  refine wpAny_pure (wpAny_bind (wpAny_bind (wpAny_isInstance (T := "list") (b := false) ⟨_, k0, rfl⟩ F.sub_list_bytes ?_)))
  simp only [Bool.false_eq_true, if_false]
  refine wpAny_pure (wpAny_bind (wpAny_bind (wpAny_isInstance (T := "list") (b := false) ⟨_, k0, rfl⟩ (by rw [isSubtype_type]; kernel_rfl) ?_)))
  simp only [Bool.false_eq_true, if_false]
  refine wpAny_pure (wpAny_pure ?_)
  refine wpAny_bind (wpAny_newObj_type ?_)
  have sz1 : (s.heap.push { cls := .type "list_iterator", data := .fields #[.ref l, .int 0 0] }).objs.size = s.heap.objs.size + 1 := Heap.size_push ..
  have keep : ∀ b o, s.heap.get? b = some o → ((s.heap.push { cls := .type "list_iterator", data := .fields #[.ref l, .int 0 0] }).push { cls := .type "list", data := .seq #[.ref a0] }).get? b = some o := fun b o q => Heap.get?_push_of_some _ (Heap.get?_push_of_some _ q)
  refine wpAny_pure ⟨plainId_quiet F.plain_sum_loop _, ?_⟩
  refine sum_loop (A := A) (I := s.heap.objs.size) (S := (s.heap.push { cls := .type "list_iterator", data := .fields #[.ref l, .int 0 0] }).objs.size) (l := l) (a0 := a0) (h0 := s.heap) (st := st) (lss := lss) hh hl (Nat.le_refl _) (by rw [sz1]; exact Nat.le_succ _) (by rw [sz1]; exact Nat.ne_of_lt (Nat.lt_succ_self _)) hitems hz items.size 0 _ a0 n0 0 rfl (Nat.zero_le _) ?_ ?_ ?_ ?_ (Nat.ne_of_lt (Heap.lt_size h0)) (by rw [sz1]; exact Nat.ne_of_lt (Nat.lt_succ_of_lt (Heap.lt_size h0))) ⟨fun _ => rfl, fun z => absurd rfl z⟩ fun h' tk a n q1 q2 q3 => ?_
  · exact keep
  · exact ⟨_, Heap.get?_push_of_some _ (Heap.get?_push_size _ rfl), rfl, rfl⟩
  · exact Heap.get?_push_size _ rfl
  · simpa [catF] using keep _ _ h0
  · exact hQ h' tk a n q1 q2 q3
end

/-- sum(xs, ys), ys and the items of xs lists -/
def rSum2 (K : PySem.W.Frag) : List V → Hp → VK → Prop := fun us H Q => ∃ (l a0 : Addr) (as : List Addr) (xss : List (List V)) (xs : List V), us = [.ref l, .ref a0] ∧ SqL K H l (as.map V.ref) ∧ H a0 = some (.lst xs) ∧ as.length = xss.length ∧
  (∀ (i : Nat) (a : Addr) (ys : List V), as[i]? = some a → xss[i]? = some ys → H a = some (.lst ys)) ∧ xs.length + (xss.map List.length).sum ≤ sizeLine ∧ (as = [] → Q (.ref a0) H) ∧ (as ≠ [] → ∀ p, H p = none → Q (.ref p) (upd H p (.lst (xs ++ xss.flatten))))
theorem call_sumL {X : Cx} (hc : X.calm = true) : CallR X (.builtin "sum") (rSum2 X.K) := by
  intro pins s σ H vs us Q I r h
  obtain ⟨l, a0, as, xss, xs, rfl, hl, ha0, hlen, hat, hz, q1, q2⟩ := h
  obtain ⟨u1, us1, rfl, r1, r2⟩ : ∃ u us1, us = u :: us1 ∧ RelV (.ref l) u ∧ Vals [.ref a0] us1 := by
    cases r with | cons a b => exact ⟨_, _, rfl, a, b⟩
  obtain ⟨u2, rfl, r3⟩ := vals1 r2
  cases r1; cases r3
  obtain ⟨its, rv, pl, _⟩ := I.list hl
  obtain ⟨z0, st, n0, rst, hst0, est⟩ := I.lstM ha0
  have lenI : its.length = as.length := by rw [← rv.length, List.length_map]
  -- the items' items
  have hex : ∀ (as : List Addr) (xss : List (List V)), as.length = xss.length → (∀ (i : Nat) (a : Addr) (ys : List V), as[i]? = some a → xss[i]? = some ys → H a = some (.lst ys)) → ∃ lss : List (List Value), lss.length = as.length ∧
      ∀ (i : Nat) (a : Addr) (ys : List V), as[i]? = some a → xss[i]? = some ys → ∃ ls, lss[i]? = some ls ∧ Vals ys ls ∧ LL s.heap (.ref a) ls := by
    intro as
    induction as with
    | nil => intro xss _ _; exact ⟨[], rfl, fun i a ys e => by simp at e⟩
    | cons a as ih =>
      intro xss hl hat
      cases xss with
      | nil => simp at hl
      | cons ys xss =>
        obtain ⟨lss, h1, h2⟩ := ih xss (by simpa using hl) fun i a ys e1 e2 => hat (i + 1) a ys (by simpa using e1) (by simpa using e2)
        obtain ⟨_, ls, n, rl, _, e⟩ := I.lstM (hat 0 a ys rfl rfl)
        refine ⟨ls :: lss, by simp [h1], fun i a' ys' e1 e2 => ?_⟩
        cases i with
        | zero =>
          simp at e1 e2
          subst e1; subst e2
          exact ⟨ls, rfl, rl, _, n, rfl, e⟩
        | succ i => simpa using h2 i a' ys' (by simpa using e1) (by simpa using e2)
  obtain ⟨lss, hl1, hl2⟩ := hex as xss hlen hat
  have sums : ∀ (as : List Addr) (xss : List (List V)) (lss : List (List Value)), as.length = xss.length → lss.length = as.length → (∀ (i : Nat) (a : Addr) (ys : List V), as[i]? = some a → xss[i]? = some ys → ∃ ls, lss[i]? = some ls ∧ Vals ys ls ∧ LL s.heap (.ref a) ls) →
      Vals xss.flatten lss.flatten ∧ (lss.map List.length).sum = (xss.map List.length).sum := by
    intro as
    induction as with
    | nil =>
      intro xss lss h1 h2 _
      cases xss with
      | nil => cases lss with
        | nil => exact ⟨.nil, rfl⟩
        | cons _ _ => simp at h2
      | cons _ _ => simp at h1
    | cons a as ih =>
      intro xss lss h1 h2 h3
      cases xss with
      | nil => simp at h1
      | cons ys xss =>
        cases lss with
        | nil => simp at h2
        | cons ls lss =>
          obtain ⟨i1, i2⟩ := ih xss lss (by simpa using h1) (by simpa using h2) fun i a ys e1 e2 => by simpa using h3 (i + 1) a ys (by simpa using e1) (by simpa using e2)
          obtain ⟨ls', e, rl, _⟩ := h3 0 a ys rfl rfl
          simp at e
          subst e
          refine ⟨?_, ?_⟩
          · rw [List.flatten_cons, List.flatten_cons]
            exact rl.append i1
          · rw [List.map_cons, List.map_cons, List.sum_cons, List.sum_cons, i2, rl.length]
  obtain ⟨vflat, vsum⟩ := sums as xss lss hlen hl1 hl2
  have szI : its.toArray.size = as.length := by rw [List.size_toArray, lenI]
  refine call_sum2 (lss := lss) (st := st) (I.ok.hd hc) pl.isList est (fun i v hv => ?_) (by rw [vsum, ← hst0]; exact hz) fun h' tk a n k1 k2 k3 => ?_
  · have hi : i < its.length := by
      have := (Array.getElem?_eq_some_iff.mp hv).1
      simpa using this
    have ha : as[i]? = some as[i] := List.getElem?_eq_getElem (by omega)
    have hx : xss[i]? = some xss[i] := List.getElem?_eq_getElem (by omega)
    obtain ⟨ls, e, _, L⟩ := hl2 i _ _ ha hx
    obtain ⟨u, hu, ru⟩ := rv.get (i := i) (x := V.ref as[i]) (by rw [List.getElem?_map, ha]; rfl)
    have eu : u = v := by
      have hv' : its[i]? = some v := by simpa using hv
      exact Option.some.inj (hu.symm.trans hv')
    cases ru
    subst eu
    exact ⟨ls, e, L⟩
  · have ecat : catF lss its.toArray.size = lss.flatten := by
      unfold catF
      rw [szI, ← hl1, List.take_length]
    rw [ecat] at k2
    by_cases hn : as = []
    · have e0 : its.toArray.size = 0 := by rw [szI, hn]; rfl
      have e := k3.1 e0
      subst e
      exact ⟨.ref a, H, I.kept (t' := tk) k1, rfl, q1 hn⟩
    · have ge := k3.2 fun z => hn (List.eq_nil_of_length_eq_zero (szI ▸ z))
      refine ⟨.ref a, upd H a (.lst (xs ++ xss.flatten)), I.laid (t' := tk) k1 ge ⟨?_, st ++ lss.flatten, n, rst.append vflat, k2⟩, rfl, q2 hn a (I.hok.fresh ge)⟩
      rw [List.length_append, List.length_flatten]
      exact hz
def lsts : List T → Option (List (List T))
  | [] => some []
  | .lst xs :: ts => (match lsts ts with
    | some xss => some (xs :: xss)
    | none => none)
  | _ :: _ => none
def sumO : List T → Option T
  | [.lst ts, .lst xs] => (match lsts ts with
    | some xss => if xs.length + (xss.map List.length).sum ≤ sizeLine then some (.lst (xs ++ xss.flatten)) else none
    | none => none)
  | _ => none
theorem lsts_tr {K : PySem.W.Frag} {G : Hp} : ∀ {ts : List T} {vs : List V} {xss : List (List T)}, TrL K G ts vs → lsts ts = some xss → ∃ (as : List Addr) (yss : List (List V)), vs = as.map V.ref ∧ as.length = yss.length ∧ ts.length = as.length ∧
    (∀ (i : Nat) (a : Addr) (ys : List V), as[i]? = some a → yss[i]? = some ys → G a = some (.lst ys)) ∧ TrL K G xss.flatten yss.flatten ∧ xss.map List.length = yss.map List.length
  | _, _, _, .nil, e => by
    simp only [lsts] at e
    cases e
    exact ⟨[], [], rfl, rfl, rfl, fun i a ys e => by simp at e, .nil, rfl⟩
  | .lst xs :: ts, _, _, .cons h r, e => by
    simp only [lsts] at e
    cases el : lsts ts with
    | none => rw [el] at e; cases e
    | some xss =>
      rw [el] at e
      cases e
      obtain ⟨as, yss, rfl, h1, h2, h3, h4, h5⟩ := lsts_tr r el
      cases h with | @lst a _ ys ha rr =>
      refine ⟨a :: as, ys :: yss, rfl, by simp [h1], by simp [h2], fun i a' ys' e1 e2 => ?_, ?_, ?_⟩
      · cases i with
        | zero =>
          simp at e1 e2
          subst e1; subst e2
          exact ha
        | succ i => exact h3 i a' ys' (by simpa using e1) (by simpa using e2)
      · rw [List.flatten_cons, List.flatten_cons]
        exact rr.append h4
      · rw [List.map_cons, List.map_cons, h5, rr.length]
  | .non :: _, _, _, .cons _ _, e => by simp [lsts] at e
  | .bl _ :: _, _, _, .cons _ _, e => by simp [lsts] at e
  | .int _ :: _, _, _, .cons _ _, e => by simp [lsts] at e
  | .str _ :: _, _, _, .cons _ _, e => by simp [lsts] at e
  | .tup _ :: _, _, _, .cons _ _, e => by simp [lsts] at e
  | .ref _ :: _, _, _, .cons _ _, e => by simp [lsts] at e
  | .ty _ :: _, _, _, .cons _ _, e => by simp [lsts] at e
  | .scr _ :: _, _, _, .cons _ _, e => by simp [lsts] at e
theorem cal_sumL {K : PySem.W.Frag} : Cal K .frz (rSum2 K) sumO := .mk fun G H xs us c sub h e Q q => by
  match xs, h, e with
  | [.lst ts, .lst xs], h, e =>
    simp only [sumO] at e
    cases el : lsts ts with
    | none => rw [el] at e; cases e
    | some xss =>
      rw [el] at e
      simp only at e
      split at e <;> cases e
      rename_i hz
      obtain ⟨u, v, rfl, h1, h2⟩ := h.two
      cases h1 with | @lst l _ vs hl r1 =>
      cases h2 with | @lst a0 _ ws h0 r2 =>
      obtain ⟨as, yss, rfl, k1, k2, k3, k4, k5⟩ := lsts_tr r1 el
      refine ⟨l, a0, as, yss, ws, rfl, .of (sub _ _ hl), sub _ _ h0, k1, fun i a ys e1 e2 => sub _ _ (k3 i a ys e1 e2), by rw [← r2.length, ← k5]; exact hz, fun hn => ?_, fun _ => q.lst sub (r2.append k4)⟩
      subst hn
      have y0 : yss = [] := List.eq_nil_of_length_eq_zero k1.symm
      subst y0
      have x0 : xss = [] := by
        have := congrArg List.length k5
        simpa using this
      subst x0
      simp only [List.flatten_nil, List.append_nil] at q ⊢
      exact q.val sub (.lst h0 r2)
end VS
-- VSup
set_option Elab.async false
set_option linter.all false
set_option maxRecDepth 100000
set_option maxHeartbeats 1000000
/-! VSup: an own error class over ValueError whose __init__ says super().__init__(a, ..) and stores its parameters: its run, told by the heap. -/
namespace VS
open PySem L2 PySem.Spec PyProof.Rows PySem.W

/-- what the written part says of a class's __init__ that says super().__init__(..) -/
structure SupC (P : Program) (K : PySem.W.Frag) (C fI : Addr) (ps : List Str) (st : Stmt) : Prop where
  ox : OexC K C
  fn : ∃ (oc : Value) (od : Option Addr) (kV doc pm : Value) (an : Option Addr) (cda cc : Addr) (ct : Value) (osl : Array (Option Value)) (qual : Str) (ccl : Value) (cdd : Option Addr) (vs : Array Value) (ccs : Array (Option Value)) (file : Str) (tf : Tok) (cl : Value) (cld : Option Addr) (csl : Array (Option Value)),
    K.lookup fI = some ⟨oc, od, .func (fnX "__init__" qual (defArgs st) (defBody st) (defScope st) [("__class__", cc)] .none kV doc pm an (.ref cda) ct), osl⟩ ∧ codeIn K (.ref cda) qual = true ∧
    K.lookup cda = some ⟨ccl, cdd, .fields vs, ccs⟩ ∧ vs[2]? = some (.str file tf) ∧ ((P.main.file : Str) == file) = true ∧ K.lookup cc = some ⟨cl, cld, .cell (some (.ref C)), csl⟩
  su : nsIn K mainGlobals "super" = some none
  top : (P.main.scope.names.lookup ("super" : Str)).isSome = false
  sm : mroIn K C (.ref C) = some true
  op : nsIn K cStatics "thirdparty.any" = some none
  si : ks_superIn K C C "__init__" = some (some (.builtin "ValueError.__init__"))
  ve : subIn K (.ref C) (.type "ValueError") = some true
  iC : findIn K (.ref C) "__init__" = some (some (.ref fI))
  tI : typeIn K (.ref fI) = some (.type "function")
  hd : (((defArgs st).posonlyargs ++ (defArgs st).args).head?.map (·.arg)) = some "self"
  ks : (defScope st).names.lookup ("super" : Str) = some .globalImplicit
  kc : (defScope st).names.lookup ("__class__" : Str) = some .free
  kp : ∀ x ∈ ("self" : Str) :: ps, (defScope st).names.lookup x = some .local
  ncell : ∀ x ∈ (defScope st).names, x.2 ≠ .cell
  kind : (defScope st).kind = .function
  co : (defScope st).isCoroutine = false
  gen : (defScope st).isGenerator = false
  fld : ∀ x ∈ ps, findIn K (.ref C) x = some none

section
variable {prog : Program} {w : World} {M : Model} {A : Around} {E : Value → Shared → Prop} {h : Heap} {g : Array GenState} {d : Drawn} {t : Nat} {os : OsState}
variable {nm q : Str} {C N : Addr} {bs bm : List Value} {hdct : Bool} {sn : List Str} {sub : List Value} {ab : Bool} {col : Option Bool} {dd : Option Addr} {k0 k1 k2 k3 k5 : Option Value}
/-- the bound ValueError.__init__ called -/
theorem call_mw {u e t0 : Addr} {rest : List Value} {Q : Value → Shared → Prop} (hC : h.get? C = some (excClassObj nm q C N bs bm hdct sn sub ab col dd k0 k1 k2 k3 k5 "ValueError.__new__")) (he : h.get? e = some (HandSPX.excO C t0))
    (hu : h.get? u = some (kxs_mw "ValueError.__init__" e)) (hz : rest.length ≤ sizeLine) (hq : ∀ h' t1, (∀ b o, b ≠ e → h.get? b = some o → h'.get? b = some o) → h'.get? e = some (HandSPX.excO C t1) → Q .none ⟨h', g, d, t, os⟩) :
    wpAny (model prog w) A (call (.ref u) rest) Q E ⟨h, g, d, t, os⟩ := by
  refine wpAny_call (codeAny_of_tree ?_)
  show wpAny _ A.in1 (callAny (.ref u) ⟨rest, []⟩) _ _ _
  unfold callAny
  refine wpAny_bind (wpAny_load hu ?_)
  refine KFB.if_so rfl ?_
  refine wpAny_bind (check_bound_init F.excBase_ValueError.toExcCallFacts hC he rfl ?_)
  refine wpAny_bind (wpAny_pure (wpAny_pure ?_))
  refine ⟨plainId_quiet F.excBase_ValueError.init.plain _, codeAny_builtin F.excBase_ValueError.initEntry ?_⟩
  exact exc_init_tree (cls := .ref C) (t0 := t0) (dv := none) (c2 := .none) (c3 := .none) (b4 := .bool false) he hz fun h' k e' _ => hq h' _ k e'
end
section
variable {P : Program} {w : World} {A : Around} {E : Value → Shared → Prop} {K : PySem.W.Frag} {mg : Str → Option Value} {base : Heap}
/-- super().__init__(a, ..): the error is laid anew, nothing else -/
theorem sup_stmt {C fI e cc cda L t0 : Addr} {ps : List Str} {st : Stmt} {body : List Stmt} {p0 p1 p2 p3 p4 : Pos} {a : Expr} {es : List Expr} {us : List Value} {s : Shared} {m : Str → Option Value} {Q : Flow → Shared → Prop}
    {oc : Value} {od : Option Addr} {kV doc pm : Value} {an : Option Addr} {ct : Value} {osl : Array (Option Value)} {qual : Str} {ccl : Value} {cdd : Option Addr} {vs : Array Value} {ccs : Array (Option Value)} {file : Str} {tf : Tok} {cl : Value} {cld : Option Addr} {csl : Array (Option Value)}
    (T : SupC P K C fI ps st) (hM : Mod K mg base) (kb : ∀ b o, base.get? b = some o → s.heap.get? b = some o)
    (lf : K.lookup fI = some ⟨oc, od, .func (fnX "__init__" qual (defArgs st) (defBody st) (defScope st) [("__class__", cc)] .none kV doc pm an (.ref cda) ct), osl⟩)
    (lc : K.lookup cda = some ⟨ccl, cdd, .fields vs, ccs⟩) (hvs : vs[2]? = some (.str file tf)) (hfile : ((P.main.file : Str) == file) = true) (lcc : K.lookup cc = some ⟨cl, cld, .cell (some (.ref C)), csl⟩)
    (hn : s.heap.Ns L m) (hself : m "self" = some (.ref e)) (he : s.heap.get? e = some (HandSPX.excO C t0)) (hz : us.length ≤ sizeLine)
    (hargs : ∀ (h' : Heap) (tk : Nat) (R : List Value → Shared → Prop), h'.Ns L m → R us { s with heap := h', toks := tk } → wpAny (model P w) A (spliced (backTo p3 (starEach (a :: es) (ksEnv qual (defScope st) L fI (.ref cda) cc)))) R E { s with heap := h', toks := tk })
    (hst : starEach (a :: es) (ksEnv qual (defScope st) L fI (.ref cda) cc) = (false, eval a (ksEnv qual (defScope st) L fI (.ref cda) cc)) :: starEach es (ksEnv qual (defScope st) L fI (.ref cda) cc)) (hpl : (backTo p3 (starEach es (ksEnv qual (defScope st) L fI (.ref cda) cc))).any (·.1) = false)
    (hQ : ∀ h' tk t1, (∀ b o, b ≠ e → s.heap.get? b = some o → h'.get? b = some o) → h'.get? e = some (HandSPX.excO C t1) → Q .next { s with heap := h', toks := tk })
    (pl : Sem Bool) (hc : eval (.Call (.Attribute (.Call (.Name "super" p0) [] [] p1) "__init__" p2) (a :: es) [] p3) (ksEnv qual (defScope st) L fI (.ref cda) cc) = (do
      let ov ← attributeBase (.Call (.Name "super" p0) [] [] p1) "__init__" (ksEnv qual (defScope st) L fI (.ref cda) cc) (eval (.Call (.Name "super" p0) [] [] p1) (ksEnv qual (defScope st) L fI (.ref cda) cc))
      standAt p2.atName
      let (f, first) ← holding [ov] (getMethod ov "__init__" pl)
      callWith p3 f first (backTo p3 (starEach (a :: es) (ksEnv qual (defScope st) L fI (.ref cda) cc))) []))
    (hsw : swapsWith (.Call (.Attribute (.Call (.Name "super" p0) [] [] p1) "__init__" p2) (a :: es) [] p3) none p4.line (ksEnv qual (defScope st) L fI (.ref cda) cc) = pure false) (hin : interactive (ksEnv qual (defScope st) L fI (.ref cda) cc) = false) :
    _root_.PySem.wpAt (model P w) A (.func body (ksEnv qual (defScope st) L fI (.ref cda) cc)) (exec (.Expr (.Call (.Attribute (.Call (.Name "super" p0) [] [] p1) "__init__" p2) (a :: es) [] p3) p4) (ksEnv qual (defScope st) L fI (.ref cda) cc)) Q E s := by
  have KX : K.In s.heap := hM.kin.keeps kb
  obtain ⟨nm, q, N, bs, bm, sn, sub, ab, col, dd, k0, k1, k2, k3, k5, hC, hbm⟩ := T.ox.cls
  obtain ⟨mb, nb, hmb⟩ := hM.blt
  obtain ⟨hp, g, d, t, os⟩ := s
  have hcl : clsIn K C = some { name := nm, bases := bs, mro := .ref C :: bm, ns := N, qualname := q, hasDict := true, slotNames := sn, subclasses := sub, abstract := ab, collection := col, hasDel := false } := by unfold clsIn; rw [hC] <;> rfl
  obtain ⟨ar, har, hself0⟩ : ∃ ar, ((defArgs st).posonlyargs ++ (defArgs st).args).head? = some ar ∧ ar.arg = "self" := by
    have h1 := T.hd
    cases q : ((defArgs st).posonlyargs ++ (defArgs st).args).head? with
    | none => rw [q] at h1; cases h1
    | some ar => rw [q] at h1; exact ⟨ar, rfl, Option.some.inj h1⟩
  have I0 : InstAt hp e (HandSPX.excO C t0) C none := ⟨he, rfl, rfl, trivial⟩
  refine ks_wpAt_Expr_any (ks_wpAt_MethodCall (pl := pl) ?_ hc) hin hsw
  refine ks_wpAt_super_base (env := ksEnv qual (defScope st) L fI (.ref cda) cc) T.ks T.kc (by decide) rfl (KX _ _ lf) rfl har rfl (KX _ _ lc) rfl hvs hfile T.top ?_
  refine ks_loadName_global T.kind T.ks (PySem.Calls.loadGlobal_builtin (env := ksEnv qual (defScope st) L fI (.ref cda) cc) (hM.glob.keeps kb) (mg_none_of hM.kin hM.glob T.su) (nb.keeps kb) ((hmb _ (by decide)).trans (show bootBuiltins "super" = some (.type "super") by kernel_rfl)) ⟨rfl, ?_⟩)
  refine wpAny_loadName_free T.kind T.kc rfl ⟨_, KX _ _ lcc, rfl⟩ ?_
  rw [hself0]
  refine wpAny_loadName_local T.kind (T.kp _ List.mem_cons_self) hn hself ?_
  refine ks_wpAny_isType_cls (KX _ _ hC) rfl ⟨rfl, ?_⟩
  refine ks_wpAny_call_super (KX _ _ hC) rfl he rfl (fun c z => by cases z) (looks_mroIn KX T.sm) (fun h1 e1 kk1 => ?_)
  have KX1 : K.In h1 := KX.keeps kk1
  have he1 := kk1 _ _ he
  have I1 : InstAt h1 e (HandSPX.excO C t0) C none := ⟨he1, rfl, rfl, trivial⟩
  have si := T.si
  unfold ks_superIn at si
  rw [hcl] at si
  refine kxs_getMethod kxs_ValueError e1 (looks_opaque KX1 T.op) (l₀ := .ref C :: bm) (fun A Q E s k q => wpAny_bind ((looks_clsIn KX1 hcl) A _ E s k (wpAny_pure q))) rfl KX1 si (I1.type.andThen (looks_subIn KX1 T.ve)) (ks_ne KX1 I1 hcl) (by decide) ?_
  have kk2 : ∀ b o, h1.get? b = some o → (h1.push (kxs_mw "ValueError.__init__" e)).get? b = some o := fun b o z => Heap.get?_push_of_some _ z
  have hu : (h1.push (kxs_mw "ValueError.__init__" e)).get? h1.objs.size = some (kxs_mw "ValueError.__init__" e) := Heap.get?_push_at rfl rfl
  refine kxs_callWith (i := "ValueError.__init__") (x := e) (by rw [hst]; show (false || (backTo p3 (starEach es (ksEnv qual (defScope st) L fI (.ref cda) cc))).any (·.1)) = false; rw [hpl]; rfl) ?_
  rw [hst]
  refine PySem.Calls.evalArgs_plain ?_
  have go := hargs (h1.push (kxs_mw "ValueError.__init__" e)) (t + 1) (fun vs s₁ => KxsAt "ValueError.__init__" h1.objs.size e s₁.heap ∧ wpAny (model P w) A (call (.ref h1.objs.size) ([] ++ vs) []) (fun _ => Q .next) E s₁) (hn.keeps fun b o z => kk2 _ _ (kk1 _ _ z)) ⟨hu, ?_⟩
  · rw [hst] at go
    exact go
  · rw [List.nil_append]
    exact call_mw (kk2 _ _ (KX1 _ _ hC)) (kk2 _ _ he1) hu hz fun h' t1 k e' => hQ h' _ t1 (fun b o hb z => k b o hb (kk2 _ _ (kk1 _ _ z))) e'

/-! ### the stores -/
/-- self.f = f -/
def stoS (p : Str × Pos × Pos × Pos × Pos) : Stmt := .Assign [.Attribute (.Name "self" p.2.1) p.1 p.2.2.1] (.Name p.1 p.2.2.2.1) p.2.2.2.2
abbrev excD (C t dx : Addr) : Obj := { cls := .ref C, dict := some dx, data := .fields #[.ref t, .none, .none, .none, .bool false, .none] }
theorem lookup_cons_ite {α : Type} (f : Str) (v : α) (l : List (Str × α)) : (fun y => ((f, v) :: l).lookup y) = fun y => if y = f then some v else l.lookup y := by
  funext y
  by_cases h : y = f
  · subst h; simp [List.lookup]
  · have e : (y == f) = false := by simpa using h
    rw [if_neg h]
    simp [List.lookup, e]
theorem Ns_of_ne {h h' : Heap} {L dx : Addr} {m : Str → Option Value} (hn : h.Ns L m) (ne : L ≠ dx) (k : ∀ b o, b ≠ dx → h.get? b = some o → h'.get? b = some o) : h'.Ns L m := by
  obtain ⟨o, es, ep, ho, r⟩ := hn
  exact ⟨o, es, ep, k _ _ ne ho, r⟩
theorem within_lookup (l : List (Str × Value)) : Within (fun y => l.lookup y) (l.map (·.1)) := fun y hy => by
  induction l with
  | nil => exact absurd rfl hy
  | cons p l ih =>
    have e := congrFun (lookup_cons_ite p.1 p.2 l) y
    by_cases h : y = p.1
    · rw [h]; exact List.mem_cons_self
    · refine List.mem_cons_of_mem _ (ih fun z => hy ?_)
      show ((p.1, p.2) :: l).lookup y = none
      rw [e, if_neg h]
      exact z
section
variable {env : PySem.Env} {C e L t1 : Addr} {m : Str → Option Value} {ps : List Str}
theorem sto_one {f : Str} {q0 q1 q2 q3 : Pos} {v : Value} {s : Shared} {Q : Flow → Shared → Prop} (hk : env.scope.kind = .function) (hl : env.locals = L) (hks : env.kindOf "self" = some .local) (hkf : env.kindOf f = some .local) (hn : s.heap.Ns L m) (hs : m "self" = some (.ref e)) (hv : m f = some v)
    (hd : (f == ("__debug__" : Str)) = false) (hsw : swapsWith (.Name f q2) (some (.Attribute (.Name "self" q0) f q1)) q3.line env = pure false) (h : wpAny (model P w) A (setAttr (.ref e) f v) (fun _ => Q .next) E s) : wpAny (model P w) A (exec (stoS (f, q0, q1, q2, q3)) env) Q E s := by
  subst hl
  refine plainObj_wpAny_Assign_Attribute ?_ hsw
  exact wpAny_Name (wpAny_loadName_local hk hkf hn hv (wpAny_Name (wpAny_loadName_local hk hks hn hs h) (by decide))) hd
theorem sto_rest (KC : OexC K C) (hM : Mod K mg base) (hk : env.scope.kind = .function) (hl : env.locals = L) (hks : env.kindOf "self" = some .local) (hs : m "self" = some (.ref e)) {dx : Addr} (neL : L ≠ dx) (ned : e ≠ dx) (nb : base.get? dx = none) :
    ∀ (fs : List (Str × Pos × Pos × Pos × Pos)) (vs : List Value) (done : List (Str × Value)) (s : Shared) (Q : Flow → Shared → Prop), vs.length = fs.length → done.length + fs.length ≤ 900 →
      (∀ (i : Nat) p v, fs[i]? = some p → vs[i]? = some v → m p.1 = some v ∧ env.kindOf p.1 = some .local ∧ (p.1 == ("__debug__" : Str)) = false ∧ findIn K (.ref C) p.1 = some none ∧ swapsWith (.Name p.1 p.2.2.2.1) (some (.Attribute (.Name "self" p.2.1) p.1 p.2.2.1)) p.2.2.2.2.line env = pure false) →
      (∀ b o, base.get? b = some o → s.heap.get? b = some o) → s.heap.Ns L m → s.heap.get? e = some (excD C t1 dx) → s.heap.Ns1 dx (fun y => done.lookup y) →
      (∀ h' tk, (∀ b o, b ≠ dx → s.heap.get? b = some o → h'.get? b = some o) → h'.Ns1 dx (fun y => (((fs.map (·.1)).zip vs).reverse ++ done).lookup y) → Q .next { s with heap := h', toks := tk }) →
      wpAny (model P w) A (execs (fs.map stoS) env) Q E s := by
  obtain ⟨nm, q, N, bs, bm, sn, sub, ab, col, dd, k0, k1, k2, k3, k5, hC, hbm⟩ := KC.cls
  have hcl : clsIn K C = some { name := nm, bases := bs, mro := .ref C :: bm, ns := N, qualname := q, hasDict := true, slotNames := sn, subclasses := sub, abstract := ab, collection := col, hasDel := false } := by unfold clsIn; rw [hC] <;> rfl
  intro fs
  induction fs with
  | nil =>
    intro vs done s Q h1 _ _ _ _ _ hD hQ
    cases vs with
    | nil => exact wpAny_execs_nil (hQ s.heap s.toks (fun _ _ _ z => z) hD)
    | cons _ _ => simp at h1
  | cons f fs ih =>
    intro vs done s Q h1 hlen hall kb hn he hD hQ
    cases vs with
    | nil => simp at h1
    | cons v vs =>
      obtain ⟨f, q0, q1, q2, q3⟩ := f
      obtain ⟨a1, a2, a3, a4, a5⟩ := hall 0 _ v rfl rfl
      refine wpAny_execs_cons (sto_one hk hl hks a2 hn hs a1 a3 a5 ?_)
      have KX : K.In s.heap := hM.kin.keeps kb
      obtain ⟨hp, g, d, t, os⟩ := s
      have hw := within_lookup done
      obtain ⟨oD, _, _, hoD, _, _⟩ := hD.count hw
      refine set_plain KX (ox := excD C t1 dx) (od := some oD) ⟨he, rfl, rfl, hoD⟩ KC.sa ?_
      refine PySem.OEX.osa_old KX he hD hw (by rw [List.length_map]; omega) hcl (show HandSPX.refsVE (.ref C :: bm) = true from hbm) rfl a4 (fun h' tk' k hn' => ?_)
      rw [← lookup_cons_ite] at hn'
      refine ih vs ((f, v) :: done) ⟨h', g, d, tk', os⟩ Q (by simpa using h1) (by simp only [List.length_cons] at hlen ⊢; omega) (fun i p v hp hv => hall (i + 1) p v (by simpa using hp) (by simpa using hv)) (fun b o z => k b o (fun y => by rw [y, nb] at z; cases z) (kb b o z)) (Ns_of_ne hn neL k) (k _ _ ned he) hn' fun h'' tk'' kk hh => ?_
      refine hQ h'' tk'' (fun b o hb z => kk b o hb (k b o hb z)) ?_
      have e1 : ((((f, q0, q1, q2, q3) :: fs).map (·.1)).zip (v :: vs)).reverse ++ done = ((fs.map (·.1)).zip vs).reverse ++ (f, v) :: done := by
        simp only [List.map_cons, List.zip_cons_cons, List.reverse_cons, List.append_assoc, List.singleton_append]
      rw [e1]
      exact hh
/-- all of them, the first one making the dict -/
theorem sto_all (KC : OexC K C) (hM : Mod K mg base) (hk : env.scope.kind = .function) (hl : env.locals = L) (hks : env.kindOf "self" = some .local) (hs : m "self" = some (.ref e)) {f : Str × Pos × Pos × Pos × Pos} {fs : List (Str × Pos × Pos × Pos × Pos)} {v : Value} {vs : List Value} {s : Shared} {Q : Flow → Shared → Prop} (h1 : vs.length = fs.length) (hlen : fs.length ≤ 800)
    (hall : ∀ (i : Nat) p u, (f :: fs)[i]? = some p → (v :: vs)[i]? = some u → m p.1 = some u ∧ env.kindOf p.1 = some .local ∧ (p.1 == ("__debug__" : Str)) = false ∧ findIn K (.ref C) p.1 = some none ∧ swapsWith (.Name p.1 p.2.2.2.1) (some (.Attribute (.Name "self" p.2.1) p.1 p.2.2.1)) p.2.2.2.2.line env = pure false)
    (kb : ∀ b o, base.get? b = some o → s.heap.get? b = some o) (eb : base.get? e = none) (hn : s.heap.Ns L m) (neE : L ≠ e) (he : s.heap.get? e = some (HandSPX.excO C t1))
    (hQ : ∀ h' tk dx, s.heap.objs.size ≤ dx → (∀ b o, b ≠ e → s.heap.get? b = some o → h'.get? b = some o) → h'.get? e = some (excD C t1 dx) → h'.Ns1 dx (fun y => (((f :: fs).map (·.1)).zip (v :: vs)).reverse.lookup y) → Q .next { s with heap := h', toks := tk }) :
    wpAny (model P w) A (execs ((f :: fs).map stoS) env) Q E s := by
  obtain ⟨nm, q, N, bs, bm, sn, sub, ab, col, dd, k0, k1, k2, k3, k5, hC, hbm⟩ := KC.cls
  have hcl : clsIn K C = some { name := nm, bases := bs, mro := .ref C :: bm, ns := N, qualname := q, hasDict := true, slotNames := sn, subclasses := sub, abstract := ab, collection := col, hasDel := false } := by unfold clsIn; rw [hC] <;> rfl
  obtain ⟨f, q0, q1, q2, q3⟩ := f
  obtain ⟨a1, a2, a3, a4, a5⟩ := hall 0 _ v rfl rfl
  refine wpAny_execs_cons (sto_one hk hl hks a2 hn hs a1 a3 a5 ?_)
  have KX : K.In s.heap := hM.kin.keeps kb
  obtain ⟨hp, g, d, t, os⟩ := s
  refine set_plain KX (ox := HandSPX.excO C t1) (od := none) ⟨he, rfl, rfl, trivial⟩ KC.sa ?_
  refine HandSPX.exc_osa KX he hcl (show HandSPX.refsVE (.ref C :: bm) = true from hbm) rfl a4 (fun h' tk' dx k dn dne hx hn' => ?_)
  have e0 : (fun y => if y = f then some v else none) = fun y => [(f, v)].lookup y := (lookup_cons_ite f v []).symm
  rw [e0] at hn'
  have hold : ∀ {b : Addr} {o : Obj}, hp.get? b = some o → b ≠ dx := fun {b o} z => Nat.ne_of_lt (Nat.lt_of_lt_of_le (Heap.lt_size z) dn)
  have nb : base.get? dx = none := by
    cases z : base.get? dx with
    | none => rfl
    | some o => exact absurd rfl (hold (kb _ _ z))
  have kbase : ∀ b o, base.get? b = some o → h'.get? b = some o := fun b o z => k b o (fun y => by rw [y, eb] at z; cases z) (kb b o z)
  have hnL : h'.Ns L m := Ns_of_ne hn neE k
  refine sto_rest (s := ⟨h', g, d, tk', os⟩) KC hM hk hl hks hs (by obtain ⟨o, _, _, ho, _⟩ := hn; exact hold ho) (Ne.symm dne) nb fs vs [(f, v)] _ h1 (by simp only [List.length_cons, List.length_nil]; omega) (fun i p v hp hv => hall (i + 1) p v (by simpa using hp) (by simpa using hv)) kbase hnL hx hn' fun h'' tk'' kk hh => ?_
  refine hQ h'' tk'' dx dn (fun b o hb z => kk b o (hold z) (k b o hb z)) (kk _ _ (Ne.symm dne) hx) ?_
  have e1 : ((((f, q0, q1, q2, q3) :: fs).map (·.1)).zip (v :: vs)).reverse = ((fs.map (·.1)).zip vs).reverse ++ [(f, v)] := by simp
  rw [e1]
  exact hh
end
end
end VS
-- VInit
set_option Elab.async false
set_option linter.all false
set_option maxRecDepth 100000
set_option maxHeartbeats 1000000
/-! VInit: the run of such an __init__; C(e, ..) as a value, raised. -/
namespace VS
open PySem L2 PySem.Spec PyProof.Rows PySem.W

theorem lookup_append_none {α : Type} {x : Str} : ∀ {l l' : List (Str × α)}, (∀ p ∈ l, p.1 ≠ x) → (l ++ l').lookup x = l'.lookup x
  | [], _, _ => rfl
  | (y, v) :: l, l', h => by
    have e : (x == y) = false := by
      have := h (y, v) List.mem_cons_self
      simpa using fun z => this z.symm
    rw [List.cons_append]
    simp only [List.lookup, e]
    exact lookup_append_none fun p hp => h p (List.mem_cons_of_mem _ hp)
theorem lookup_rev_zip {x : Str} {v : Value} : ∀ {names : List Str} {vs : List Value} {i : Nat}, names.Nodup → names[i]? = some x → vs[i]? = some v → ((names.zip vs).reverse).lookup x = some v
  | [], _, _, _, h, _ => by simp at h
  | _ :: _, [], _, _, _, h => by simp at h
  | n :: names, u :: vs, 0, nd, h1, h2 => by
    simp at h1 h2
    subst h1; subst h2
    rw [List.zip_cons_cons, List.reverse_cons, lookup_append_none]
    · simp [List.lookup]
    · intro p hp z
      have q := (List.of_mem_zip (List.mem_reverse.mp hp)).1
      rw [z] at q
      exact (List.nodup_cons.mp nd).1 q
  | n :: names, u :: vs, i + 1, nd, h1, h2 => by
    have ih := lookup_rev_zip (x := x) (v := v) (i := i) (List.nodup_cons.mp nd).2 (by simpa using h1) (by simpa using h2)
    rw [List.zip_cons_cons, List.reverse_cons]
    have : ∀ (l l' : List (Str × Value)), l.lookup x = some v → (l ++ l').lookup x = some v := by
      intro l
      induction l with
      | nil => intro l' h; cases h
      | cons p l ih2 =>
        intro l' h
        obtain ⟨y, w⟩ := p
        rw [List.cons_append]
        by_cases e : x = y
        · subst e
          simp [List.lookup] at h ⊢
          exact h
        · have e' : (x == y) = false := by simpa using e
          simp only [List.lookup, e'] at h ⊢
          exact ih2 l' h
    exact this _ _ ih
def nmE (p : Str × Pos) : Expr := .Name p.1 p.2
section
variable {M : Model} {A : Around} {E : Value → Shared → Prop} {env : PySem.Env} {L : Addr} {m : Str → Option Value} {pos : Pos}
theorem star_names : ∀ (as : List (Str × Pos)), (backTo pos (starEach (as.map nmE) env)).any (·.1) = false
  | [] => rfl
  | p :: as => by
    show (false || (backTo pos (starEach (as.map nmE) env)).any (·.1)) = false
    rw [star_names as]
    rfl
theorem spliced_names (hk : env.scope.kind = .function) : ∀ (as : List (Str × Pos)) (us : List Value) (s : Shared) (R : List Value → Shared → Prop), us.length = as.length →
    (∀ (i : Nat) p u, as[i]? = some p → us[i]? = some u → m p.1 = some u ∧ env.kindOf p.1 = some .local ∧ (p.1 == ("__debug__" : Str)) = false) → s.heap.Ns env.locals m → R us s → wpAny M A (spliced (backTo pos (starEach (as.map nmE) env))) R E s
  | [], us, s, R, h1, _, _, hR => by
    cases us with
    | nil => exact Calls.spliced_nil hR
    | cons _ _ => simp at h1
  | p :: as, us, s, R, h1, hall, hn, hR => by
    cases us with
    | nil => simp at h1
    | cons u us =>
      obtain ⟨a1, a2, a3⟩ := hall 0 p u rfl rfl
      show wpAny _ _ (spliced ((false, eval (nmE p) env) :: backTo pos (starEach (as.map nmE) env))) _ _ _
      refine Calls.spliced_cons (wpAny_Name (wpAny_loadName_local hk a2 hn a1 ?_) a3)
      exact spliced_names hk as us s (fun us' s' => R (u :: us') s') (by simpa using h1) (fun i p u hp hu => hall (i + 1) p u (by simpa using hp) (by simpa using hu)) hn hR
end

/-- the text of such an __init__: super().__init__(p, ..); self.f = f, .. -/
structure InitS (st : Stmt) (ps : List Str) : Prop where
  ex : ∃ (p0 p1 p2 p3 p4 : Pos) (a : Str × Pos) (as : List (Str × Pos)) (f : Str × Pos × Pos × Pos × Pos) (fs : List (Str × Pos × Pos × Pos × Pos)),
    defBody st = .Expr (.Call (.Attribute (.Call (.Name "super" p0) [] [] p1) "__init__" p2) ((a :: as).map nmE) [] p3) p4 :: (f :: fs).map stoS ∧ (a :: as).map (·.1) = ps ∧ (f :: fs).map (·.1) = ps ∧
    (∀ env : PySem.Env, env.scope.kind = .function → ∃ pl : Sem Bool, eval (.Call (.Attribute (.Call (.Name "super" p0) [] [] p1) "__init__" p2) ((a :: as).map nmE) [] p3) env = (do
      let ov ← attributeBase (.Call (.Name "super" p0) [] [] p1) "__init__" env (eval (.Call (.Name "super" p0) [] [] p1) env)
      standAt p2.atName
      let (f, first) ← holding [ov] (getMethod ov "__init__" pl)
      callWith p3 f first (backTo p3 (starEach ((a :: as).map nmE) env)) [])) ∧
    (∀ env : PySem.Env, env.scope.kind = .function → swapsWith (.Call (.Attribute (.Call (.Name "super" p0) [] [] p1) "__init__" p2) ((a :: as).map nmE) [] p3) none p4.line env = pure false ∧ interactive env = false) ∧
    (∀ env : PySem.Env, env.scope.kind = .function → ∀ q ∈ f :: fs, swapsWith (.Name q.1 q.2.2.2.1) (some (.Attribute (.Name "self" q.2.1) q.1 q.2.2.1)) q.2.2.2.2.line env = pure false)
  nd : (("self" : Str) :: ps).Nodup
  few : ps.length ≤ 100
  dbg : ∀ x ∈ ps, (x == ("__debug__" : Str)) = false
  bind : ∀ (qual : Str) (cl : List (Str × Addr)) (kV doc pm : Value) (an : Option Addr) (cdv ct : Value) (s : Shared) (us : List Value), us.length = ps.length + 1 →
    BindsTo s (fnX "__init__" qual (defArgs st) (defBody st) (defScope st) cl .none kV doc pm an cdv ct) ⟨us, []⟩ ((("self" : Str) :: ps).zip us)
section
variable {P : Program} {w : World} {A : Around} {K : PySem.W.Frag} {mg : Str → Option Value} {base : Heap} {C fI e t0 : Addr} {st : Stmt} {ps : List Str} {R : Result → Shared → Prop} {s : Shared} {us : List Value}
theorem init_run (T : SupC P K C fI ps st) (S : InitS st ps) (hM : Mod K mg base) (kb : ∀ b o, base.get? b = some o → s.heap.get? b = some o) (eb : base.get? e = none) (lim : s.heap.NoLimit) (hd : A.depth < recursionLimit) (hu : us.length = ps.length) (he : s.heap.get? e = some (HandSPX.excO C t0))
    (hR : ∀ h' tk dx t1, s.heap.objs.size ≤ dx → (∀ b o, b ≠ e → s.heap.get? b = some o → h'.get? b = some o) → h'.get? e = some (excD C t1 dx) → h'.Ns1 dx (fun y => ((ps.zip us).reverse).lookup y) → R (.ok (.ret .none)) { s with heap := h', toks := tk }) :
    codeAny (model P w) A (.call (.ref fI) ⟨.ref e :: us, []⟩) R s := by
  obtain ⟨oc, od, kV, doc, pm, an, cda, cc, ct, osl, qual, ccl, cdd, vs, ccs, file, tf, cl, cld, csl, lf, lcd, lc, hvs, hfile, lcc⟩ := T.fn
  obtain ⟨p0, p1, p2, p3, p4, a, as, f, fs, hb, ha1, hf1, hc, hsw, hst⟩ := S.ex
  have KX : K.In s.heap := hM.kin.keeps kb
  have hbind := S.bind qual [("__class__", cc)] kV doc pm an (.ref cda) ct s (.ref e :: us) (by simp [hu])
  have hloc : ∀ y ∈ (("self" : Str) :: ps).zip (Value.ref e :: us), (defScope st).names.lookup y.1 = some .local := fun ⟨n, v⟩ hy => T.kp n (List.of_mem_zip hy).1
  refine ks_codeAny_call_defAt (fd := fnX "__init__" qual (defArgs st) (defBody st) (defScope st) [("__class__", cc)] .none kV doc pm an (.ref cda) ct) (body := defBody st) hd (KX _ _ lf) rfl lim (codeRec_of KX lcd) rfl hbind T.ncell hloc (fun h0 hns k0 => ?_) T.co T.gen T.kind
  show _root_.PySem.wpAt _ (A.deeper (ksEnv qual (defScope st) s.heap.objs.size fI (.ref cda) cc)) (.func (defBody st) (ksEnv qual (defScope st) s.heap.objs.size fI (.ref cda) cc)) (execs (defBody st) (ksEnv qual (defScope st) s.heap.objs.size fI (.ref cda) cc)) _ _ _
  generalize hE : ksEnv qual (defScope st) s.heap.objs.size fI (.ref cda) cc = env
  have ek : env.scope.kind = .function := by rw [← hE]; exact T.kind
  have el : env.locals = s.heap.objs.size := by rw [← hE]
  have ekind : ∀ x, env.kindOf x = (defScope st).names.lookup x := fun x => by rw [← hE]; rfl
  have mAt : ∀ (i : Nat) (x : Str) (v : Value), (("self" : Str) :: ps)[i]? = some x → (Value.ref e :: us)[i]? = some v → (fun x => ((("self" : Str) :: ps).zip (Value.ref e :: us)).reverse.lookup x) x = some v := fun i x v h1 h2 => lookup_rev_zip S.nd h1 h2
  have mself := mAt 0 "self" (.ref e) rfl rfl
  obtain ⟨pl, hcE⟩ := hc env ek
  obtain ⟨hsw1, hin⟩ := hsw env ek
  have kb0 : ∀ b o, base.get? b = some o → h0.get? b = some o := fun b o z => k0 _ _ (kb _ _ z)
  have atN : ∀ {l : List (Str × Pos)} (hl : l.map (·.1) = ps) (i : Nat) (p : Str × Pos) (u : Value), l[i]? = some p → us[i]? = some u → (fun x => ((("self" : Str) :: ps).zip (Value.ref e :: us)).reverse.lookup x) p.1 = some u ∧ env.kindOf p.1 = some .local ∧ (p.1 == ("__debug__" : Str)) = false := fun {l} hl i p u hp hu' => by
    have hx : ps[i]? = some p.1 := by rw [← hl, List.getElem?_map, hp]; rfl
    have hm := List.mem_of_getElem? hx
    exact ⟨mAt (i + 1) p.1 u (by simpa using hx) (by simpa using hu'), (ekind _).trans (T.kp _ (List.mem_cons_of_mem _ hm)), S.dbg _ hm⟩
  have lenA : us.length = (a :: as).length := by rw [hu, ← ha1, List.length_map]
  have lenF : us.length = (f :: fs).length := by rw [hu, ← hf1, List.length_map]
  rw [hb]
  refine ks_wpAt_execs_cons ?_
  subst hE
  refine sup_stmt (t0 := t0) (us := us) (m := fun x => ((("self" : Str) :: ps).zip (Value.ref e :: us)).reverse.lookup x) T hM kb0 lf lc hvs hfile lcc hns mself (k0 _ _ he) (by rw [hu, sizeLine_eq]; have := S.few; omega)
    (fun h' tk R hn' hr => spliced_names T.kind (a :: as) us _ R lenA (atN ha1) hn' hr) rfl (star_names as) (fun h' tk t1 k1 e1 => ?_) pl hcE hsw1 hin
  refine wpAt_of_wpAny ?_
  cases us with
  | nil => simp at lenF
  | cons v us =>
    refine sto_all (env := ksEnv qual (defScope st) s.heap.objs.size fI (.ref cda) cc) (t1 := t1) T.ox hM T.kind rfl (T.kp _ List.mem_cons_self) mself (v := v) (vs := us) (by simpa using lenF) (by have := S.few; rw [← hf1, List.length_map] at this; simp only [List.length_cons] at this; omega) (fun i q u hq hu' => ?_) (fun b o z => k1 b o (fun y => by rw [y, eb] at z; cases z) (kb0 b o z)) eb
      (Ns_of_ne hns (Ne.symm (Nat.ne_of_lt (Heap.lt_size he))) k1) (Ne.symm (Nat.ne_of_lt (Heap.lt_size he))) e1 fun h'' tk'' dx dn kk ee nn => ?_
    · have hx : ps[i]? = some q.1 := by rw [← hf1, List.getElem?_map, hq]; rfl
      have hm := List.mem_of_getElem? hx
      exact ⟨mAt (i + 1) q.1 u (by simpa using hx) (by simpa using hu'), T.kp _ (List.mem_cons_of_mem _ hm), S.dbg _ hm, T.fld _ hm, hst _ T.kind q (List.mem_of_getElem? hq)⟩
    · rw [hf1] at nn
      refine hR h'' tk'' dx t1 ?_ (fun b o hb z => kk b o hb (k1 b o hb (k0 _ _ z))) ee nn
      have : s.heap.objs.size < h'.objs.size := by
        obtain ⟨o, _, _, ho, _⟩ := Ns_of_ne hns (Ne.symm (Nat.ne_of_lt (Heap.lt_size he))) k1
        exact Heap.lt_size ho
      exact Nat.le_trans (Nat.le_of_lt this) dn
end
end VS
-- VErr
set_option Elab.async false
set_option linter.all false
set_option maxRecDepth 100000
set_option maxHeartbeats 1000000
/-! VErr: errors of own classes as values: made, raised, their fields, isinstance, class_name(). -/
namespace VS
open PySem L2 PySem.Spec PyProof.Rows PySem.W

/-! ### two new objects at once -/
section
variable {P : Program} {w : World} {fs ex : List Addr} {H : Hp} {h h' : Heap} {a d : Addr} {oa od : HO}
theorem un_two (k : ∀ b u, h.get? b = some u → h'.get? b = some u) (pa : h.get? a = none) (pd : h.get? d = none) (na : H a = none) (nd : H d = none) : Un fs ex H (upd (upd H d od) a oa) h h' where
  keep := fun b u q _ _ _ => k b u q
  slot := fun b u q _ _ _ => ⟨u.slots, k b u q⟩
  free := fun b u q n _ => by rw [upd_ne (fun z => by rw [z, pa] at q; cases q), upd_ne (fun z => by rw [z, pd] at q; cases q)]; exact n
  there := fun b u q _ => ⟨u, k b u q⟩
  tups := fun b xs q => by rw [upd_ne (ne_of_none q na), upd_ne (ne_of_none q nd)]; exact q
  frzs := fun b u xs q => by rw [upd_ne (ne_of_none q na), upd_ne (ne_of_none q nd)]; exact q
  tbls := fun b ps q => ⟨#[], by rw [upd_ne (ne_of_none q na), upd_ne (ne_of_none q nd), q]; simp⟩
theorem hok_two (x : HOk P w H h) (k : ∀ b u, h.get? b = some u → h'.get? b = some u) (na : H a = none) (nd : H d = none) (oka : ObjOk P w (upd (upd H d od) a oa) h' a oa) (okd : ObjOk P w (upd (upd H d od) a oa) h' d od) : HOk P w (upd (upd H d od) a oa) h' := fun b u e => by
  by_cases hb : b = a
  · subst hb
    rw [upd_same] at e
    cases e
    exact oka
  · rw [upd_ne hb] at e
    by_cases hd : b = d
    · subst hd
      rw [upd_same] at e
      cases e
      exact okd
    · rw [upd_ne hd] at e
      exact (x b u e).stay (fun c v _ q => k c v q) (fun c q => by rw [upd_ne (ne_of_none q na), upd_ne (ne_of_none q nd)]; exact q) fun c xs q => by rw [upd_ne (ne_of_none q na), upd_ne (ne_of_none q nd)]; exact q
theorem un_one (k : ∀ b u, h.get? b = some u → h'.get? b = some u) (pd : h.get? d = none) (nd : H d = none) : Un fs ex H (upd H d od) h h' := Un.laidN k pd nd
end
/-- the fields' values, by their names -/
theorem rel_fields {ps : List Str} {vs : List V} {us : List Value} (nd : ps.Nodup) (r : Vals vs us) (hl : vs.length = ps.length) (f : Str) : RelO ((ps.zip vs).lookup f) (((ps.zip us).reverse).lookup f) := by
  have main : ∀ {ps : List Str} {vs : List V} {us : List Value}, ps.Nodup → Vals vs us → vs.length = ps.length → RelO ((ps.zip vs).lookup f) ((ps.zip us).lookup f) := by
    intro ps
    induction ps with
    | nil => intro vs us _ _ _; exact True.intro
    | cons p ps ih =>
      intro vs us nd r hl
      cases r with
      | nil => simp at hl
      | cons r1 r2 =>
        rw [List.zip_cons_cons, List.zip_cons_cons]
        by_cases e : f = p
        · subst e
          simp [List.lookup]
          exact r1
        · have e' : (f == p) = false := by simpa using e
          simp only [List.lookup, e']
          exact ih (List.nodup_cons.mp nd).2 r2 (by simpa using hl)
  have rev : ((ps.zip us).reverse).lookup f = (ps.zip us).lookup f := by
    by_cases hm : f ∈ ps
    · obtain ⟨i, hi, e⟩ := List.mem_iff_getElem.mp hm
      have hu : us[i]? = some (us[i]'(by have := r.length; omega)) := List.getElem?_eq_getElem _
      have e1 := lookup_rev_zip nd (show ps[i]? = some f by rw [List.getElem?_eq_getElem hi, e]) hu
      have e2 : ∀ {ps : List Str} {us : List Value} {i : Nat} {v : Value}, ps.Nodup → ps[i]? = some f → us[i]? = some v → (ps.zip us).lookup f = some v := by
        intro ps
        induction ps with
        | nil => intro us i v _ h; simp at h
        | cons p ps ih =>
          intro us i v nd h1 h2
          cases us with
          | nil => simp at h2
          | cons u us =>
            rw [List.zip_cons_cons]
            cases i with
            | zero =>
              simp at h1 h2
              subst h1; subst h2
              simp [List.lookup]
            | succ i =>
              have hne : f ≠ p := fun z => (List.nodup_cons.mp nd).1 (z ▸ List.mem_of_getElem? (by simpa using h1))
              have e' : (f == p) = false := by simpa using hne
              simp only [List.lookup, e']
              exact ih (List.nodup_cons.mp nd).2 (by simpa using h1) (by simpa using h2)
      rw [e1, e2 nd (show ps[i]? = some f by rw [List.getElem?_eq_getElem hi, e]) hu]
    · have no : ∀ {l : List (Str × Value)}, (∀ p ∈ l, p.1 ≠ f) → l.lookup f = none := by
        intro l
        induction l with
        | nil => intro _; rfl
        | cons p l ih =>
          intro h
          have e' : (f == p.1) = false := by simpa using fun z => h p List.mem_cons_self z.symm
          obtain ⟨y, v⟩ := p
          simp only [List.lookup, e']
          exact ih fun q hq => h q (List.mem_cons_of_mem _ hq)
      rw [no fun p hp z => hm (z ▸ (List.of_mem_zip (List.mem_reverse.mp hp)).1), no fun p hp z => hm (z ▸ (List.of_mem_zip hp).1)]
  rw [rev]
  exact main nd r hl
theorem wants_ok {P : Program} {w : World} {A : Around} {E Q : Value → Shared → Prop} {f : Value} {a : Args} {s : Shared} (h : codeAny (model P w) A (.call f a) (wants Q E) s) : wpAny (model P w) A (call f a.pos a.kw) Q E s := wpAny_call h

/-! ### made -/
section
variable {X : Cx} {C fI : Addr} {st : Stmt} {ps : List Str} {x : Str} {p pos : Pos} {e : Expr} {es : List Expr} {ta : TA}
/-- what C(e, ..) leaves: the state behind it, by the state behind the arguments -/
theorem mkE_run (T : SupC X.prog X.K C fI ps st) (S : InitS st ps) (hd : X.A.depth + 2 < recursionLimit) (hg : Gl X x) (hm : X.mg x = some (.ref C)) (ha : PA X (e :: es) ta) {pins : List (Addr × Obj)} {s : Shared} {σ : L2.St} {H : Hp} {Q : Value → Shared → Prop} (I : Inv X pins σ H s)
    {R0 : List V → Hp → Prop} (h : ta σ H R0) (hl0 : ∀ vs H1, R0 vs H1 → vs.length = ps.length) (q1 : ∀ (vs : List V) (H1 : Hp), R0 vs H1 → ∀ (us : List Value) (s1 : Shared) (h' : Heap) (tk : Nat) (a dx t1 : Addr), Inv X pins σ H1 s1 → Vals vs us → s1.heap.get? a = none → s1.heap.get? dx = none → a ≠ dx → H1 a = none → H1 dx = none → (∀ b o, s1.heap.get? b = some o → h'.get? b = some o) →
      h'.get? a = some (excD C t1 dx) → h'.Ns1 dx (fun y => ((ps.zip us).reverse).lookup y) → Q (.ref a) { s1 with heap := h', toks := tk })
    (hdb : (x == ("__debug__" : Str)) = false := by decide) (he : starEach (e :: es) X.env = (false, eval e X.env) :: starEach es X.env := by rfl) (hpl : (backTo pos (starEach es X.env)).any (·.1) = false := by rfl) :
    wpAny (model X.prog X.w) X.A (eval (.Call (.Name x p) (e :: es) [] pos) X.env) Q X.xe s := by
  obtain ⟨nm, q, N, bs, bm, sn, sub, ab, col, dd, k0, k1, k2, k3, k5, hC, hbm⟩ := T.ox.cls
  refine wpAny_Call_Name_kw (ld_glob I hg hm ?_ hdb)
  refine PySem.W.callWith_K (h₀ := X.base) I.ok.mod.kin T.ox.kC (thn (ha.run pos pins s σ H _ I h) fun us s1 ⟨vs, H1, I1, r1, q0⟩ => ⟨I1.kIn, ?_⟩) he hpl
  show wpAny _ _ (call (.ref C) us) _ _ _
  have hz := hl0 vs H1 q0
  have hlen : us.length = ps.length := r1.length.symm.trans hz
  obtain ⟨hp, g, dr, tk, os⟩ := s1
  have get1 : ((hp.push (kdv_tup us)).push (HandSPX.excO C hp.objs.size)).get? (hp.objs.size + 1) = some (HandSPX.excO C hp.objs.size) := by heap_get
  have keep : ∀ b o, hp.get? b = some o → ((hp.push (kdv_tup us)).push (HandSPX.excO C hp.objs.size)).get? b = some o := fun b o z => Heap.get?_push_of_some _ (Heap.get?_push_of_some _ z)
  have none1 : hp.get? (hp.objs.size + 1) = none := Heap.get?_none_of_le (Nat.le_succ _)
  have lim : (⟨(hp.push (kdv_tup us)).push (HandSPX.excO C hp.objs.size), g, dr, tk, os⟩ : Shared).heap.NoLimit := (I1.kept (t' := tk) keep).nolimit
  refine wpAny_call (HandSPX.call_own F.excBase_ValueError (fun Y => HandSPX.refsVE_contains Y bm hbm) (I1.kIn _ _ hC) (looks_findIn I1.kIn T.iC) (fun self => bind_fn I1.kIn self T.tI) (by rw [hlen, sizeLine_eq]; have := S.few; omega) ?_)
  refine init_run (e := hp.objs.size + 1) (base := X.base) (mg := X.mg) T S I1.ok.mod (fun b o z => keep _ _ (I1.bk b o z)) ?_ lim (by rw [make_depth]; omega) hlen get1 fun h' tk' dx t1 dn k ee nn => ?_
  · cases z : X.base.get? (hp.objs.size + 1) with
    | none => rfl
    | some o =>
      have y := I1.bk _ _ z
      rw [none1] at y
      cases y
  · have sz : ((hp.push (kdv_tup us)).push (HandSPX.excO C hp.objs.size)).objs.size = hp.objs.size + 2 := by rw [Heap.size_push, Heap.size_push]
    have dn' : hp.objs.size + 2 ≤ dx := by rw [← sz]; exact dn
    have noneD : hp.get? dx = none := Heap.get?_none_of_le (Nat.le_trans (Nat.le_add_right _ 2) dn')
    refine ⟨rfl, ?_⟩
    refine q1 vs H1 q0 us ⟨hp, g, dr, tk, os⟩ h' tk' (hp.objs.size + 1) dx t1 I1 r1 none1 noneD (Nat.ne_of_lt (Nat.lt_of_lt_of_le (Nat.lt_succ_self _) dn')) (I1.hok.fresh (Nat.le_succ _)) (I1.hok.fresh (Nat.le_trans (Nat.le_add_right _ 2) dn')) (fun b o z => k b o (fun y => by rw [y, none1] at z; cases z) (keep b o z)) ee nn
/-- C(e, ..) as a value -/
theorem pe_mkE (T : SupC X.prog X.K C fI ps st) (S : InitS st ps) (hd : X.A.depth + 2 < recursionLimit) (hg : Gl X x) (hm : X.mg x = some (.ref C)) (ha : PA X (e :: es) ta)
    (hdb : (x == ("__debug__" : Str)) = false := by decide) (he : starEach (e :: es) X.env = (false, eval e X.env) :: starEach es X.env := by rfl) (hpl : (backTo pos (starEach es X.env)).any (·.1) = false := by rfl) :
    PE X (.Call (.Name x p) (e :: es) [] pos) (fun σ H Q => ta σ H fun vs H1 => vs.length = ps.length ∧ ∀ a d, H1 a = none → H1 d = none → a ≠ d → Q (.ref a) (upd (upd H1 d (exd d (ps.zip vs))) a (exo a C (some d)))) := by
  refine ⟨fun pins s σ H Q I h => ?_⟩
  refine mkE_run T S hd hg hm ha I h (fun vs H1 hq => hq.1) (fun vs H1 hq us s1 h' tk a dx t1 I1 r1 n1 n2 ne z1 z2 k ee nn => ?_) hdb he hpl
  have rel := fun f => rel_fields (List.nodup_cons.mp S.nd).2 r1 hq.1 f
  exact ⟨.ref a, _, I1.un (t' := tk) (un_two k n1 n2 z1 z2) (hok_two I1.hok k z1 z2 (exo_ok ee) (exd_ok nn rel)), rfl, hq.2 a dx z1 z2 ne⟩
/-- C(e, ..) to be raised -/
theorem pmk_mkE (T : SupC X.prog X.K C fI ps st) (S : InitS st ps) (hd : X.A.depth + 2 < recursionLimit) (hg : Gl X x) (hm : X.mg x = some (.ref C)) (ha : PA X (e :: es) ta)
    (hdb : (x == ("__debug__" : Str)) = false := by decide) (he : starEach (e :: es) X.env = (false, eval e X.env) :: starEach es X.env := by rfl) (hpl : (backTo pos (starEach es X.env)).any (·.1) = false := by rfl) :
    L2N.PMk X (.Call (.Name x p) (e :: es) [] pos) (fun σ H Q => ta σ H fun vs H1 => vs.length = ps.length ∧ ∀ d, H1 d = none → Q (.ref C) (some d) (upd H1 d (.xd (ps.zip vs)))) := by
  intro pins s σ H Q I h
  refine mkE_run T S hd hg hm ha I h (fun vs H1 hq => hq.1) (fun vs H1 hq us s1 h' tk a dx t1 I1 r1 n1 n2 ne z1 z2 k ee nn => ?_) hdb he hpl
  have rel := fun f => rel_fields (List.nodup_cons.mp S.nd).2 r1 hq.1 f
  obtain ⟨G, g1, g2⟩ := restrict h' fun b => decide (b ≠ a)
  have gk : ∀ b, b ≠ a → G.get? b = h'.get? b := fun b hb => g1 b (decide_eq_true hb)
  have ga : G.get? a = none := g2 a (by simp)
  have gs : ∀ b o, G.get? b = some o → h'.get? b = some o := fun b o z => by
    by_cases hb : b = a
    · rw [hb, ga] at z; cases z
    · rw [← gk b hb]; exact z
  have kG : ∀ b o, s1.heap.get? b = some o → G.get? b = some o := fun b o z => by
    rw [gk b (fun y => by rw [y, n1] at z; cases z)]
    exact k b o z
  have nG : G.Ns1 dx (fun y => ((ps.zip us).reverse).lookup y) := nn.at fun o y => (gk dx (Ne.symm ne)).trans y
  have J : Inv X pins σ (upd H1 dx (.xd (ps.zip vs))) { s1 with heap := G, toks := tk } := I1.un (t' := tk) (un_one kG n2 z2) (HOk.laidN I1.hok kG z2 ⟨_, nG, rel⟩)
  exact ⟨a, _, _, { s1 with heap := G, toks := tk }, _, .ref C, some dx, rfl, J, gs, ga, ee, ⟨rfl, rfl, fun ws hw => by cases hw; rfl⟩, rfl, rfl, (upd_ne ne).trans z1, rfl, I1.bare, raises_own T.ox.exC T.ox.tyC, hq.2 dx z2⟩
end
end VS
-- VName
set_option Elab.async false
set_option linter.all false
set_option maxRecDepth 100000
set_option maxHeartbeats 2000000
/-! VName: fields, class, name of an error; class_name(). -/
namespace VS
open PySem L2 PySem.Spec PyProof.Rows PySem.W Builtin.ObjectAttr Builtin.Getset_descriptor

/-- what the written part says of an error class: its instances' fields are read, their class asked -/
structure ErrC (K : PySem.W.Frag) (C : Addr) (nm : Str) : Prop where
  xf : XfC K C
  tyC : typeIn K (.ref C) = some (.type "type")
  ic : isClsIn K C = true
  ca : findIn K (.ref C) "__class__" = some (some (.builtin "object.__class__"))
  sp : specialIn K (.builtin "object.__class__") "__get__" = some (some (.builtin "getset_descriptor.__get__"))
  tk : takesIn K (.builtin "object.__class__") = some true
  ob : mroIn K C (.type "object") = some true
  op : nsIn K cStatics "thirdparty.any" = some none
  na : ∃ o tk, K.lookup C = some o ∧ o.slots[2]? = some (some (.str nm tk))
  fc : findCls K (.ref C) (.type "type") "__name__" = some (.get (.builtin "getset_descriptor.__get__") (.builtin "type.__name__") (.ref C) (.type "type"))
  sz : nm.length ≤ sizeLine
theorem ErrC.cl {K : PySem.W.Frag} {C : Addr} {nm : Str} (T : ErrC K C nm) : (clsIn K C).isSome = true := T.ic
section
variable {P : Program} {w : World} {A : Around} {E : Value → Shared → Prop} {s : Shared} {K : PySem.W.Frag} {C x : Addr} {nm : Str} {ox : Obj} {od : Option Obj} {Q : Value → Shared → Prop} {R : Result → Shared → Prop}
/-- e.__class__ -/
theorem cls_get {expr : Bool} (T : ErrC K C nm) (KX : K.In s.heap) (I : InstAt s.heap x ox C od) (h : Q (.ref C) { s with toks := s.toks + 1 }) : wpAny (model P w) A (getAttr (.ref x) "__class__" expr) Q E s := by
  have hf := findObj_dataE (od := od) T.cl T.ca T.sp T.tk
  obtain ⟨hp, g, d, t, os⟩ := s
  have L0 := I.type (M := model P w)
  have L1 := looks_findIn (M := model P w) KX T.xf.ga
  have L2 := looks_findIn (M := model P w) KX T.xf.gg
  have L3 := looks_find (M := model P w) KX I hf
  have sub : Looks (model P w) hp (isInstance (.ref x) (.type "BaseException")) true := L0.andThen (looks_subIn KX T.xf.exC)
  have no1 : (Value.builtin "BaseException.__getattribute__" == Value.builtin "object.__getattribute__") = false := by decide +kernel
  unfold getAttr getAttrBy
  refine wpAny_bind (wpAny_mkText (wpAny_holding (wpAny_bind (L0.at (wpAny_bind (L1.at ?_))))))
  show wpAny _ _ (if (onTheHeap (Value.ref C) && Value.builtin "BaseException.__getattribute__" == Value.builtin "object.__getattribute__") = true then _ else _) _ _ _
  rw [no1, Bool.and_false, if_neg Bool.false_ne_true]
  unfold getAttrByItsOwn hookBefore
  refine wpAny_bind ?_
  rw [if_pos (show onTheHeap (Value.ref C) = true from rfl)]
  refine L2.at (wpAny_bind (wpAny_attempt (wpAny_holding ?_)))
  unfold callGetattribute
  rw [show (expr && onTheHeap (Value.builtin "BaseException.__getattribute__")) = false by cases expr <;> rfl, if_neg Bool.false_ne_true]
  unfold boundAndCalled
  rw [F.excAttr_ValueError.ga.bind (.ref x)]
  refine wpAny_bind (wpAny_pure ?_)
  show wpAny _ _ (call (.builtin "BaseException.__getattribute__") [.ref x, .str "__class__" t]) _ _ _
  refine wpAny_call (codeAny_call_builtin F.excAttr_ValueError.ga.plain F.entry_bexc_ga ?_)
  refine @check_slot (model P w) _ _ ⟨hp, g, d, t + 1, os⟩ "BaseException.__getattribute__" "BaseException" "__getattribute__" (.ref x) [.str "__class__" t] [] _ (by decide +kernel) (by decide +kernel) sub (F.args_bexc_ga (.ref x) (.str "__class__" t)) ?_
  unfold Builtin.«object.__getattribute__»
  refine wpAny_bind (wpAny_of_eq (a := ((Value.ref x : Value), [Value.str "__class__" t])) (by first | rfl | (simp only [slotArgs]; rfl)) ?_)
  refine wpAny_bind (wpAny_pure (wpAny_bind (L0.at (wpAny_bind (L3.at ?_)))))
  refine wpAny_bind (wpAny_holding (wpAny_call (class_get (s := ⟨hp, g, d, t + 1, os⟩) (ox := ox) (od := od) KX I T.ob ?_)))
  refine wpAny_pure ?_
  show wpAny _ _ (handedOut (.ref C)) _ _ _
  rw [handedOut_of (show handedIn (.ref C) = true from rfl)]
  first
  | exact wpAny_pure h
  | exact wpAny_pure (wpAny_pure h)
/-- type.__name__ of the class -/
theorem name_run {tp v : Value} {oC : Obj} (KX : K.In s.heap) (ht : typeIn K (.ref C) = some (.type "type")) (lC : K.lookup C = some oC) (hs : oC.slots[2]? = some (some v)) (h : R (.ok (.ret v)) s) :
    codeAny (model P w) A (.call (.builtin "getset_descriptor.__get__") ⟨[.builtin "type.__name__", .ref C, tp], []⟩) R s := by
  obtain ⟨hh, g, dr, t, os⟩ := s
  have L0 : Looks (model P w) hh (typeOf (.ref C)) (.type "type") := looks_typeIn KX ht
  have L1 : Looks (model P w) hh (isSubtype (.type "type") (.type "type")) true := Looks.of_pure (by rw [isSubtype_type]; kernel_rfl)
  refine codeAny_call_builtin KF.slot_gs.plain KF.entry_gs (KF.slot_gs.check _ _ _ _ _ _ _ _ ktyn_type (KF.args_gs _ _ _) ?_)
  unfold Builtin.«getset_descriptor.__get__» descrGet
  rw [dga_obj]
  refine wpAny_bind (wpAny_pure ?_)
  unfold descrGetter descrCheckInstance descrNameAndClass isInstance
  simp only [ktyn_owner]
  repeat lk
  refine ⟨Code.quiet_builtin _ (by decide +kernel), codeAny_builtin ktyn_entry ?_⟩
  unfold Builtin.«type.__name__» Builtin.keptObject slotAt
  dsimp only
  refine wpAny_bind (wpAny_bind (wpAny_loadPart_at (KX _ _ lC) (wpAny_pure ?_)))
  rw [hs]
  exact wpAny_pure h
theorem name_get {expr : Bool} (T : ErrC K C nm) (KX : K.In s.heap) (h : ∀ tk, Q (.str nm tk) { s with toks := s.toks + 1 }) : wpAny (model P w) A (getAttr (.ref C) "__name__" expr) Q E s := by
  obtain ⟨oC, tk, lC, hs⟩ := T.na
  have L0 : Looks (model P w) s.heap (typeOf (.ref C)) (.type "type") := looks_typeIn KX T.tyC
  have hg : findIn K (.type "type") "__getattribute__" = some (some (.builtin "type.__getattribute__")) := type_tga
  refine cls_open KX (looks_opaque KX T.op) L0 hg (looks_hook KX (r := none) (by rfl)) (by show subIn K _ _ = _; rfl) T.fc ?_
  show wpAny _ _ (do ret (← holding [Value.builtin "type.__name__"] (call (.builtin "getset_descriptor.__get__") [.builtin "type.__name__", .ref C, .type "type"]))) _ _ _
  refine wpAny_bind (wpAny_holding (wpAny_call (name_run (s := { s with toks := s.toks + 1 }) KX T.tyC lC hs ?_)))
  exact wpAny_pure (handed_on rfl (h tk))
end

/-- the text of class_name -/
structure CnS (st : Stmt) : Prop where
  ex : ∃ (p1 p2 p3 p4 p5 p6 : Pos), defBody st = [.Return (some (.JoinedStr [.FormattedValue (.Attribute (.Attribute (.Name "self" p1) "__class__" p2) "__name__" p3) (-1) none p4] p5)) p6]
  loc : (defScope st).names.lookup ("self" : Str) = some .local
  ncell : ∀ x ∈ (defScope st).names, x.2 ≠ .cell
  kind : (defScope st).kind = .function
  co : (defScope st).isCoroutine = false
  gen : (defScope st).isGenerator = false
  bind : ∀ (qual : Str) (cl : List (Str × Addr)) (kV doc pm : Value) (an : Option Addr) (cdv ct : Value) (s : Shared) (u : Value), BindsTo s (fnX "class_name" qual (defArgs st) (defBody st) (defScope st) cl .none kV doc pm an cdv ct) ⟨[u], []⟩ [("self", u)]
/-- the written class_name -/
structure CnC (K : PySem.W.Frag) (f : Addr) (st : Stmt) : Prop where
  S : CnS st
  fn : ∃ (oc : Value) (od : Option Addr) (kV doc pm : Value) (an : Option Addr) (cdv ct : Value) (osl : Array (Option Value)) (qual : Str),
    K.lookup f = some ⟨oc, od, .func (fnX "class_name" qual (defArgs st) (defBody st) (defScope st) [] .none kV doc pm an cdv ct), osl⟩ ∧ codeIn K cdv qual = true
  kp : keepIn K (.ref f) = true
  isf : isFn K (.ref f) = true
section
variable {P : Program} {w : World} {A : Around} {E : Value → Shared → Prop} {s : Shared} {K : PySem.W.Frag} {C x f : Addr} {nm : Str} {ox : Obj} {od : Option Obj} {st : Stmt} {R : Result → Shared → Prop}
theorem InstAt.keeps {h h' : Heap} (k : ∀ b o, h.get? b = some o → h'.get? b = some o) (I : InstAt h x ox C od) : InstAt h' x ox C od := by
  refine ⟨k _ _ I.at_, I.cls, I.no, ?_⟩
  have d := I.dict
  cases e1 : ox.dict with
  | none =>
    rw [e1] at d
    cases od with
    | none => trivial
    | some _ => exact d.elim
  | some dx =>
    rw [e1] at d
    cases od with
    | none => exact d.elim
    | some o => exact k _ _ d
theorem cn_run (T : ErrC K C nm) (N : CnC K f st) (KX : K.In s.heap) (lim : s.heap.NoLimit) (hd : A.depth < recursionLimit) (I : InstAt s.heap x ox C od)
    (h : ∀ h' tk tk', (∀ b o, s.heap.get? b = some o → h'.get? b = some o) → R (.ok (.ret (.str nm tk))) { s with heap := h', toks := tk' }) : codeAny (model P w) A (.call (.ref f) ⟨[.ref x], []⟩) R s := by
  obtain ⟨oc, od', kV, doc, pm, an, cdv, ct, osl, qual, lf, lcd⟩ := N.fn
  obtain ⟨p1, p2, p3, p4, p5, p6, hb⟩ := N.S.ex
  have bnd := N.S.bind qual [] kV doc pm an cdv ct s (.ref x)
  refine codeAny_call_def (fd := fnX "class_name" qual (defArgs st) (defBody st) (defScope st) [] .none kV doc pm an cdv ct) (body := defBody st) hd (KX _ _ lf) rfl lim (codeRec_of KX lcd) rfl bnd N.S.ncell (fun y hy => by
    have e : y = (("self" : Str), Value.ref x) := by simpa using hy
    rw [e]; exact N.S.loc) (fun h0 hns k0 => ?_) N.S.co N.S.gen N.S.kind
  rw [hb]
  refine wpAny_execs_cons (wpAny_Return_some (wpAny_JoinedStr_one (wpAny_FormattedValue_plain ?_)))
  refine attr_of (by rfl) (attr_of (by rfl) ?_)
  refine wpAny_Name (wpAny_loadName_local N.S.kind N.S.loc hns (v := .ref x) (by show List.lookup _ [(("self" : Str), Value.ref x)] = _; rw [List.lookup]; simp) ?_) (by decide)
  refine cls_get T (KX.keeps k0) (InstAt.keeps k0 I) ?_
  refine name_get (s := { s with heap := h0, toks := _ }) T (KX.keeps k0) fun tk => ?_
  exact wpAny_formatField_str (h h0 _ _ k0) (h h0 _ _ k0) T.sz
end
/-- own classes of several names are apart -/
theorem ErrC.one {K : PySem.W.Frag} {C : Addr} {n m : Str} (h : ErrC K C n) (k : ErrC K C m) : n = m := by
  obtain ⟨o, t, e1, e2⟩ := h.na
  obtain ⟨o', t', e3, e4⟩ := k.na
  rw [e1] at e3
  cases e3
  rw [e2] at e4
  cases e4
  rfl
inductive Errs (K : PySem.W.Frag) : List Addr → List Str → Prop
  | nil : Errs K [] []
  | cons {C : Addr} {n : Str} {Cs : List Addr} {ns : List Str} (h : ErrC K C n) (r : Errs K Cs ns) : Errs K (C :: Cs) (n :: ns)
theorem Errs.mem {K : PySem.W.Frag} {C : Addr} : ∀ {Cs : List Addr} {ns : List Str}, Errs K Cs ns → C ∈ Cs → ∃ n ∈ ns, ErrC K C n
  | _, _, .nil, h => nomatch h
  | _, _, .cons h r, hm => by
    rcases List.mem_cons.mp hm with rfl | hm
    · exact ⟨_, List.mem_cons_self, h⟩
    · obtain ⟨n, hn, e⟩ := Errs.mem r hm
      exact ⟨n, List.mem_cons_of_mem _ hn, e⟩
theorem errs_nodup {K : PySem.W.Frag} : ∀ {Cs : List Addr} {ns : List Str}, Errs K Cs ns → ns.Nodup → Cs.Nodup
  | _, _, .nil, _ => .nil
  | _, _, .cons h r, nd => by
    rw [List.nodup_cons] at nd ⊢
    refine ⟨fun hm => ?_, errs_nodup r nd.2⟩
    obtain ⟨n, hn, e⟩ := r.mem hm
    exact nd.1 (h.one e ▸ hn)
end VS
-- VRaise
set_option Elab.async false
set_option linter.all false
set_option maxRecDepth 100000
set_option maxHeartbeats 1000000
/-! VRaise: the rules: errors made, raised, their fields, isinstance, class_name(). -/
namespace VS
open PySem L2 PySem.Spec PyProof.Rows PySem.W

def mkErr (C : Addr) (ps : List Str) (vs : List T) : Option T := if vs.length = ps.length then some (.ins C ps vs) else none
def sRaiseE (C : Addr) (ps : List Str) (f : FA) : FS := fun env => (f env).bindS fun vs env => if vs.length = ps.length ∧ ps ≠ [] then .exc ⟨C, ps, vs⟩ env else .stk
def sRaise0 (C : Addr) : FS := fun env => .exc ⟨C, [], []⟩ env
/-- what the written part says of an error class without own __init__ -/
structure PlainE (K : PySem.W.Frag) (C : Addr) : Prop where
  ox : OexC K C
  q : excIn K C HandSPX.veTail "ValueError.__new__" = true
section
variable {X : Cx} {W : WX} {fx : List (Nat × Md)} {ms ms1 ms2 ms3 msL msN : List Md} {e : Expr} {es : List Expr} {r : Md} {pos p pos2 : Pos} {x : Str} {C fI : Addr} {st : Stmt} {ps : List Str} {f : FA} {g : FE}
theorem step_two {K : PySem.W.Frag} {G H : Hp} {a d : Addr} {oa od : HO} (sub : ∀ a o, G a = some o → H a = some o) (ha : H a = none) (hd : H d = none) (ne : a ≠ d) :
    Step G H [] (upd (upd G d od) a oa) (upd (upd H d od) a oa) [] ∧ ∀ b o, (upd (upd G d od) a oa) b = some o → (upd (upd H d od) a oa) b = some o := by
  have s1 := Step.new (o := od) sub hd
  have u1 := sub_new (o := od) sub (p := d)
  have ha' : upd H d od a = none := by rw [upd_ne ne]; exact ha
  exact ⟨s1.trans (Step.new u1 ha'), sub_new u1⟩
theorem EF.mkE (T : SupC X.prog X.K C fI ps st) (S : InitS st ps) (hr : RoomG 2 X.A) (hg : Gl X x) (hm : X.mg x = some (.ref C)) (ha : AJ X W fx ms (e :: es) ms1 f)
    (hdb : (x == ("__debug__" : Str)) = false := by decide) (he : starEach (e :: es) X.env = (false, eval e X.env) :: starEach es X.env := by rfl) (hpl : (backTo pos (starEach es X.env)).any (·.1) = false := by rfl) :
    EF X W fx ms (.Call (.Name x p) (e :: es) [] pos) ms1 (opL (mkErr C ps) f) := by
  obtain ⟨t, pa, rj⟩ := ha
  refine ⟨_, pe_mkE T S (by have := hr.rm.dp; omega) hg hm pa hdb he hpl, RJ.bind (t := t) PMono.true rj fun xs us => RJ.op fun G H c sub hp e Q hq => ?_⟩
  unfold mkErr at e
  split at e <;> cases e
  rename_i hl
  have tr := hp.2
  refine ⟨tr.length.symm.trans hl, fun a d na nd ne => ?_⟩
  obtain ⟨st2, sub2⟩ := step_two (K := X.K) (oa := exo a C (some d)) (od := exd d (ps.zip us)) sub na nd ne
  exact hq (.ref a) _ _ [] st2 sub2 ⟨.ins upd_same (by rw [upd_ne (Ne.symm ne)]; exact upd_same) (hl.symm.trans tr.length) (tr.mono st2.gm), rfl⟩ .nil
theorem SJ.raiseE (Cc : Cok X W) (T : SupC X.prog X.K C fI ps st) (S : InitS st ps) (hr : RoomG 2 X.A) (hg : Gl X x) (hm : X.mg x = some (.ref C)) (fo : FxOk fx ms1) (ha : AJ X W fx ms (e :: es) ms1 f)
    (hdb : (x == ("__debug__" : Str)) = false := by decide) (he : starEach (e :: es) X.env = (false, eval e X.env) :: starEach es X.env := by rfl) (hpl : (backTo pos (starEach es X.env)).any (·.1) = false := by rfl) :
    SJ X W fx ms (.Raise (some (.Call (.Name x p) (e :: es) [] pos)) none pos2) ms2 msL r (sRaiseE C ps f) := by
  obtain ⟨t, pa, rj⟩ := ha
  refine PS.weak (L2N.ps_raise Cc.calm Cc.tk (pmk_mkE T S (by have := hr.rm.dp; omega) hg hm pa hdb he hpl)) fun D σ H ⟨env, G, own, s, w⟩ => Wants.expr rj s w fun vs env1 e1 us G1 H1 own1 as s1 rel nd stp => ?_
  obtain ⟨tr, rfl⟩ := rel
  have e2 : sRaiseE C ps f env = if vs.length = ps.length ∧ ps ≠ [] then .exc ⟨C, ps, vs⟩ env1 else .stk := by show Out.bindS _ _ = _; rw [e1]; rfl
  by_cases hl : vs.length = ps.length ∧ ps ≠ []
  · refine ⟨tr.length.symm.trans hl.1, fun d nd' => ?_⟩
    have st2 := Step.new (o := .xd (ps.zip us)) s1.sub nd'
    have s2 := s1.keep st2 (sub_new s1.sub)
    exact w.ex ⟨C, ps, vs⟩ env1 (by rw [e2, if_pos hl]) ms1 σ (.ref C) (some d) _ _ own1 fo s2 (.refl σ) ⟨rfl, .inr ⟨hl.2, d, us, rfl, upd_same, hl.1.symm.trans tr.length, tr.mono st2.gm⟩⟩ (stp.trans (by simpa using st2.lift (own := own1)))
  · exact absurd (by rw [e2, if_neg hl]) w.ns

/-! ### C() -/
theorem call0_of {pins : List (Addr × Obj)} {s : Shared} {σ : L2.St} {H : Hp} {Q : Value → Shared → Prop} (T : PlainE X.K C) (I : Inv X pins σ H s) (hg : Gl X x) (hm : X.mg x = some (.ref C)) (hq : ∀ h' a, Heap.MadeExcOf s.heap h' a (.ref C) [] → Q (.ref a) { s with heap := h' })
    (hdb : (x == ("__debug__" : Str)) = false := by decide) : wpAny (model X.prog X.w) X.A (eval (.Call (.Name x p) [] [] pos) X.env) Q X.xe s := by
  refine wpAny_Call_Name_kw (ld_glob I hg hm ?_ hdb)
  refine PySem.W.callWith_K0 I.kIn T.ox.kC ?_
  obtain ⟨bm, N, nm, qn, bs, hdct, sn, sub, ab, col, dd, k0, k1, k2, k3, k5, mN, hC, hN, hni, OT⟩ := exc_obj I.kIn T.q
  exact wpAny_call_exc_subT F.excBase_ValueError OT hC hN hni (fun h' a hm => hq h' a hm) (Nat.zero_le _)
theorem EF.mk0 (T : PlainE X.K C) (hg : Gl X x) (hm : X.mg x = some (.ref C)) (hdb : (x == ("__debug__" : Str)) = false := by decide) : EF X W fx ms (.Call (.Name x p) [] [] pos) ms (VS.cst (.ins C [] [])) := by
  refine ⟨fun _ H Q => ∀ a, H a = none → Q (.ref a) (upd H a (exo a C none)), ⟨fun pins s σ H Q I h => call0_of T I hg hm (fun h' a mk => ?_) hdb⟩, fun env σ G H own _ s ns Q hok hex => fun a na => ?_⟩
  · have na : H a = none := I.hok.gone mk.new
    obtain ⟨t, ht, _, _⟩ := mk.there
    exact ⟨.ref a, _, I.un (t' := s.toks) (Un.laidN mk.keeps mk.new na) (HOk.laidN I.hok mk.keeps na (exo_ok ht)), rfl, h a na⟩
  · have st2 := Step.new (o := exo a C none) s.sub na
    have s2 := s.keep st2 (sub_new s.sub)
    exact hok _ env rfl (.ref a) _ _ own [] s2 ⟨.ins0 upd_same, rfl⟩ s2.nd (by simpa using st2.lift (own := own))
theorem SJ.raise0 (Cc : Cok X W) (T : PlainE X.K C) (hg : Gl X x) (hm : X.mg x = some (.ref C)) (fo : FxOk fx ms) (hdb : (x == ("__debug__" : Str)) = false := by decide) : SJ X W fx ms (.Raise (some (.Call (.Name x p) [] [] pos)) none pos2) ms2 msL r (sRaise0 C) := by
  have mk : L2N.PMk X (.Call (.Name x p) [] [] pos) (fun _ H Q => Q (.ref C) none H) := fun pins s σ H Q I h => call0_of T I hg hm (fun h' a mk => L2N.mk_of I mk (raises_own T.ox.exC T.ox.tyC) h (I.hok.gone mk.new)) hdb
  exact PS.weak (L2N.ps_raise Cc.calm Cc.tk mk) fun D σ H ⟨env, G, own, s, w⟩ => w.ex ⟨C, [], []⟩ env rfl ms σ (.ref C) none G H own fo s (.refl σ) ⟨rfl, .inl ⟨rfl, rfl, rfl⟩⟩ (.refl fun _ h => h)

/-! ### an error held as a value, in the heap -/
/-- the instance, its dict -/
theorem ins_at {pins : List (Addr × Obj)} {s : Shared} {σ : L2.St} {H : Hp} (I : Inv X pins σ H s) {a : Addr} {t : T} {v : V} {ns : List Str} {ts : List T} {G : Hp} (sub : ∀ a o, G a = some o → H a = some o) (h : Tr X.K G (.ins C ns ts) v) :
    ∃ (a : Addr) (ox : Obj) (od : Option Obj) (vs : List V), v = .ref a ∧ InstAt s.heap a ox C od ∧ ns.length = vs.length ∧ TrL X.K G ts vs ∧ ((ns = [] ∧ od = none) ∨ ∃ o, od = some o ∧ ∀ y, ∃ u, lookIn y o = some u ∧ RelO ((ns.zip vs).lookup y) u) := by
  cases h with
  | @ins a _ d _ _ vs h hd hl r =>
    obtain ⟨t1, ho⟩ := exo_at I.hok (sub _ _ h)
    obtain ⟨mA, hns, rel⟩ := exd_at I.hok (sub _ _ hd)
    obtain ⟨od, hod, hlk⟩ := lookIn_ns hns
    exact ⟨a, _, some od, vs, rfl, ⟨ho, rfl, rfl, hod⟩, hl, r, .inr ⟨od, rfl, fun y => ⟨mA y, hlk y, rel y⟩⟩⟩
  | @ins0 a _ h =>
    obtain ⟨t1, ho⟩ := exo_at I.hok (sub _ _ h)
    exact ⟨a, _, none, [], rfl, ⟨ho, rfl, rfl, trivial⟩, rfl, .nil, .inl ⟨rfl, rfl⟩⟩
/-- a field -/
def fldT (Cs : List Addr) (y : Str) : T → Option T
  | .ins C ns ts => if C ∈ Cs then (ns.zip ts).lookup y else none
  | _ => none
theorem zip_lookup {K : PySem.W.Frag} {G : Hp} {y : Str} : ∀ {ns : List Str} {ts : List T} {vs : List V} {t : T}, TrL K G ts vs → (ns.zip ts).lookup y = some t → ∃ v, (ns.zip vs).lookup y = some v ∧ Tr K G t v
  | [], _, _, _, _, h => by simp [List.lookup] at h
  | _ :: _, _, _, _, .nil, h => by simp [List.lookup] at h
  | n :: ns, _, _, t, .cons h1 r, h => by
    rw [List.zip_cons_cons] at h ⊢
    by_cases e : y = n
    · subst e
      simp [List.lookup] at h ⊢
      exact h ▸ h1
    · have e' : (y == n) = false := by simpa using e
      simp only [List.lookup, e'] at h ⊢
      exact zip_lookup r h
theorem EF.fld {Cs : List Addr} {y : Str} {o : Expr} (hx : ∀ C ∈ Cs, XfC X.K C ∧ findIn X.K (.ref C) y = some none) (ho : EF X W fx ms o ms1 g) (hb : attributeBase o y X.env (eval o X.env) = eval o X.env := by rfl) : EF X W fx ms (.Attribute o y pos) ms1 (op1 (fldT Cs y) g) := by
  obtain ⟨t, p, rj⟩ := ho
  refine ⟨fun σ H Q => t σ H fun u H1 => ∃ (G : Hp) (x z : T) (w : V), (∀ a o, G a = some o → H1 a = some o) ∧ Tr X.K G x u ∧ fldT Cs y x = some z ∧ (∀ w, Tr X.K G z w → Q w H1), ⟨fun pins s σ H Q I h => attr_of hb (thn (p.run pins s σ H _ I h) fun u s1 ⟨v, H1, I1, r1, G, x, z, w, sub, tr, ez, q⟩ => ?_)⟩, ?_⟩
  · cases x <;> simp only [fldT] at ez <;> try cases ez
    split at ez
    · rename_i C ns ts hC
      obtain ⟨xf, hno⟩ := hx C hC
      obtain ⟨a, ox, od, vs, rfl, J, hl, r, hh⟩ := ins_at (a := 0) (t := .non) I1 sub tr
      cases r1
      obtain ⟨w, e1, h1⟩ := zip_lookup r ez
      rcases hh with ⟨rfl, _⟩ | ⟨od, rfl, hlk⟩
      · simp [List.lookup] at e1
      · obtain ⟨uu, hu, ru⟩ := hlk y
        obtain ⟨z2, hz2, rz⟩ := RelO.some_of (v := w) (o := uu) (by rw [← e1]; exact ru)
        exact HandSPX.exc_get I1.kIn J xf.ga xf.gg xf.exC (findObj_own xf.hdC hno rfl (by rw [hu, hz2])) (handed_of rz) ⟨w, H1, I1.tok _, rz, q w h1⟩
    · cases ez
  · intro env σ G H own pg s ns Q hok hex
    refine rj env σ G H own trivial s (fun e => ns (by show (g env).bind _ = _; rw [e]; rfl)) _ (fun x env1 e1 u G1 H1 own1 as1 s1 rel1 nd1 st1 => ?_) fun x env1 e1 => hex x env1 (by show (g env).bind _ = _; rw [e1]; rfl)
    obtain ⟨tr, rfl⟩ := rel1
    have eb : op1 (fldT Cs y) g env = optO (fldT Cs y x) env1 := by show (g env).bind _ = _; rw [e1]; rfl
    cases ez : fldT Cs y x with
    | none => exact absurd (by rw [eb, ez]; rfl) ns
    | some z => exact ⟨G1, x, z, .non, s1.sub, tr, ez, fun w hw => hok z env1 (by rw [eb, ez]; rfl) w G1 H1 own1 [] s1 ⟨hw, rfl⟩ nd1 (by simpa using st1)⟩
end
end VS
-- VIsi
set_option Elab.async false
set_option linter.all false
set_option maxRecDepth 100000
set_option maxHeartbeats 1000000
/-! VIsi: isinstance of an error, e.class_name(). -/
namespace VS
open PySem L2 PySem.Spec PyProof.Rows PySem.W

def isClsT : T → T → Bool
  | .ref a, .ref b => a == b
  | .ty m, .ty n => m == n
  | _, _ => false
/-- isinstance(e, c): yes for the classes Cs -/
def isiEO (Cs : List Addr) (c : T) : List T → Option T
  | [.ins C _ _, y] => if decide (C ∈ Cs) && isClsT c y then some (.bl true) else none
  | _ => none
def rIsiE (K : PySem.W.Frag) : List V → Hp → VK → Prop := fun xs H Q => ∃ (a C : Addr) (c : V) (cv : Value) (nm : Str), xs = [.ref a, c] ∧ (∀ u, RelV c u → u = cv) ∧ (H a = some (exo a C none) ∨ ∃ d fs, H a = some (exo a C (some d)) ∧ H d = some (exd d fs)) ∧
  ErrC K C nm ∧ kitOne K (.ref C) cv = some true ∧ Q (.bl true) H
theorem call_isiE {X : Cx} : CallR X (.builtin "isinstance") (rIsiE X.K) := by
  intro pins s σ H xs us Q I r h
  obtain ⟨a, C, c, cv, nm, rfl, hcv, ha, T, ek, q⟩ := h
  cases r with
  | cons rx rr =>
    obtain ⟨u2, rfl, r2⟩ := vals1 rr
    cases rx
    obtain rfl := hcv _ r2
    have J : ∃ ox od, InstAt s.heap a ox C od := by
      rcases ha with ha | ⟨d, fs, ha, hd⟩
      · obtain ⟨t1, ho⟩ := exo_at I.hok ha
        exact ⟨_, none, ho, rfl, rfl, trivial⟩
      · obtain ⟨t1, ho⟩ := exo_at I.hok ha
        obtain ⟨mA, hns, _⟩ := exd_at I.hok hd
        obtain ⟨od, hod, _⟩ := lookIn_ns hns
        exact ⟨_, some od, ho, rfl, rfl, hod⟩
    obtain ⟨ox, od, J⟩ := J
    exact kia_one (kitx_exc (ox := ox) (od := od) T.cl T.xf.ga T.xf.gg T.xf.exC T.ca T.sp T.tk T.ob) I.kIn J ek (fun z => nomatch z) fun tk => ⟨.bl true, H, I.kept (t' := tk) fun _ _ z => z, rfl, q⟩
theorem cal_isiE {K : PySem.W.Frag} {Cs : List Addr} {c : T} {cv : Value} (hc : (∃ D, c = .ref D ∧ cv = .ref D) ∨ ∃ n, c = .ty n ∧ cv = .type n) (hx : ∀ C ∈ Cs, (∃ nm, ErrC K C nm) ∧ kitOne K (.ref C) cv = some true) : Cal K .frz (rIsiE K) (isiEO Cs c) := .mk fun G H xs us z sub h e Q q => by
  match xs, h, e with
  | [.ins C ns ts, y], h, e =>
    simp only [isiEO] at e
    split at e <;> cases e
    rename_i hh
    rw [Bool.and_eq_true, decide_eq_true_eq] at hh
    obtain ⟨⟨nm, T⟩, ek⟩ := hx C hh.1
    obtain ⟨u, v, rfl, h1, h2⟩ := h.two
    have hv : ∀ u, RelV v u → u = cv := by
      rcases hc with ⟨D, rfl, rfl⟩ | ⟨n, rfl, rfl⟩
      · cases y <;> simp [isClsT] at hh
        obtain ⟨_, rfl⟩ := hh
        cases h2
        exact fun u r => r
      · cases y <;> simp [isClsT] at hh
        obtain ⟨_, rfl⟩ := hh
        cases h2
        exact fun u r => r
    cases h1 with
    | ins h9 hd hl r => exact ⟨_, C, v, cv, nm, rfl, hv, .inr ⟨_, _, sub _ _ h9, sub _ _ hd⟩, T, ek, q.val sub (.bl _)⟩
    | ins0 h9 => exact ⟨_, C, v, cv, nm, rfl, hv, .inl (sub _ _ h9), T, ek, q.val sub (.bl _)⟩

/-! ### e.class_name() -/
def cnT (nmOf : Addr → Option Str) : T → Option T
  | .ins C ns _ => if ("class_name" : Str) ∈ ns then none else (nmOf C).map .str
  | _ => none
section
variable {X : Cx} {W : WX} {fx : List (Nat × Md)} {ms ms1 : List Md} {o : Expr} {pos apos : Pos} {g : FE} {fcn C a : Addr} {st : Stmt} {nm : Str}
/-- the method taken and called -/
theorem cn_call {pins : List (Addr × Obj)} {s : Shared} {σ : L2.St} {H : Hp} {Q : Value → Shared → Prop} {pl : Sem Bool} {ox : Obj} {od : Option Obj} (T : ErrC X.K C nm) (N : CnC X.K fcn st) (hf : findIn X.K (.ref C) "class_name" = some (some (.ref fcn))) (I : Inv X pins σ H s) (hd : X.A.depth < recursionLimit) (J : InstAt s.heap a ox C od)
    (hs : shadowIn od "class_name" = some false) (hQ : ∀ h' tk tk', (∀ b o, s.heap.get? b = some o → h'.get? b = some o) → Q (.str nm tk) { s with heap := h', toks := tk' }) :
    wpAny (model X.prog X.w) X.A (getMethod (.ref a) "class_name" pl) (fun fx s₂ => wpAny (model X.prog X.w) X.A (callWith pos fx.1 fx.2 (backTo pos (starEach [] X.env)) (backToKw pos (keywordEach [] X.env))) Q X.xe s₂) X.xe s := by
  obtain ⟨m, fr⟩ := I.fr
  refine method_exc fr I.ok.mod.kin J T.xf.ga T.xf.gg hf N.isf hs ?_
  refine PySem.W.callWith_K0 (first := [.ref a]) I.kIn N.kp ?_
  exact wpAny_call (cn_run T N I.kIn I.nolimit hd J fun h' tk tk' k => hQ h' tk tk' k)
theorem EF.cnm {nmOf : Addr → Option Str} {pl : Sem Bool} (hx : ∀ C nm, nmOf C = some nm → ErrC X.K C nm ∧ findIn X.K (.ref C) "class_name" = some (some (.ref fcn))) (N : CnC X.K fcn st) (hd : X.A.depth < recursionLimit) (ho : EF X W fx ms o ms1 g)
    (he : eval (.Call (.Attribute o "class_name" apos) [] [] pos) X.env = (do
      let ov ← eval o X.env
      standAt apos.atName
      let (f, first) ← holding [ov] (getMethod ov "class_name" pl)
      callWith pos f first (backTo pos (starEach [] X.env)) (backToKw pos (keywordEach [] X.env))) := by rfl) : EF X W fx ms (.Call (.Attribute o "class_name" apos) [] [] pos) ms1 (op1 (cnT nmOf) g) := by
  obtain ⟨t, p, rj⟩ := ho
  refine ⟨fun σ H Q => t σ H fun u H1 => ∃ (G : Hp) (x : T) (z : T), (∀ a o, G a = some o → H1 a = some o) ∧ Tr X.K G x u ∧ cnT nmOf x = some z ∧ (∀ w, Tr X.K G z w → Q w H1), ⟨fun pins s σ H Q I h => PySem.W.methodCall_KW (pl := pl) (thn (p.run pins s σ H _ I h) fun u s1 ⟨v, H1, I1, r1, G, x, z, sub, tr, ez, q⟩ => ?_) he⟩, ?_⟩
  · cases x <;> simp only [cnT] at ez <;> try cases ez
    split at ez
    · cases ez
    · rename_i C ns ts hn
      cases en : nmOf C with
      | none => rw [en] at ez; cases ez
      | some nm =>
        rw [en] at ez
        cases ez
        obtain ⟨E, hf⟩ := hx C nm en
        obtain ⟨a, ox, od, vs, rfl, J, hl, r, hh⟩ := ins_at (a := 0) (t := .non) I1 sub tr
        cases r1
        refine cn_call E N hf I1 hd J ?_ fun h' tk tk' k => ⟨.str nm, H1, I1.kept (t' := tk') k, ⟨tk, rfl⟩, q _ (.str nm)⟩
        rcases hh with ⟨rfl, rfl⟩ | ⟨od, rfl, hlk⟩
        · rfl
        · obtain ⟨uu, hu, ru⟩ := hlk "class_name"
          have e0 : (ns.zip vs).lookup ("class_name" : Str) = none := by
            have main : ∀ {ns : List Str} {vs : List V}, ("class_name" : Str) ∉ ns → (ns.zip vs).lookup ("class_name" : Str) = none := by
              intro ns
              induction ns with
              | nil => intro vs _; rfl
              | cons n ns ih =>
                intro vs h
                cases vs with
                | nil => rfl
                | cons v vs =>
                  have e' : (("class_name" : Str) == n) = false := by
                    have : ("class_name" : Str) ≠ n := fun z => h (by rw [← z]; exact List.mem_cons_self)
                    simpa using this
                  rw [List.zip_cons_cons]
                  simp only [List.lookup, e']
                  exact ih fun z => h (List.mem_cons_of_mem _ z)
            exact main hn
          rw [e0] at ru
          have e1 : uu = none := RelO.none_of ru
          show (lookIn "class_name" od).map _ = _
          rw [hu, e1]
          rfl
  · intro env σ G H own pg s ns Q hok hex
    refine rj env σ G H own trivial s (fun e => ns (by show (g env).bind _ = _; rw [e]; rfl)) _ (fun x env1 e1 u G1 H1 own1 as1 s1 rel1 nd1 st1 => ?_) fun x env1 e1 => hex x env1 (by show (g env).bind _ = _; rw [e1]; rfl)
    obtain ⟨tr, rfl⟩ := rel1
    have eb : op1 (cnT nmOf) g env = optO (cnT nmOf x) env1 := by show (g env).bind _ = _; rw [e1]; rfl
    cases ez : cnT nmOf x with
    | none => exact absurd (by rw [eb, ez]; rfl) ns
    | some z => exact ⟨G1, x, z, s1.sub, tr, ez, fun w hw => hok z env1 (by rw [eb, ez]; rfl) w G1 H1 own1 [] s1 ⟨hw, rfl⟩ nd1 (by simpa using st1)⟩
end
end VS
-- VTry
set_option Elab.async false
set_option linter.all false
set_option maxRecDepth 100000
set_option maxHeartbeats 1000000
/-! VTry: try: .. except X as e: .., try: .. except X: .. (in defs without owned parameters). -/
namespace VS
open PySem L2 PySem.Spec PyProof.Rows PySem.W

def frzs (n : Nat) : List Md := List.replicate n .frz
section
variable {K : PySem.W.Frag} {G H : Hp} {ms : List Md} {env : Env} {σ : L2.St} {own : List Addr}
theorem SR.fzTo (s : SR K ms env σ G H own) : ∀ k, k ≤ ms.length → ∃ G' own', SR K (frzs k ++ ms.drop k) env σ G' H own' ∧ Step G H own G' H own'
  | 0, _ => ⟨G, own, by simpa [frzs] using s, .refl fun _ h => h⟩
  | k + 1, hk => by
    obtain ⟨G1, own1, s1, st1⟩ := SR.fzTo s k (by omega)
    obtain ⟨G2, own2, s2, st2⟩ := s1.fz k
    refine ⟨G2, own2, ?_, st1.trans st2⟩
    have e : (frzs k ++ ms.drop k).set k .frz = frzs (k + 1) ++ ms.drop (k + 1) := by
      have e0 : (frzs k).length = k := by simp [frzs]
      have e1 : ms.drop k = ms[k]'(by omega) :: ms.drop (k + 1) := List.drop_eq_getElem_cons (by omega)
      rw [List.set_append_right _ _ (by rw [e0]; exact Nat.le_refl _), e0, Nat.sub_self, e1, List.set_cons_zero]
      unfold frzs
      rw [List.replicate_succ', List.append_assoc]
      rfl
    rw [e] at s2
    exact s2
theorem SR.fzAll (s : SR K ms env σ G H own) : ∃ G' own', SR K (frzs ms.length) env σ G' H own' ∧ Step G H own G' H own' := by
  obtain ⟨G', own', s', st⟩ := s.fzTo ms.length (Nat.le_refl _)
  rw [List.drop_length, List.append_nil] at s'
  exact ⟨G', own', s', st⟩
end
def clr (i : Nat) : SOut → SOut
  | .nxt e => .nxt (e.set i none)
  | .ret v e => .ret v (e.set i none)
  | .brk e => .brk (e.set i none)
  | .cnt e => .cnt (e.set i none)
  | _ => .stk
def xval (a d : Addr) (x : Exc) : T := match x.ns with
  | [] => .ref a
  | n :: ns => .xcp a d (n :: ns) x.vs
def dOf (x : Exc) (d : Addr) : Option Addr := match x.ns with
  | [] => none
  | _ => some d
open Classical in
noncomputable def sameO (i : Nat) (g : Addr → Addr → FS) (x : Exc) (env : Env) : SOut := if h : ∃ o, ∀ a d, clr i (g a d (env.set i (some (xval a d x)))) = o then h.choose else .stk
theorem sameO_eq {i : Nat} {g : Addr → Addr → FS} {x : Exc} {env : Env} {o : SOut} (h : ∀ a d, clr i (g a d (env.set i (some (xval a d x)))) = o) : sameO i g x env = o := by
  have q : ∃ o, ∀ a d, clr i (g a d (env.set i (some (xval a d x)))) = o := ⟨o, h⟩
  unfold sameO
  rw [dif_pos q]
  exact (q.choose_spec (0 : Nat) (0 : Nat)).symm.trans (h 0 0)
theorem sameO_at {i : Nat} {g : Addr → Addr → FS} {x : Exc} {env : Env} (h : sameO i g x env ≠ .stk) (a d : Addr) : clr i (g a d (env.set i (some (xval a d x)))) = sameO i g x env := by
  by_cases q : ∃ o, ∀ a d, clr i (g a d (env.set i (some (xval a d x)))) = o
  · obtain ⟨o, ho⟩ := q
    rw [sameO_eq ho]
    exact ho a d
  · unfold sameO at h
    rw [dif_neg q] at h
    exact absurd rfl h
noncomputable def sTryAs (i : Nat) (mt : Addr → Option Bool) (f : FS) (g : Exc → Addr → Addr → FS) : FS := fun env => match f env with
  | .exc x env' => (match mt x.C with
    | some true => if i < env'.length then sameO i (g x) x env' else .stk
    | some false => .exc x env'
    | none => .stk)
  | o => o
def noX : SOut → SOut
  | .exc _ _ => .stk
  | o => o
def sTryO (mt : Addr → Option Bool) (f : FS) (g : Exc → FS) : FS := fun env => match f env with
  | .exc x env' => (match mt x.C with
    | some true => noX (g x env')
    | some false => .exc x env'
    | none => .stk)
  | o => o
theorem xval_tr {K : PySem.W.Frag} {G H : Hp} {x : Exc} {cls : Value} {d : Option Addr} (h : ExR K G H x cls d) (a : Addr) : ∃ dd, d = dOf x dd ∧ Tr K G (xval a dd x) (.ref a) := by
  obtain ⟨_, h | h⟩ := h
  · obtain ⟨h1, h2, h3⟩ := h
    refine ⟨0, ?_, ?_⟩
    · rw [h3]; unfold dOf; rw [h1]
    · unfold xval; rw [h1]; exact .ref a
  · obtain ⟨hn, dx, vs, h1, h2, h3, h4⟩ := h
    refine ⟨dx, ?_, ?_⟩
    · rw [h1]
      unfold dOf
      cases e : x.ns with
      | nil => exact absurd e hn
      | cons n ns => rfl
    · unfold xval
      cases e : x.ns with
      | nil => exact absurd e hn
      | cons n ns =>
        rw [e] at h2 h3
        exact .xcp h2 h3 h4
theorem takes_suite {X : Cx} {a : Addr} {pn : List (Addr × Obj)} : L2N.Takes (X.suite a pn) W0 := fun _ _ ⟨_, _, _, _, _, _, _, _, _, _, _, _, _, _, _, _, w⟩ => w.elim
section
variable {X : Cx} {W : WX} {ms msL msN : List Md} {body suite : List Stmt} {b₀ : Stmt} {r : Md} {np pos pos' : Pos} {i : Nat} {n y : Str} {cv : Value} {mt : Addr → Option Bool} {f : FS}
theorem kok_suite (C : Cok X W) {a : Addr} {oe : Obj} {cls : Value} {d : Option Addr} {pn : List (Addr × Obj)} (z : L2N.Zn cls d oe) (hf : ∃ vs, oe.data = .fields vs) : Kok (X.suite a ((a, oe) :: pn)) W0 ∧ L2H.HotC (X.suite a ((a, oe) :: pn)) := by
  refine ⟨⟨C.hu, takes_suite, PassesOwn.never, C.nd, C.gd⟩, (a, oe), ⟨rfl, ?_⟩, List.mem_cons_self⟩
  obtain ⟨vs, e⟩ := hf
  exact ⟨vs, e, z.2.2 vs e⟩
theorem cok_try (C : Cok X W) {pn : List (Addr × Obj)} {xe : Value → Shared → Prop} {W' : WX} (tk : L2N.Takes (X.tr pn xe) W') (po : PassesOwn (model X.prog X.w) X.A X.env xe) : Cok (X.tr pn xe) W' := ⟨⟨C.hu, tk, po, C.nd, C.gd⟩, C.calm⟩
/-- try: body / except y as n: suite -/
theorem SJ.tryAs {g : Exc → Addr → Addr → FS} (C : Cok X W) (hs : X.stack = X.env :: X.outer) (hf : X.env.frame = some X.env.locals) (hi : X.N[i]? = some n) (hln : X.env.kindOf n = some .local) (hc : Names X y cv) (hmt : ∀ C b, mt C = some b → exmOne X.K (.ref C) cv = some b)
    (hb : ∀ (W' : WX) (pn : List (Addr × Obj)) (xe : Value → Shared → Prop), Cok (X.tr pn xe) W' → BJ (X.tr pn xe) W' [] ms body msN msL r f)
    (hsu : ∀ (x : Exc) (a dd : Addr) (oe : Obj) (pn : List (Addr × Obj)), mt x.C = some true → L2N.Zn (.ref x.C) (dOf x dd) oe → (∃ vs, oe.data = .fields vs) → Kok (X.suite a ((a, oe) :: pn)) W0 → L2H.HotC (X.suite a ((a, oe) :: pn)) →
      BJ (X.suite a ((a, oe) :: pn)) W0 [] (frzs ms.length) (b₀ :: suite) msN msL r (g x a dd)) :
    SJ X W [] ms (.Try body [.ExceptHandler (some (.Name y np)) (some n) (b₀ :: suite) pos'] [] [] pos) msN msL r (sTryAs i mt f g) := by
  refine PS.weak (L2N.ps_try_as (Wout := W) (tb := fun W' => semS X.K W' [] ms msN msL r f) (ts := fun a cls d D σ H => ∃ (x : Exc) (dd : Addr), mt x.C = some true ∧ cls = .ref x.C ∧ d = dOf x dd ∧ semS X.K W0 [] (frzs ms.length) msN msL r (g x a dd) D σ H) hs hf C.nd hi hln hc C.tk
    (fun W' pn xe tk po => hb W' pn xe (cok_try C tk po)) (fun a oe cls d pn z hz => ⟨fun pins s σ H D I ⟨x, dd, e0, e1, e2, h⟩ => ?_⟩)) fun D σ H ⟨env, G, own, s, w⟩ => ⟨env, G, own, s, ?_⟩
  · subst e1 e2
    obtain ⟨k1, k2⟩ := kok_suite C z hz
    exact (hsu x a dd oe pn e0 z hz k1 k2).run pins s σ H D I h
  · have lenE := s.sl.lens
    refine ⟨fun e => w.ns (by simp only [sTryAs, e]), fun env' e => w.nx env' (by simp only [sTryAs, e]), fun env' e => w.bk env' (by simp only [sTryAs, e]), fun env' e => w.ct env' (by simp only [sTryAs, e]),
      fun v env' e => w.rt v env' (by simp only [sTryAs, e]), fun x env' e msR σ' cls d G' H' own' fo s' fs er stp => ?_⟩
    have hcls := er.1
    have es : sTryAs i mt f g env = (match mt x.C with
      | some true => if i < env'.length then sameO i (g x) x env' else .stk
      | some false => .exc x env'
      | none => .stk) := by simp only [sTryAs, e]
    cases em : mt x.C with
    | none => exact absurd (by rw [es, em]) w.ns
    | some b =>
      refine ⟨b, by rw [hcls]; exact hmt _ _ em, fun hb a na => ?_, fun hb => ?_⟩
      · subst hb
        rw [em] at es
        simp only at es
        by_cases hlt : i < env'.length
        · rw [if_pos hlt] at es
          have nst : sameO i (g x) x env' ≠ .stk := fun z => w.ns (by rw [es, z])
          obtain ⟨dd, ed, tr⟩ := xval_tr er a
          have ec := sameO_at nst a dd
          obtain ⟨G2, own2, s2, st2⟩ := s'.fzAll
          have lR := s'.sl.lens
          have e5 : msR.length = ms.length := by
            have := fs.1
            omega
          rw [e5] at s2
          obtain ⟨own3, s3, sb3⟩ := s2.set (m' := .frz) hlt (.frz (tr.mono st2.gm)) (by simpa using s2.nd)
          have efz : (frzs ms.length).set i .frz = frzs ms.length := set_same (by unfold frzs; rw [List.getElem?_replicate, if_pos (by omega)])
          rw [efz] at s3
          have st3 : Step G H own G2 H' own3 := (stp.trans st2).own fun z hz => by simpa using sb3 z hz
          have w2 : Wants X.K W [] msN msL r σ G H own (clr i (g x a dd (env'.set i (some (xval a dd x))))) D := w.eq (es.trans ec.symm)
          have fin : ∀ {env5 : Env} {σ5 : L2.St} {G5 H5 : Hp} {own5 : List Addr} {ms5 : List Md}, SR X.K ms5 env5 σ5 G5 H5 own5 → FxS [] (σ'.set i (some (.ref a))) σ5 → Step G2 H' own3 G5 H5 own5 →
              ∃ own6, SR X.K ms5 (env5.set i none) (σ5.set i none) G5 H5 own6 ∧ FxS [] σ (σ5.set i none) ∧ ∀ z ∈ own6, z ∈ own5 := fun {env5 σ5 G5 H5 own5 ms5} s5 f5 st5 => by
            obtain ⟨own6, s6, h6⟩ := s5.drop i none
            refine ⟨own6, s6, ⟨?_, fun p hp => nomatch hp⟩, h6⟩
            rw [List.length_set, f5.1, List.length_set, fs.1]
          refine ⟨x, dd, em, hcls, ed, env'.set i (some (xval a dd x)), G2, own3, s3, ?_⟩
          generalize g x a dd (env'.set i (some (xval a dd x))) = o at w2
          refine ⟨fun z => w2.ns (by rw [z]; rfl), fun env5 e5 σ5 G5 H5 own5 s5 f5 st5 => ?_, fun env5 e5 σ5 G5 H5 own5 s5 f5 st5 => ?_, fun env5 e5 σ5 G5 H5 own5 s5 f5 st5 => ?_, fun v env5 e5 u msR5 σ5 G5 H5 own5 as5 fo5 s5 f5 rel5 nd5 st5 => ?_, fun x5 env5 e5 => absurd (by rw [e5]; rfl) w2.ns⟩
          · obtain ⟨own6, s6, f6, h6⟩ := fin s5 f5 st5
            exact w2.nx _ (by rw [e5]; rfl) _ G5 H5 own6 s6 f6 ((st3.trans st5).own h6)
          · obtain ⟨own6, s6, f6, h6⟩ := fin s5 f5 st5
            exact w2.bk _ (by rw [e5]; rfl) _ G5 H5 own6 s6 f6 ((st3.trans st5).own h6)
          · obtain ⟨own6, s6, f6, h6⟩ := fin s5 f5 st5
            exact w2.ct _ (by rw [e5]; rfl) _ G5 H5 own6 s6 f6 ((st3.trans st5).own h6)
          · obtain ⟨own6, s6, f6, h6⟩ := fin s5 f5 (st5.own fun z hz => List.mem_append_right _ hz)
            rw [List.nodup_append] at nd5
            exact w2.rt v _ (by rw [e5]; rfl) u msR5 _ G5 H5 own6 as5 .nil s6 f6 rel5 (List.nodup_append.mpr ⟨nd5.1, s6.nd, fun z hz z2 hz2 => nd5.2.2 z hz z2 (h6 z2 hz2)⟩) ((st3.trans st5).own fun z hz => (List.mem_append.mp hz).elim (List.mem_append_left _) fun q => List.mem_append_right _ (h6 z q))
        · exact absurd (by rw [es, if_neg hlt]) w.ns
      · subst hb
        rw [em] at es
        exact w.ex x env' es msR σ' cls d G' H' own' fo s' fs er stp
/-- try: body / except y: suite -/
theorem SJ.tryO {g : Exc → FS} (C : Cok X W) (hs : X.stack = X.env :: X.outer) (hf : X.env.frame = some X.env.locals) (hc : Names X y cv) (hmt : ∀ C b, mt C = some b → exmOne X.K (.ref C) cv = some b)
    (hb : ∀ (W' : WX) (pn : List (Addr × Obj)) (xe : Value → Shared → Prop), Cok (X.tr pn xe) W' → BJ (X.tr pn xe) W' [] ms body msN msL r f)
    (hsu : ∀ (x : Exc) (a dd : Addr) (oe : Obj) (pn : List (Addr × Obj)), mt x.C = some true → L2N.Zn (.ref x.C) (dOf x dd) oe → (∃ vs, oe.data = .fields vs) → Kok (X.suite a ((a, oe) :: pn)) W0 → L2H.HotC (X.suite a ((a, oe) :: pn)) →
      BJ (X.suite a ((a, oe) :: pn)) W0 [] (frzs ms.length) (b₀ :: suite) msN msL r (g x)) :
    SJ X W [] ms (.Try body [.ExceptHandler (some (.Name y np)) none (b₀ :: suite) pos'] [] [] pos) msN msL r (sTryO mt f g) := by
  refine PS.weak (L2N.ps_try_many (Wout := W) (tb := fun W' => semS X.K W' [] ms msN msL r f) (l := [(cv, fun a cls d D σ H => ∃ (x : Exc) (dd : Addr), mt x.C = some true ∧ cls = .ref x.C ∧ d = dOf x dd ∧ semS X.K W0 [] (frzs ms.length) msN msL r (g x) D σ H)]) hs hf C.tk
    (fun W' pn xe tk po => hb W' pn xe (cok_try C tk po)) (.cons hc (fun a oe cls d pn z hz => ⟨fun pins s σ H D I ⟨x, dd, e0, e1, e2, h⟩ => ?_⟩) .nil)) fun D σ H ⟨env, G, own, s, w⟩ => ⟨env, G, own, s, ?_⟩
  · subst e1 e2
    obtain ⟨k1, k2⟩ := kok_suite C z hz
    exact (hsu x a dd oe pn e0 z hz k1 k2).run pins s σ H D I h
  · have lenE := s.sl.lens
    refine ⟨fun e => w.ns (by simp only [sTryO, e]), fun env' e => w.nx env' (by simp only [sTryO, e]), fun env' e => w.bk env' (by simp only [sTryO, e]), fun env' e => w.ct env' (by simp only [sTryO, e]),
      fun v env' e => w.rt v env' (by simp only [sTryO, e]), fun x env' e msR σ' cls d G' H' own' fo s' fs er stp => ?_⟩
    have hcls := er.1
    have es : sTryO mt f g env = (match mt x.C with
      | some true => noX (g x env')
      | some false => .exc x env'
      | none => .stk) := by simp only [sTryO, e]
    cases em : mt x.C with
    | none => exact absurd (by rw [es, em]) w.ns
    | some b =>
      refine ⟨b, by rw [hcls]; exact hmt _ _ em, fun hb a na => ?_, fun hb => ?_⟩
      · subst hb
        rw [em] at es
        simp only at es
        obtain ⟨dd, ed, tr⟩ := xval_tr er a
        obtain ⟨G2, own2, s2, st2⟩ := s'.fzAll
        have lR := s'.sl.lens
        have e5 : msR.length = ms.length := by
          have := fs.1
          omega
        rw [e5] at s2
        have w2 : Wants X.K W [] msN msL r σ' G2 H' own2 (noX (g x env')) D := (w.eq es).after (stp.trans st2) fs
        refine ⟨x, dd, em, hcls, ed, env', G2, own2, s2, ?_⟩
        generalize g x env' = o at w2
        refine ⟨fun z => w2.ns (by rw [z]; rfl), fun env5 e5 => w2.nx env5 (by rw [e5]; rfl), fun env5 e5 => w2.bk env5 (by rw [e5]; rfl), fun env5 e5 => w2.ct env5 (by rw [e5]; rfl), fun v env5 e5 => w2.rt v env5 (by rw [e5]; rfl), fun x5 env5 e5 => absurd (by rw [e5]; rfl) w2.ns⟩
      · subst hb
        rw [em] at es
        exact w.ex x env' es msR σ' cls d G' H' own' fo s' fs er stp

/-! ### in the suite: e.f, e.class_name() -/
def xfK (x : Exc) (a d : Addr) (f : Str) (t : Option (Option T)) : FE := fun env => match t with
  | some (some (.xcp a' d' ns ts)) => if x.ns ≠ [] ∧ a' = a ∧ d' = d then optO ((ns.zip ts).lookup f) env else .stk
  | _ => .stk
def xfS (x : Exc) (i : Nat) (a d : Addr) (f : Str) : FE := fun env => xfK x a d f env[i]? env
def cnK (x : Exc) (a d : Addr) (nmOf : Addr → Option Str) (t : Option (Option T)) : FE := fun env => match t with
  | some (some (.ref a')) => if x.ns = [] ∧ a' = a then optO ((nmOf x.C).map .str) env else .stk
  | some (some (.xcp a' d' ns _)) => if x.ns ≠ [] ∧ a' = a ∧ d' = d ∧ ("class_name" : Str) ∉ ns then optO ((nmOf x.C).map .str) env else .stk
  | _ => .stk
def cnS (x : Exc) (i : Nat) (a d : Addr) (nmOf : Addr → Option Str) : FE := fun env => cnK x a d nmOf env[i]? env
theorem dOf_some {x : Exc} {d : Addr} (h : x.ns ≠ []) : dOf x d = some d := by
  unfold dOf
  cases e : x.ns with
  | nil => exact absurd e h
  | cons _ _ => rfl
theorem dOf_none {x : Exc} {d : Addr} (h : x.ns = []) : dOf x d = none := by
  unfold dOf
  rw [h]
theorem no_class_name {ns : List Str} : ∀ {vs : List V}, ("class_name" : Str) ∉ ns → (ns.zip vs).lookup ("class_name" : Str) = none := by
  induction ns with
  | nil => intro vs _; rfl
  | cons n ns ih =>
    intro vs h
    cases vs with
    | nil => rfl
    | cons v vs =>
      have e' : (("class_name" : Str) == n) = false := by
        have : ("class_name" : Str) ≠ n := fun z => h (by rw [← z]; exact List.mem_cons_self)
        simpa using this
      rw [List.zip_cons_cons]
      simp only [List.lookup, e']
      exact ih fun z => h (List.mem_cons_of_mem _ z)
/-- a slot read in any state -/
theorem slot_at {K : PySem.W.Frag} {G H : Hp} {env : Env} {σ : L2.St} {own : List Addr} {t : T} (s : SR K ms env σ G H own) (hm : ms[i]? = some .frz) (e : env[i]? = some (some t)) : ∃ v, σ[i]? = some (some v) ∧ Tr K G t v := by
  obtain ⟨so, as, bs, e1, ⟨v, rfl, r⟩, _⟩ := s.sl.split hm e
  exact ⟨v, e1, (OwR.frz_iff.mp r).1⟩
section
variable {x : Exc} {a dd : Addr} {oe : Obj} {pn : List (Addr × Obj)} {fx : List (Nat × Md)} {W' : WX} {p p2 apos : Pos} {q : Str}
theorem EF.xfS (T : XfC X.K x.C) (hno : findIn X.K (.ref x.C) q = some none) (z : L2N.Zn (.ref x.C) (dOf x dd) oe) (hf : ∃ vs, oe.data = .fields vs) (hm : ms[i]? = some .frz) (hN : X.N[i]? = some n) (hv : Vis X.env.scope n) (hd : (n == ("__debug__" : Str)) = false := by decide)
    (hcd : (n == ("__classdict__" : Str)) = false := by decide) (hb : attributeBase (.Name n p) q X.env (eval (.Name n p) X.env) = eval (.Name n p) X.env := by rfl) : EF (X.suite a ((a, oe) :: pn)) W' fx ms (.Attribute (.Name n p) q pos) ms (VS.xfS x i a dd q) := by
  refine ⟨_, pe_xf (X := X) (a := a) (C := x.C) (cls := .ref x.C) (d := dOf x dd) (pn := pn) (te := tVar i) T hno z.zc hf (pe_var hN hv hd hcd) hb, fun env σ G H own _ s ns Q hok hex => ?_⟩
  cases ee : env[i]? with
  | none => exact absurd (by show VS.xfK x a dd q env[i]? env = _; rw [ee]; rfl) ns
  | some eo =>
    have es : VS.xfS x i a dd q env = VS.xfK x a dd q (some eo) env := by show VS.xfK x a dd q env[i]? env = _; rw [ee]
    match eo, es with
    | some (.xcp a' d' ns' ts), es =>
      by_cases hc : x.ns ≠ [] ∧ a' = a ∧ d' = dd
      · replace es := es.trans (if_pos hc)
        obtain ⟨h1, rfl, rfl⟩ := hc
        obtain ⟨v, ev, tr⟩ := slot_at s hm ee
        cases tr with
        | xcp hd' hl r =>
          cases el : (ns'.zip ts).lookup q with
          | none => exact absurd (by rw [es, el]; rfl) ns
          | some t =>
            obtain ⟨w, e1, h2⟩ := zip_lookup r el
            exact ⟨_, ev, rfl, rfl, d', _, w, dOf_some h1, s.sub _ _ hd', e1, hok t env (by rw [es, el]; rfl) w G H own [] s ⟨h2, rfl⟩ s.nd (.refl fun _ h => h)⟩
      · exact absurd (es.trans (if_neg hc)) ns
    | none, es => exact absurd es ns
    | some .non, es => exact absurd es ns
    | some (.bl _), es => exact absurd es ns
    | some (.int _), es => exact absurd es ns
    | some (.str _), es => exact absurd es ns
    | some (.tup _), es => exact absurd es ns
    | some (.lst _), es => exact absurd es ns
    | some (.dct _ _), es => exact absurd es ns
    | some (.ins _ _ _), es => exact absurd es ns
    | some (.ref _), es => exact absurd es ns
    | some (.ty _), es => exact absurd es ns
    | some (.scr _), es => exact absurd es ns
theorem EF.cnS {nmOf : Addr → Option Str} {fcn : Addr} {st : Stmt} {pl : Sem Bool} (hx : ∀ nm, nmOf x.C = some nm → ErrC X.K x.C nm ∧ findIn X.K (.ref x.C) "class_name" = some (some (.ref fcn))) (N : CnC X.K fcn st) (hdp : X.A.depth < recursionLimit) (z : L2N.Zn (.ref x.C) (dOf x dd) oe) (hf : ∃ vs, oe.data = .fields vs)
    (hm : ms[i]? = some .frz) (hN : X.N[i]? = some n) (hv : Vis X.env.scope n) (hd : (n == ("__debug__" : Str)) = false := by decide) (hcd : (n == ("__classdict__" : Str)) = false := by decide)
    (he : eval (.Call (.Attribute (.Name n p) "class_name" apos) [] [] pos) X.env = (do
      let ov ← eval (.Name n p) X.env
      standAt apos.atName
      let (f, first) ← holding [ov] (getMethod ov "class_name" pl)
      callWith pos f first (backTo pos (starEach [] X.env)) (backToKw pos (keywordEach [] X.env))) := by rfl) :
    EF (X.suite a ((a, oe) :: pn)) W' fx ms (.Call (.Attribute (.Name n p) "class_name" apos) [] [] pos) ms (VS.cnS x i a dd nmOf) := by
  refine ⟨fun σ H Q => ∃ (nm : Str) (od : Option HO), σ[i]? = some (some (.ref a)) ∧ nmOf x.C = some nm ∧ ((x.ns = []) ∨ (x.ns ≠ [] ∧ ∃ fs, H dd = some (.xd fs) ∧ fs.lookup ("class_name" : Str) = none)) ∧ Q (.str nm) H, ⟨fun pins s σ H Q I ⟨nm, _, e1, en, hh, q⟩ => ?_⟩, ?_⟩
  · obtain ⟨E, hfn⟩ := hx nm en
    obtain ⟨ha, _⟩ := I.pin (a, oe) (List.mem_append_left _ List.mem_cons_self)
    obtain ⟨vs, hdt⟩ := hf
    have hnc : notCls oe = true := by unfold notCls; rw [hdt] <;> rfl
    refine PySem.W.methodCall_KW (pl := pl) (thn ((pe_var (X := X.suite a ((a, oe) :: pn)) hN hv hd hcd).run pins s σ H (fun v H1 => v = .ref a ∧ H1 = H) I ⟨_, e1, rfl, rfl⟩) fun u s1 ⟨v, H1, I1, r1, ev, eH⟩ => ?_) he
    subst ev eH
    cases r1
    have J : ∃ od, InstAt s1.heap a oe x.C od ∧ shadowIn od "class_name" = some false := by
      obtain ⟨ha1, _⟩ := I1.pin (a, oe) (List.mem_append_left _ List.mem_cons_self)
      rcases hh with h0 | ⟨h0, fs, hD, hl⟩
      · refine ⟨none, ⟨ha1, z.1, hnc, ?_⟩, rfl⟩
        rw [z.2.1, dOf_none h0]
        trivial
      · have hx2 : ObjOk X.prog X.w H1 s1.heap dd (.xd fs) := I1.hok dd _ hD
        obtain ⟨mA, hns, hr⟩ := hx2
        obtain ⟨od, ho, hlk⟩ := lookIn_ns hns
        refine ⟨some od, ⟨ha1, z.1, hnc, ?_⟩, ?_⟩
        · rw [z.2.1, dOf_some h0]
          exact ho
        · have e0 : mA "class_name" = none := RelO.none_of (by rw [← hl]; exact hr _)
          show (lookIn "class_name" od).map _ = _
          rw [hlk, e0]
          rfl
    obtain ⟨od, J, hs⟩ := J
    exact cn_call (X := X.suite a ((a, oe) :: pn)) E N hfn I1 hdp J hs fun h' tk tk' k => ⟨.str nm, H1, I1.kept (t' := tk') k, ⟨tk, rfl⟩, q⟩
  · intro env σ G H own _ s ns Q hok hex
    cases ee : env[i]? with
    | none => exact absurd (by show VS.cnK x a dd nmOf env[i]? env = _; rw [ee]; rfl) ns
    | some eo =>
      have es : VS.cnS x i a dd nmOf env = VS.cnK x a dd nmOf (some eo) env := by show VS.cnK x a dd nmOf env[i]? env = _; rw [ee]
      match eo, es with
      | some (.ref a'), es =>
        by_cases hc : x.ns = [] ∧ a' = a
        · replace es := es.trans (if_pos hc)
          obtain ⟨h1, rfl⟩ := hc
          obtain ⟨v, ev, tr⟩ := slot_at s hm ee
          cases tr
          cases en : nmOf x.C with
          | none => exact absurd (by rw [es, en]; rfl) ns
          | some nm => exact ⟨nm, none, ev, rfl, .inl h1, hok _ env (by rw [es, en]; rfl) _ G H own [] s ⟨.str nm, rfl⟩ s.nd (.refl fun _ h => h)⟩
        · exact absurd (es.trans (if_neg hc)) ns
      | some (.xcp a' d' ns' ts), es =>
        by_cases hc : x.ns ≠ [] ∧ a' = a ∧ d' = dd ∧ ("class_name" : Str) ∉ ns'
        · replace es := es.trans (if_pos hc)
          obtain ⟨h1, rfl, rfl, hcn⟩ := hc
          obtain ⟨v, ev, tr⟩ := slot_at s hm ee
          cases tr with
          | xcp hd' hl r =>
            cases en : nmOf x.C with
            | none => exact absurd (by rw [es, en]; rfl) ns
            | some nm => exact ⟨nm, none, ev, rfl, .inr ⟨h1, _, s.sub _ _ hd', no_class_name hcn⟩, hok _ env (by rw [es, en]; rfl) _ G H own [] s ⟨.str nm, rfl⟩ s.nd (.refl fun _ h => h)⟩
        · exact absurd (es.trans (if_neg hc)) ns
      | none, es => exact absurd es ns
      | some .non, es => exact absurd es ns
      | some (.bl _), es => exact absurd es ns
      | some (.int _), es => exact absurd es ns
      | some (.str _), es => exact absurd es ns
      | some (.tup _), es => exact absurd es ns
      | some (.lst _), es => exact absurd es ns
      | some (.dct _ _), es => exact absurd es ns
      | some (.ins _ _ _), es => exact absurd es ns
      | some (.ty _), es => exact absurd es ns
      | some (.scr _), es => exact absurd es ns
end
end
end VS
-- VGen
set_option Elab.async false
set_option linter.all false
set_option maxRecDepth 100000
set_option maxHeartbeats 1000000
/-! VGen: short forms for printed derivations; tuples of values stored in several names. -/
namespace VS
open PySem L2 PySem.Spec PyProof.Rows

/-! ### statements by names -/
def sSeq (f g : FS) : FS := fun env => (f env).seq g
def sNil : FS := fun env => .nxt env
def sBrk : FS := fun env => .brk env
def sCnt : FS := fun env => .cnt env
def sNever : FS := fun _ => .stk
section
variable {X : Cx} {W : WX} {fx : List (Nat × Md)} {ms ms1 ms2 ms3 msL msN : List Md} {e : Expr} {es : List Expr} {st : Stmt} {rest : List Stmt} {r md : Md} {pos p : Pos} {x : Str}
theorem BJ.sq {f g : FS} (h : SJ X W fx ms st ms1 msL r f) (k : BJ X W fx ms1 rest ms2 msL r g) : BJ X W fx ms (st :: rest) ms2 msL r (sSeq f g) := .cons h k
theorem BJ.nl : BJ X W fx ms [] ms msL r sNil := .nil
theorem SJ.ps : SJ X W fx ms (.Pass pos) ms msL r sNil := .pass
theorem SJ.bk : SJ X W fx ms (.Break pos) ms1 ms r sBrk := .brk
theorem SJ.ct : SJ X W fx ms (.Continue pos) ms1 ms r sCnt := .cnt
theorem SJ.nv : SJ X W fx ms st ms1 msL r sNever := .never
theorem cok_blk (C : Cok X W) {s : Shared} {H : Hp} {scope : Scope} {cenv : PySem.Env} {fp : List Addr} : Cok (X.blk s H scope cenv fp) W0 := ⟨⟨C.hu, fun _ _ ⟨_, _, _, _, _, _, _, _, _, _, _, _, _, _, _, _, w⟩ => w.elim, PassesOwn.never, C.nd, C.gd⟩, C.calm⟩
theorem Kok.u64 (C : Kok X W) : X.A.units + 64 < cLine := by have := C.hu; omega
theorem Kok.u65 (C : Kok X W) : X.A.units + 65 < cLine := by have := C.hu; omega

/-! ### a written def -/
structure DefFa (K : PySem.W.Frag) (mg : Str → Option Value) (x : Str) (st : Stmt) (ps : List Str) (a : Addr) (fd : FuncData) : Prop where
  F : Fun K x x st a fd
  g : mg x = some (.ref a)
  b : Binds K fd ps []
variable {k k' : Nat} {a : Addr} {fd : FuncData} {ps : List Str} {pms : List Md} {f : List T → Out T} {ds : Stmt} {g : FA}
theorem EJ.cD (C : Cok X W) (D : DefFa X.K X.mg x ds ps a fd) (F : DefOk X.prog X.w X.K X.mg X.base k a fd ps pms r f) (hr : RoomG k' X.A) (hk : k ≤ k') (fo : FxOk fx ms1) (ha : AJ X W fx ms (e :: es) ms1 g) (hz : allFrz pms = true := by rfl) (hg : Gl X x := by rfl)
    (hdb : (x == ("__debug__" : Str)) = false := by decide) (he : starEach (e :: es) X.env = (false, eval e X.env) :: starEach es X.env := by rfl) (hpl : (backTo pos (starEach es X.env)).any (·.1) = false := by rfl) :
    EJ X W fx ms (.Call (.Name x p) (e :: es) [] pos) r ms1 (cal0 f g) := EJ.call C F (hr.mono hk) hg D.g D.F.kp D.b hz fo ha hdb he hpl
theorem EJ.cT (C : Kok X W) (hot : L2H.HotC X) (D : DefFa X.K X.mg x ds ps a fd) (F : DefT X.prog X.w X.K X.mg X.base k a fd ps pms r f) (hr : RoomG k' X.A) (hk : k ≤ k') (fo : FxOk fx ms1) (ha : AJ X W fx ms (e :: es) ms1 g) (hz : allFrz pms = true := by rfl) (hg : Gl X x := by rfl)
    (hdb : (x == ("__debug__" : Str)) = false := by decide) (he : starEach (e :: es) X.env = (false, eval e X.env) :: starEach es X.env := by rfl) (hpl : (backTo pos (starEach es X.env)).any (·.1) = false := by rfl) :
    EJ X W fx ms (.Call (.Name x p) (e :: es) [] pos) r ms1 (cal0 f g) := EJ.callT C hot F (hr.mono hk) hg D.g D.F.kp D.b hz fo ha hdb he hpl
theorem EJ.cD1 {j : Nat} {m : Md} {y : Str} {p2 : Pos} (C : Cok X W) (D : DefFa X.K X.mg x ds ps a fd) (F : DefOk X.prog X.w X.K X.mg X.base k a fd ps (m :: pms) r f) (hr : RoomG k' X.A) (hk : k ≤ k') (fo : FxOk fx ms1) (ha : AJ X W fx ms es ms1 g) (hz : allFrz pms = true := by rfl) (hg : Gl X x := by rfl)
    (hj : ms1[j]? = some m := by rfl) (hN : X.N[j]? = some y := by rfl) (hv : Vis X.env.scope y := by first | exact Or.inl rfl | exact Or.inr (Or.inl rfl) | exact Or.inr (Or.inr rfl)) (hd : (y == ("__debug__" : Str)) = false := by decide) (hcd : (y == ("__classdict__" : Str)) = false := by decide)
    (hdb : (x == ("__debug__" : Str)) = false := by decide) (he : starEach ((.Name y p2) :: es) X.env = (false, eval (.Name y p2) X.env) :: starEach es X.env := by rfl) (hpl : (backTo pos (starEach es X.env)).any (·.1) = false := by rfl) :
    EJ X W fx ms (.Call (.Name x p) ((.Name y p2) :: es) [] pos) r ms1 (cal1 f j g) := EJ.call1 C F (hr.mono hk) hg D.g D.F.kp D.b hz fo ha hj hN hv hd hcd hdb he hpl
/-- a global of the written part -/
structure GlFa (K : PySem.W.Frag) (mg : Str → Option Value) (x : Str) (t : T) : Prop where
  ex : ∃ u v, mg x = some u ∧ RelV v u ∧ ∀ G, Tr K G t v
theorem EF.gl {t : T} (D : GlFa X.K X.mg x t) (hg : Gl X x := by rfl) (hd : (x == ("__debug__" : Str)) = false := by decide) : EF X W fx ms (.Name x pos) ms (VS.cst t) := by
  obtain ⟨u, v, h1, h2, h3⟩ := D.ex
  exact EF.glob hg h1 h2 h3 hd
/-- a def with no promise -/
theorem DefOk.none {P : Program} {w : World} {K : PySem.W.Frag} {mg : Str → Option Value} {base : Heap} {r : Md} : DefOk P w K mg base k a fd ps pms r (fun _ => .stk) :=
  ⟨⟨fun vs H Q E h => absurd rfl (let ⟨_, _, _, _, _, ns, _⟩ := h; ns), fun A outer s H args us vs Q E _ _ _ _ _ h => absurd rfl (let ⟨_, _, _, _, _, ns, _⟩ := h; ns)⟩, fun ts h => absurd rfl h⟩
end

/-! ### values held in several ways -/
inductive OwM (K : PySem.W.Frag) (G H : Hp) : List Md → List T → List V → List Addr → Prop
  | nil : OwM K G H [] [] [] []
  | cons {m : Md} {t : T} {v : V} {as : List Addr} {mds : List Md} {ts : List T} {vs : List V} {bs : List Addr} (h : OwR K G H m t v as) (r : OwM K G H mds ts vs bs) : OwM K G H (m :: mds) (t :: ts) (v :: vs) (as ++ bs)
section
variable {K : PySem.W.Frag} {G H G' H' : Hp}
theorem OwM.keep (g : ∀ a o, G a = some o → G' a = some o) : ∀ {mds : List Md} {ts : List T} {vs : List V} {as : List Addr}, OwM K G H mds ts vs as → (∀ a ∈ as, H' a = H a ∧ G' a = none) → OwM K G' H' mds ts vs as
  | _, _, _, _, .nil, _ => .nil
  | _, _, _, _, .cons h r, k => .cons (h.keep g fun a ha => k a (List.mem_append_left _ ha)) (OwM.keep g r fun a ha => k a (List.mem_append_right _ ha))
theorem OwM.at : ∀ {mds : List Md} {ts : List T} {vs : List V} {as : List Addr}, OwM K G H mds ts vs as → ∀ a ∈ as, G a = none ∧ H a ≠ none
  | _, _, _, _, .nil, a, ha => nomatch ha
  | _, _, _, _, .cons h r, a, ha => (List.mem_append.mp ha).elim (h.at a) (OwM.at r a)
theorem OwM.lens : ∀ {mds : List Md} {ts : List T} {vs : List V} {as : List Addr}, OwM K G H mds ts vs as → mds.length = ts.length ∧ ts.length = vs.length
  | _, _, _, _, .nil => ⟨rfl, rfl⟩
  | _, _, _, _, .cons _ r => ⟨congrArg (· + 1) r.lens.1, congrArg (· + 1) r.lens.2⟩
/-- what stands apart stays -/
theorem Step.apart {own as : List Addr} {o2 : List Addr} (st : Step G H own G' H' o2) (at_ : ∀ a ∈ as, G a = none ∧ H a ≠ none) (dis : ∀ a ∈ as, a ∉ own) : ∀ a ∈ as, H' a = H a ∧ G' a = none := fun a ha => by
  obtain ⟨g, h⟩ := at_ a ha
  refine ⟨?_, ?_⟩
  · cases e : H a with
    | none => exact absurd e h
    | some o => exact st.fr a o e (dis a ha)
  · cases e : G' a with
    | none => rfl
    | some o =>
      rcases st.gn a (by rw [e]; simp) with z | z | z
      · exact absurd g z
      · exact absurd z (dis a ha)
      · exact absurd z h
theorem Step.beside {own as o2 : List Addr} (st : Step G H own G' H' o2) : Step G H (as ++ own) G' H' (as ++ o2) :=
  ⟨st.gm, fun a o e n => st.fr a o e fun z => n (List.mem_append_right _ z), fun a ha => (List.mem_append.mp ha).elim (fun z => .inl (List.mem_append_left _ z)) fun z => (st.nw a z).imp (List.mem_append_right _) id, fun a ha => (st.gn a ha).imp id fun z => z.imp (List.mem_append_right _) id, st.no⟩
end
def setE (env : Env) : List Nat → List T → Env
  | j :: js, t :: ts => setE (env.set j (some t)) js ts
  | _, _ => env
def setM (ms : List Md) : List Nat → List Md → List Md
  | j :: js, m :: mds => setM (ms.set j m) js mds
  | _, _ => ms
def setV (σ : L2.St) : List Nat → List V → L2.St
  | j :: js, v :: vs => setV (σ.set j (some v)) js vs
  | _, _ => σ
theorem SR.setAll {K : PySem.W.Frag} {G H : Hp} : ∀ {js : List Nat} {mds : List Md} {ts : List T} {vs : List V} {as : List Addr} {ms : List Md} {env : Env} {σ : L2.St} {own : List Addr}, SR K ms env σ G H own → OwM K G H mds ts vs as → js.length = mds.length → (∀ j ∈ js, j < env.length) → (as ++ own).Nodup →
    ∃ own', SR K (setM ms js mds) (setE env js ts) (setV σ js vs) G H own' ∧ (∀ x ∈ own', x ∈ as ++ own) ∧ OutOf js σ (setV σ js vs)
  | [], _, _, _, _, _, _, σ, own, s, m, hl, _, _ => by
    cases m with
    | nil => exact ⟨own, s, fun x h => by simpa using h, .refl σ⟩
    | cons _ _ => simp at hl
  | j :: js, _, _, _, _, ms, env, σ, own, s, m, hl, hj, nd => by
    cases m with
    | nil => simp at hl
    | @cons m t v as1 mds ts vs bs h r =>
      rw [List.append_assoc] at nd
      have n1 := List.nodup_append.mp nd
      have nb := List.nodup_append.mp n1.2.1
      have nd1 : (as1 ++ own).Nodup := List.nodup_append.mpr ⟨n1.1, nb.2.1, fun a ha b hb => n1.2.2 a ha b (List.mem_append_right _ hb)⟩
      obtain ⟨own1, s1, sb1⟩ := s.set (hj j List.mem_cons_self) h nd1
      have nd2 : (bs ++ own1).Nodup := List.nodup_append.mpr ⟨nb.1, s1.nd, fun a ha b hb e => by
        rcases List.mem_append.mp (sb1 b hb) with z | z
        · exact n1.2.2 b z a (List.mem_append_left _ ha) e.symm
        · exact nb.2.2 a ha b z e⟩
      obtain ⟨own2, s2, sb2, o2⟩ := SR.setAll (js := js) s1 r (by simpa using hl) (fun i hi => by rw [List.length_set]; exact hj i (List.mem_cons_of_mem _ hi)) nd2
      refine ⟨own2, s2, fun x hx => ?_, ?_⟩
      · rcases List.mem_append.mp (sb2 x hx) with z | z
        · simp [z]
        · rcases List.mem_append.mp (sb1 x z) with y | y
          · simp [y]
          · simp [y]
      · exact OutOf.trans (tv := [j]) .set o2
section
variable {X : Cx} {W : WX} {fx : List (Nat × Md)} {ms ms1 ms2 ms3 msL msN : List Md} {e : Expr} {es : List Expr} {r md : Md} {mds : List Md} {pos p : Pos} {x : Str}
def ArJ (X : Cx) (W : WX) (fx : List (Nat × Md)) (ms : List Md) (es : List Expr) (mds ms' : List Md) (f : FA) : Prop :=
  ∃ t : TA, PA X es t ∧ RJ X.K W fx (fun _ => True) ms ms' (fun G H a b as => OwM X.K G H mds a b as) t f
theorem ArJ.nil : ArJ X W fx ms [] [] ms aNil := ⟨_, pa_nil, fun env σ G H own _ s ns Q hok _ => hok [] env rfl [] G H own [] s .nil s.nd (.refl fun _ h => h)⟩
theorem ArJ.cons {f : FE} {g : FA} (ha : EJ X W fx ms e md ms1 f) (hr : ArJ X W fx ms1 es mds ms2 g) (hs : starEach (e :: es) X.env = (false, eval e X.env) :: starEach es X.env := by rfl) : ArJ X W fx ms (e :: es) (md :: mds) ms2 (aCons f g) := by
  obtain ⟨t, p, rj⟩ := ha
  obtain ⟨t2, p2, rj2⟩ := hr
  refine ⟨_, pa_cons p p2 hs, fun env σ G H own _ s ns Q hok hex => ?_⟩
  refine rj env σ G H own trivial s (fun e => ns (by show (f env).bind _ = _; rw [e]; rfl)) _ (fun x env1 e1 v G1 H1 own1 as1 s1 rel1 nd1 st1 => ?_) fun x env1 e1 => hex x env1 (by show (f env).bind _ = _; rw [e1]; rfl)
  have eb : aCons f g env = (g env1).bind fun xs env => .ok (x :: xs) env := by show (f env).bind _ = _; rw [e1]; rfl
  have n1 := List.nodup_append.mp nd1
  refine rj2 env1 σ G1 H1 own1 trivial s1 (fun e => ns (by rw [eb, e]; rfl)) _ (fun xs env2 e2 vs G2 H2 own2 as2 s2 rel2 nd2 st2 => ?_) fun x env2 e2 msR cls d G' H' own' fo s' er st2 => ?_
  · have kp := st2.apart rel1.at fun a ha hb => n1.2.2 a ha a hb rfl
    have n2 := List.nodup_append.mp nd2
    have dis : ∀ a ∈ as1, a ∉ as2 ++ own2 := fun a ha hb => by
      rcases st2.nw a hb with z | z
      · exact n1.2.2 a ha a z rfl
      · exact (rel1.at a ha).2 z
    refine hok (x :: xs) env2 (by rw [eb, e2]; rfl) (v :: vs) G2 H2 own2 (as1 ++ as2) s2 (.cons (rel1.keep st2.gm kp) rel2) ?_ ?_
    · rw [List.append_assoc]
      exact List.nodup_append.mpr ⟨n1.1, nd2, fun a ha b hb e => dis a ha (e ▸ hb)⟩
    · rw [List.append_assoc]
      exact st1.trans st2.beside
  · exact hex x env2 (by rw [eb, e2]; rfl) msR cls d G' H' own' fo s' er ((st1.trans (st2.beside (as := as1))).own fun z hz => List.mem_append_right _ hz)
/-- several names, all locals -/
def GoJ (X : Cx) (js : List Nat) (ts : List Expr) : Prop := ∃ t : TGs, PGs X ts t ∧ ∀ (vs : List V) (σ : L2.St) (H : Hp) (Q : L2.St → Hp → Prop), vs.length = js.length → Q (setV σ js vs) H → t vs σ H Q
theorem GoJ.nil : GoJ X [] [] := ⟨_, pgs_nil, fun vs σ H Q hl q => by
  cases vs with
  | nil => exact ⟨rfl, q⟩
  | cons _ _ => simp at hl⟩
theorem GoJ.cons {j : Nat} {js : List Nat} {ts : List Expr} (hN : X.N.Nodup) (k : GoJ X js ts) (hi : X.N[j]? = some x := by rfl) (hx : Loc X.env.scope x := by first | exact Or.inl rfl | exact Or.inr rfl) (hf : X.fn x = true ∨ X.env.scope.names.lookup x = some .local := by first | exact .inl rfl | exact .inr rfl | assumption)
    (hs : (assignEach ((.Name x p) :: ts) X.env).map (·.2) = assign (.Name x p) X.env :: (assignEach ts X.env).map (·.2) := by rfl) : GoJ X (j :: js) ((.Name x p) :: ts) := by
  obtain ⟨t, pg, h⟩ := k
  refine ⟨_, pgs_cons (pg_name hN hi hx hf) pg hs, fun vs σ H Q hl q => ?_⟩
  cases vs with
  | nil => simp at hl
  | cons v vs => exact ⟨v, vs, rfl, h vs (σ.set j (some v)) H Q (by simpa using hl) q⟩
def sParO (js : List Nat) (f : FA) : FS := fun env => (f env).bindS fun vs env => if vs.length = js.length ∧ vs.length ≤ 1000 ∧ (js.all fun j => decide (j < env.length)) = true then .nxt (setE env js vs) else .stk
/-- a, .. = (x, ..): a tuple of values, each held in its way -/
theorem SJ.parO {js : List Nat} {ts : List Expr} {f : FA} {kt k2 : Nat} {pt pt2 : Pos} (C : Cok X W) (ha : ArJ X W fx ms es mds ms1 f) (hg : GoJ X js ts) (hn : (assignEach ts X.env).length = js.length := by rfl) (hm : js.length = mds.length := by rfl)
    (hst : (assignEach ts X.env).findIdx? (·.1) = none := by rfl) (nf : noFx fx js = true := by rfl) (hs : swapsWithSole [.Tuple ts kt pt] (.Tuple es k2 pt2) pos.line X.env = pure false := by rfl) (hw : swappedStores [.Tuple ts kt pt] (.Tuple es k2 pt2) X.env = pure none := by rfl)
    (h1 : (assignEach [.Tuple ts kt pt] X.env).map (·.2) = [assign (.Tuple ts kt pt) X.env] := by rfl) :
    SJ X W fx ms (.Assign [.Tuple ts kt pt] (.Tuple es k2 pt2) pos) (setM ms1 js mds) msL r (sParO js f) := by
  obtain ⟨t, p, rj⟩ := ha
  obtain ⟨tg, pg, hgo⟩ := hg
  refine PS.weak (ps_asg (pe_tup p) (pg_tup C.calm pg hn hst) hs hw h1) fun D σ H ⟨env, G, own, s, w⟩ => ?_
  show t σ H _
  refine Wants.expr rj s w fun vs env1 e1 us G1 H1 own1 as s1 rel nd stp => ?_
  have e2 : sParO js f env = if vs.length = js.length ∧ vs.length ≤ 1000 ∧ (js.all fun j => decide (j < env1.length)) = true then .nxt (setE env1 js vs) else .stk := by show Out.bindS _ _ = _; rw [e1]; rfl
  by_cases hc : vs.length = js.length ∧ vs.length ≤ 1000 ∧ (js.all fun j => decide (j < env1.length)) = true
  · obtain ⟨l1, l2⟩ := rel.lens
    refine ⟨by rw [← l2]; exact Nat.le_of_lt (small1000 hc.2.1), fun q hq => ?_⟩
    have atN : ∀ a ∈ as, a ≠ q := fun a ha z => (rel.at a ha).2 (z ▸ hq)
    have gq : G1 q = none := upd_none (o := .tup us) s1.sub hq
    have st2 : Step G1 H1 [] G1 (upd H1 q (.tup us)) [] := (Step.newO hq).own fun _ h => nomatch h
    have sub2 : ∀ a o, G1 a = some o → upd H1 q (.tup us) a = some o := sub_newO s1.sub hq
    have s2 := s1.keep st2 sub2
    have rel2 : OwM X.K G1 (upd H1 q (.tup us)) mds vs us as := rel.keep (fun _ _ h => h) fun a ha => ⟨upd_ne (atN a ha), (rel.at a ha).1⟩
    obtain ⟨own3, s3, sb3, o3⟩ := s2.setAll rel2 hm (fun j hj => by simpa using List.all_eq_true.mp hc.2.2 j hj) nd
    refine ⟨q, us, rfl, .inl (.inl upd_same), by rw [← l2, hc.1], hgo us σ _ _ (by rw [← l2, hc.1]) ?_⟩
    exact w.nx _ (by rw [e2, if_pos hc]) _ G1 _ own3 s3 (o3.fxs nf) ((stp.trans (by simpa using (st2.lift (own := as ++ own1)))).own sb3)
  · exact absurd (by rw [e2, if_neg hc]) w.ns
end
end VS
namespace VS
open PySem L2
theorem fr_all {vs : List Nat} {ms : List Md} (h : (vs.all fun v => match ms[v]? with | some .frz => true | _ => false) = true) : ∀ v ∈ vs, ms[v]? = some .frz := fun v hv => by
  have q := List.all_eq_true.mp h v hv
  split at q
  · assumption
  · cases q
def gNl (xs : List T) (env : Env) : Option Env := match xs with
  | [] => some env
  | _ => none
theorem GsJ.nl {X : Cx} {ms : List Md} : GsJ X [] ms [] ms gNl := GsJ.nil
def mtIn (Cs : List Addr) : Addr → Option Bool := fun C => if C ∈ Cs then some true else none
theorem mtIn_mem {Cs : List Addr} {C : Addr} (h : mtIn Cs C = some true) : C ∈ Cs := by
  unfold mtIn at h
  split at h
  · assumption
  · cases h
end VS
-- VHot
set_option Elab.async false
set_option linter.all false
set_option maxRecDepth 100000
set_option maxHeartbeats 1000000
/-! VHot: taking a tuple apart while an error is handled. -/
namespace VS
open PySem L2 PyProof.Rows HotX
section
variable {prog : Program} {w : World} {A : Around} {E : Value → Shared → Prop} {s : Shared}
theorem nextT_endH {it t x1 : Addr} {i : Nat} {items : Array Value} {Q : Option Value → Shared → Prop} (hot : HotAt A x1 s.heap) (hne : x1 ≠ it)
    (hit : IsTupIter s.heap it t i) (ht : IsTup s.heap t items) (hx : items[i]? = none)
    (hQ : ∀ h', Heap.ExtBut it s.heap h' → Q none { s with heap := h' }) : wpAny (model prog w) A (pyNext (.ref it)) Q E s := by
  obtain ⟨o, ho, hc, hd⟩ := id hit
  obtain ⟨ol, hol, _, nl, hdl⟩ := ht
  obtain ⟨hh, o1, vs1, h1, d1, c1⟩ := hot
  unfold pyNext
  refine wpAny_bind (wpAny_attempt (wpAny_callSpecial?_slot (name := Str.ofString "__next__") hit.typeIs slot_tupleiter_next
    (wpAny_call_entry slot_tupleiter_next hit.typeIs entry_tupleiter_next ?_ (args_tupleiter_next _))))
  show wpAny _ _ (field (.ref it) 0 >>= _) _ _ s
  refine wpAny_bind (wpAny_field ho hd (x := .ref t) rfl ?_)
  show wpAny _ _ (if (Value.ref t == Value.none) = true then _ else _) _ _ s
  rw [if_neg (show ¬ ((Value.ref t == Value.none) = true) from Bool.false_ne_true)]
  show wpAny _ _ (field (.ref it) 1 >>= _) _ _ s
  refine wpAny_bind (wpAny_field ho hd (x := .int i 0) rfl ?_)
  show wpAny _ _ (seqItems? (.ref t) >>= _) _ _ s
  refine wpAny_bind (wpAny_seqItems hol hdl ?_)
  simp only [Int.toNat_natCast, hx]
  refine wpAny_bind (wpAny_rule (wpAny_bind (wpAny_setField ho hd (by simp) ?_)))
  show wpAny _ _ (newExc (.type "StopIteration") [] >>= _) _ _ _
  refine wpAny_bind ?_
  simp only [newExc, newTuple]
  have g1 : ∀ {f : Obj → Obj}, (s.heap.update it f).get? x1 = some o1 := fun {f} => by rw [Heap.get?_update_other _ _ hne.symm]; exact h1
  refine wpAny_bind (wpAny_newObj_type ?_ (by size_fits))
  refine wpAny_bind (m := firstArgMember _ _) (wpAny_of_eq (a := Value.none) (by first | rfl | (simp only [firstArgMember]; rfl)) ?_)
  refine wpAny_newObj_type ?_ (by size_fits)
  refine raiseNew_hot ⟨hh, o1, vs1, Heap.get?_push_of_some _ (Heap.get?_push_of_some _ g1), d1, c1⟩ (Nat.ne_of_lt (Heap.lt_size (Heap.get?_push_of_some _ g1))) (Heap.get?_push_size _ rfl) rfl (by first | (simp; done) | (simp; omega) | (simp only [Array.size_append]; simp; omega)) ?_
  refine wpAny_bind (wpAny_isInstance (T := "StopIteration") (b := true) ⟨_, Heap.get?_update_self _ (Heap.get?_push_size _ rfl) rfl, rfl⟩ isSubtype_stop ?_)
  refine wpAny_pure (hQ _ fun b o e hb => ?_)
  have g2 : ∀ {f : Obj → Obj}, (s.heap.update it f).get? b = some o := fun {f} => by rw [Heap.get?_update_other _ _ (fun h => e h.symm)]; exact hb
  rw [Heap.get?_update_other _ _ (Nat.ne_of_gt (Heap.lt_size (Heap.get?_push_of_some _ g2)))]
  exact Heap.get?_push_of_some _ (Heap.get?_push_of_some _ g2)
theorem unpackItemsH {t x1 : Addr} {items : Array Value} {Q : List Value → Shared → Prop} (hot : HotAt A x1 s.heap) (ht : IsTup s.heap t items)
    (hQ : ∀ h', Heap.ExtBut s.heap.objs.size s.heap h' → Q items.toList { s with heap := h' }) : wpAny (model prog w) A (unpackItems (.ref t) items.size none) Q E s := by
  have hlt : t ≠ s.heap.objs.size := by obtain ⟨o, ho, _⟩ := ht; exact Nat.ne_of_lt (Heap.lt_size ho)
  have hlx : x1 ≠ s.heap.objs.size := by obtain ⟨_, o, _, ho, _⟩ := hot; exact Nat.ne_of_lt (Heap.lt_size ho)
  unfold unpackItems
  refine wpAny_bind ?_
  · unfold notIterableAtAll
    refine wpAny_bind (wpAny_specialOf ht.typeIs slot_tuple_iter.lookup ?_)
    refine wpAny_pure ?_
    simp only [Bool.false_eq_true, if_false]
    refine wpAny_bind (wpAny_holding (iter_tuple ht ?_))
    refine wpAny_bind (wpAny_holding (draw_tuple hlt items.size 0 _ _ ⟨_, Heap.get?_push_size _ rfl, rfl, rfl⟩ (ht.push _) (by omega) fun h₁ hit₁ hs₁ => ?_))
    have hall : List.take items.size (List.drop 0 items.toList) = items.toList := by
      rw [List.drop_zero]; exact List.take_of_length_le (by simp)
    rw [hall]
    rw [if_neg (by simp)]
    have ht₁ : IsTup h₁ t items := (ht.push _).extBut hs₁.extBut hlt
    have hot₁ : HotAt A x1 h₁ := by
      obtain ⟨hh, o, vs, ho, d, c⟩ := hot
      exact ⟨hh, o, vs, hs₁.extBut x1 o hlx (Heap.get?_push_of_some _ ho), d, c⟩
    refine wpAny_bind (wpAny_holding (nextT_endH hot₁ hlx hit₁ ht₁ (by simp) fun h₂ he₂ => ?_))
    simp only [Option.isSome_none, Bool.false_eq_true, if_false]
    refine wpAny_pure (hQ h₂ fun b o hb e => he₂ b o hb (hs₁.extBut b o hb (Heap.get?_push_of_some _ e)))
theorem assign_tupH {env : PySem.Env} {elts : List Expr} {k} {pos : Pos} {t x1 : Addr} {items : Array Value} {Q : Unit → Shared → Prop} (hot : HotAt A x1 s.heap) (ht : IsTup s.heap t items)
    (hn : (assignEach elts env).length = items.size) (hstar : (assignEach elts env).findIdx? (·.1) = none)
    (h : ∀ h', Heap.ExtBut s.heap.objs.size s.heap h' → wpAny (model prog w) A (assignInOrder ((assignEach elts env).map (·.2)) items.toList) Q E { s with heap := h' }) :
    wpAny (model prog w) A (assign (.Tuple elts k pos) env (.ref t)) Q E s := by
  rw [assign_Tuple]
  refine wpAny_bind (wpAny_standAt ?_)
  unfold unpack
  rw [hn, hstar]
  exact wpAny_bind (wpAny_holding (unpackItemsH hot ht h))
end
section
variable {X : Cx} {W : WX} {fx : List (Nat × Md)} {ms ms1 : List Md} {es : List Expr} {pos : Pos}
theorem pg_tupH {k : Nat} {t : TGs} {n : Nat} (hc : L2H.HotC X) (h : PGs X es t)
    (hn : (assignEach es X.env).length = n := by rfl) (hst : (assignEach es X.env).findIdx? (·.1) = none := by rfl) : PG X (.Tuple es k pos) (gTup X.K n t) := by
  refine ⟨fun pins s σ H v u Q I r hw => ?_⟩
  obtain ⟨a, xs, e1, hq, hl, hw⟩ := hw
  subst e1
  cases r
  obtain ⟨its, rv, ht, hz⟩ := I.tuple hq
  obtain ⟨x1, hot⟩ := hc.at I
  refine assign_tupH hot ht (by simp [hn, ← hl, rv.length]) hst fun h' hx => ?_
  have I1 : Inv X pins σ H { s with heap := h' } := I.kept (t' := s.toks) fun b o e => hx b o (Nat.ne_of_lt (Heap.lt_size e)) e
  exact h.run pins _ σ H xs _ Q I1 (by simpa using rv) hw
theorem GJ.tupH {tv : List Nat} {n k : Nat} {gs : List T → Env → Option Env} (hc : L2H.HotC X) (h : GsJ X tv ms es ms1 gs) (hn : (assignEach es X.env).length = n := by rfl) (hst : (assignEach es X.env).findIdx? (·.1) = none := by rfl) : GJ X tv ms (.Tuple es k pos) ms1 (gTu gs n) := by
  obtain ⟨t, p, q1⟩ := h
  refine ⟨_, pg_tupH hc p hn hst, fun x v env σ G H own env' s h e Q q => ?_⟩
  cases h <;> simp only [gTu] at e <;> try cases e
  rename_i hq hr
  split at e
  · rename_i hl
    exact ⟨_, _, rfl, SqT.sub s.sub hq, by rw [← hr.length]; exact hl, q1 _ _ env σ G H own env' s hr e Q q⟩
  · cases e
theorem SJ.nvE {st : Stmt} {msL : List Md} {r : Md} : SJ X W fx ms st ms msL r sNever := .never
end
end VS
-- K64p
set_option Elab.async false
set_option linter.all false
set_option maxRecDepth 100000
set_option maxHeartbeats 0
namespace K64
open PySem L2 VS
def prog : Program := PySem.Challenge.pw_mergewright_k64_errors_and_tokens
abbrev topS (i : Nat) : Stmt := (prog.main.body[i]?).getD (.Pass ⟨0, 0, 0, 0⟩)
def clsBody (s : Stmt) : List Stmt := match s with
  | .ClassDef _ _ _ b _ _ _ _ _ _ _ => b
  | _ => []
abbrev subS (i j : Nat) : Stmt := ((clsBody (topS i))[j]?).getD (.Pass ⟨0, 0, 0, 0⟩)
abbrev s_is_name : Stmt := topS 13
abbrev s_end_of_run : Stmt := topS 18
abbrev s_is_figures : Stmt := topS 19
abbrev s_run_token : Stmt := topS 20
abbrev s_token_at : Stmt := topS 21
abbrev s_scanned : Stmt := topS 22
abbrev s_tokens : Stmt := topS 23
abbrev s__law_bag : Stmt := topS 25
abbrev s__law_take : Stmt := topS 26
abbrev s__law_some : Stmt := topS 27
abbrev s__law_alike : Stmt := topS 28
abbrev s__law_test_text : Stmt := topS 29
abbrev s__law_line_rows : Stmt := topS 30
abbrev s__law_rows_of : Stmt := topS 31
abbrev s__law_part_text : Stmt := topS 32
abbrev s__law_term_text : Stmt := topS 33
abbrev s__law_claim_text : Stmt := topS 34
abbrev s__law_plan_text : Stmt := topS 35
abbrev s__law_take_one : Stmt := topS 36
abbrev s__law_not : Stmt := topS 37
abbrev s__law_both : Stmt := topS 38
abbrev s__law_rest : Stmt := topS 39
abbrev s__law_three : Stmt := topS 40
abbrev s__law_family : Stmt := topS 41
abbrev s__law_drawn_term : Stmt := topS 42
abbrev s__law_statements : Stmt := topS 43
abbrev s__law_replaced : Stmt := topS 44
abbrev s__law_turned_test : Stmt := topS 45
abbrev s__law_bent_statement : Stmt := topS 46
abbrev s__law_bent : Stmt := topS 47
abbrev s__law_drawn_plan : Stmt := topS 48
abbrev s__law_error : Stmt := topS 49
abbrev s__law_raised : Stmt := topS 50
abbrev s__law_runs : Stmt := topS 51
abbrev s_law : Stmt := topS 52
abbrev s_class_name : Stmt := subS 1 0
abbrev s_init_BadText : Stmt := subS 2 0
abbrev s_init_BadKind : Stmt := subS 3 0
abbrev s_init_BadLists : Stmt := subS 4 0
abbrev s_init_NoCommand : Stmt := subS 5 0
abbrev s_init_TooLarge : Stmt := subS 7 0
def G_LETTERS : T := .str "abcdefghijklmnopqrstuvwxyz"
def G_DIGITS : T := .str "0123456789"
def G_MOST_LETTERS : T := .int 8
def G_RESERVED : T := .tup [.str "and", .str "ascends", .str "below", .str "claim", .str "compares", .str "down", .str "drop", .str "else", .str "empty", .str "end", .str "ends", .str "flag", .str "greatest", .str "if", .str "in", .str "is", .str "keep", .str "least", .str "less", .str "not", .str "or", .str "out", .str "plus", .str "put", .str "same", .str "skip", .str "up", .str "while"]
def G_MOST_SIGNS : T := .int 6000
def G_MOST_FIGURES : T := .int 2
def G_MARKS : T := .str "()"
structure Ad where
  a_is_name : Addr
  fd_is_name : FuncData
  a_end_of_run : Addr
  fd_end_of_run : FuncData
  a_is_figures : Addr
  fd_is_figures : FuncData
  a_run_token : Addr
  fd_run_token : FuncData
  a_token_at : Addr
  fd_token_at : FuncData
  a_scanned : Addr
  fd_scanned : FuncData
  a_tokens : Addr
  fd_tokens : FuncData
  a__law_bag : Addr
  fd__law_bag : FuncData
  a__law_take : Addr
  fd__law_take : FuncData
  a__law_some : Addr
  fd__law_some : FuncData
  a__law_alike : Addr
  fd__law_alike : FuncData
  a__law_test_text : Addr
  fd__law_test_text : FuncData
  a__law_line_rows : Addr
  fd__law_line_rows : FuncData
  a__law_rows_of : Addr
  fd__law_rows_of : FuncData
  a__law_part_text : Addr
  fd__law_part_text : FuncData
  a__law_term_text : Addr
  fd__law_term_text : FuncData
  a__law_claim_text : Addr
  fd__law_claim_text : FuncData
  a__law_plan_text : Addr
  fd__law_plan_text : FuncData
  a__law_take_one : Addr
  fd__law_take_one : FuncData
  a__law_not : Addr
  fd__law_not : FuncData
  a__law_both : Addr
  fd__law_both : FuncData
  a__law_rest : Addr
  fd__law_rest : FuncData
  a__law_three : Addr
  fd__law_three : FuncData
  a__law_family : Addr
  fd__law_family : FuncData
  a__law_drawn_term : Addr
  fd__law_drawn_term : FuncData
  a__law_statements : Addr
  fd__law_statements : FuncData
  a__law_replaced : Addr
  fd__law_replaced : FuncData
  a__law_turned_test : Addr
  fd__law_turned_test : FuncData
  a__law_bent_statement : Addr
  fd__law_bent_statement : FuncData
  a__law_bent : Addr
  fd__law_bent : FuncData
  a__law_drawn_plan : Addr
  fd__law_drawn_plan : FuncData
  a__law_error : Addr
  fd__law_error : FuncData
  a__law_raised : Addr
  fd__law_raised : FuncData
  a__law_runs : Addr
  fd__law_runs : FuncData
  a_law : Addr
  fd_law : FuncData
  C_MergeError : Addr
  C_BadText : Addr
  C_BadKind : Addr
  C_BadLists : Addr
  C_NoCommand : Addr
  C_Nothing : Addr
  C_TooLarge : Addr
  i_BadText : Addr
  i_BadKind : Addr
  i_BadLists : Addr
  i_NoCommand : Addr
  i_TooLarge : Addr
  cn : Addr
def Ad.Cs (A : Ad) : List Addr := [A.C_MergeError, A.C_BadText, A.C_BadKind, A.C_BadLists, A.C_NoCommand, A.C_Nothing, A.C_TooLarge]
def Ad.M_MergeError (A : Ad) : List Addr := [A.C_MergeError, A.C_BadText, A.C_BadKind, A.C_BadLists, A.C_NoCommand, A.C_Nothing, A.C_TooLarge]
def Ad.M_Nothing (A : Ad) : List Addr := [A.C_Nothing]
def Ad.M_TooLarge (A : Ad) : List Addr := [A.C_TooLarge]
def Ad.nmOf (A : Ad) : Addr → Option Str := fun C => if C = A.C_MergeError then some "MergeError" else if C = A.C_BadText then some "BadText" else if C = A.C_BadKind then some "BadKind" else if C = A.C_BadLists then some "BadLists" else if C = A.C_NoCommand then some "NoCommand" else if C = A.C_Nothing then some "Nothing" else if C = A.C_TooLarge then some "TooLarge" else none
theorem sub_MergeError {A : Ad} {C : Addr} (h : mtIn A.M_MergeError C = some true) : C ∈ A.Cs := by
  have q := mtIn_mem h
  simp only [Ad.M_MergeError, List.mem_cons, List.not_mem_nil, or_false] at q
  simp only [Ad.Cs, List.mem_cons, List.not_mem_nil, or_false]
  grind
theorem sub_Nothing {A : Ad} {C : Addr} (h : mtIn A.M_Nothing C = some true) : C ∈ A.Cs := by
  have q := mtIn_mem h
  simp only [Ad.M_Nothing, List.mem_cons, List.not_mem_nil, or_false] at q
  simp only [Ad.Cs, List.mem_cons, List.not_mem_nil, or_false]
  grind
theorem sub_TooLarge {A : Ad} {C : Addr} (h : mtIn A.M_TooLarge C = some true) : C ∈ A.Cs := by
  have q := mtIn_mem h
  simp only [Ad.M_TooLarge, List.mem_cons, List.not_mem_nil, or_false] at q
  simp only [Ad.Cs, List.mem_cons, List.not_mem_nil, or_false]
  grind
structure Txt (P : Program) (K : PySem.W.Frag) (mg : Str → Option Value) (A : Ad) : Prop where
  is_name : DefFa K mg "is_name" s_is_name ["thing"] A.a_is_name A.fd_is_name
  end_of_run : DefFa K mg "end_of_run" s_end_of_run ["text", "begin"] A.a_end_of_run A.fd_end_of_run
  is_figures : DefFa K mg "is_figures" s_is_figures ["run"] A.a_is_figures A.fd_is_figures
  run_token : DefFa K mg "run_token" s_run_token ["run"] A.a_run_token A.fd_run_token
  token_at : DefFa K mg "token_at" s_token_at ["text", "begin"] A.a_token_at A.fd_token_at
  scanned : DefFa K mg "scanned" s_scanned ["text"] A.a_scanned A.fd_scanned
  tokens : DefFa K mg "tokens" s_tokens ["text"] A.a_tokens A.fd_tokens
  _law_bag : DefFa K mg "_law_bag" s__law_bag ["script"] A.a__law_bag A.fd__law_bag
  _law_take : DefFa K mg "_law_take" s__law_take ["bag", "many"] A.a__law_take A.fd__law_take
  _law_some : DefFa K mg "_law_some" s__law_some ["bag", "things"] A.a__law_some A.fd__law_some
  _law_alike : DefFa K mg "_law_alike" s__law_alike ["found", "wanted"] A.a__law_alike A.fd__law_alike
  _law_test_text : DefFa K mg "_law_test_text" s__law_test_text ["test"] A.a__law_test_text A.fd__law_test_text
  _law_line_rows : DefFa K mg "_law_line_rows" s__law_line_rows ["one"] A.a__law_line_rows A.fd__law_line_rows
  _law_rows_of : DefFa K mg "_law_rows_of" s__law_rows_of ["body"] A.a__law_rows_of A.fd__law_rows_of
  _law_part_text : DefFa K mg "_law_part_text" s__law_part_text ["term"] A.a__law_part_text A.fd__law_part_text
  _law_term_text : DefFa K mg "_law_term_text" s__law_term_text ["term"] A.a__law_term_text A.fd__law_term_text
  _law_claim_text : DefFa K mg "_law_claim_text" s__law_claim_text ["claim"] A.a__law_claim_text A.fd__law_claim_text
  _law_plan_text : DefFa K mg "_law_plan_text" s__law_plan_text ["plan"] A.a__law_plan_text A.fd__law_plan_text
  _law_take_one : DefFa K mg "_law_take_one" s__law_take_one ["out", "name"] A.a__law_take_one A.fd__law_take_one
  _law_not : DefFa K mg "_law_not" s__law_not ["test"] A.a__law_not A.fd__law_not
  _law_both : DefFa K mg "_law_both" s__law_both ["names"] A.a__law_both A.fd__law_both
  _law_rest : DefFa K mg "_law_rest" s__law_rest ["out", "name"] A.a__law_rest A.fd__law_rest
  _law_three : DefFa K mg "_law_three" s__law_three ["first", "second", "third"] A.a__law_three A.fd__law_three
  _law_family : DefFa K mg "_law_family" s__law_family ["number"] A.a__law_family A.fd__law_family
  _law_drawn_term : DefFa K mg "_law_drawn_term" s__law_drawn_term ["bag", "deep"] A.a__law_drawn_term A.fd__law_drawn_term
  _law_statements : DefFa K mg "_law_statements" s__law_statements ["body", "path"] A.a__law_statements A.fd__law_statements
  _law_replaced : DefFa K mg "_law_replaced" s__law_replaced ["body", "path", "some"] A.a__law_replaced A.fd__law_replaced
  _law_turned_test : DefFa K mg "_law_turned_test" s__law_turned_test ["bag", "test"] A.a__law_turned_test A.fd__law_turned_test
  _law_bent_statement : DefFa K mg "_law_bent_statement" s__law_bent_statement ["bag", "one"] A.a__law_bent_statement A.fd__law_bent_statement
  _law_bent : DefFa K mg "_law_bent" s__law_bent ["bag", "plan"] A.a__law_bent A.fd__law_bent
  _law_drawn_plan : DefFa K mg "_law_drawn_plan" s__law_drawn_plan ["bag"] A.a__law_drawn_plan A.fd__law_drawn_plan
  _law_error : DefFa K mg "_law_error" s__law_error ["way", "data"] A.a__law_error A.fd__law_error
  _law_raised : DefFa K mg "_law_raised" s__law_raised ["way", "data"] A.a__law_raised A.fd__law_raised
  _law_runs : DefFa K mg "_law_runs" s__law_runs ["text"] A.a__law_runs A.fd__law_runs
  law : DefFa K mg "law" s_law ["script"] A.a_law A.fd_law
  LETTERS : GlFa K mg "LETTERS" G_LETTERS
  DIGITS : GlFa K mg "DIGITS" G_DIGITS
  MOST_LETTERS : GlFa K mg "MOST_LETTERS" G_MOST_LETTERS
  RESERVED : GlFa K mg "RESERVED" G_RESERVED
  MOST_SIGNS : GlFa K mg "MOST_SIGNS" G_MOST_SIGNS
  MOST_FIGURES : GlFa K mg "MOST_FIGURES" G_MOST_FIGURES
  MARKS : GlFa K mg "MARKS" G_MARKS
  z_len : mg "len" = none
  z_abs : mg "abs" = none
  z_all : mg "all" = none
  z_any : mg "any" = none
  z_isinstance : mg "isinstance" = none
  z_repr : mg "repr" = none
  z_sum : mg "sum" = none
  z_max : mg "max" = none
  z_min : mg "min" = none
  z_int : mg "int" = none
  z_str : mg "str" = none
  z_tuple : mg "tuple" = none
  z_list : mg "list" = none
  z_range : mg "range" = none
  z_enumerate : mg "enumerate" = none
  z_ValueError : mg "ValueError" = none
  g_MergeError : mg "MergeError" = some (.ref A.C_MergeError)
  g_BadText : mg "BadText" = some (.ref A.C_BadText)
  g_BadKind : mg "BadKind" = some (.ref A.C_BadKind)
  g_BadLists : mg "BadLists" = some (.ref A.C_BadLists)
  g_NoCommand : mg "NoCommand" = some (.ref A.C_NoCommand)
  g_Nothing : mg "Nothing" = some (.ref A.C_Nothing)
  g_TooLarge : mg "TooLarge" = some (.ref A.C_TooLarge)
  s_BadText : SupC P K A.C_BadText A.i_BadText ["line", "column"] s_init_BadText
  s_BadKind : SupC P K A.C_BadKind A.i_BadKind ["where", "fault"] s_init_BadKind
  s_BadLists : SupC P K A.C_BadLists A.i_BadLists ["name", "fault"] s_init_BadLists
  s_NoCommand : SupC P K A.C_NoCommand A.i_NoCommand ["line"] s_init_NoCommand
  s_TooLarge : SupC P K A.C_TooLarge A.i_TooLarge ["what", "limit"] s_init_TooLarge
  p_MergeError : PlainE K A.C_MergeError
  p_Nothing : PlainE K A.C_Nothing
  nd : A.Cs.Nodup
  cn_of : ∀ C nm, A.nmOf C = some nm → ErrC K C nm ∧ PySem.W.findIn K (.ref C) "class_name" = some (some (.ref A.cn))
  cnC : CnC K A.cn s_class_name
  fld_line : ∀ C ∈ A.Cs, XfC K C ∧ PySem.W.findIn K (.ref C) "line" = some none
  fld_column : ∀ C ∈ A.Cs, XfC K C ∧ PySem.W.findIn K (.ref C) "column" = some none
  fld_where : ∀ C ∈ A.Cs, XfC K C ∧ PySem.W.findIn K (.ref C) "where" = some none
  fld_fault : ∀ C ∈ A.Cs, XfC K C ∧ PySem.W.findIn K (.ref C) "fault" = some none
  fld_name : ∀ C ∈ A.Cs, XfC K C ∧ PySem.W.findIn K (.ref C) "name" = some none
  fld_what : ∀ C ∈ A.Cs, XfC K C ∧ PySem.W.findIn K (.ref C) "what" = some none
  fld_limit : ∀ C ∈ A.Cs, XfC K C ∧ PySem.W.findIn K (.ref C) "limit" = some none
  ik_MergeError : ∀ C ∈ A.Cs, (∃ nm, ErrC K C nm) ∧ PySem.W.kitOne K (.ref C) (.ref A.C_MergeError) = some true
  ik_ValueError : ∀ C ∈ A.Cs, (∃ nm, ErrC K C nm) ∧ PySem.W.kitOne K (.ref C) (.type "ValueError") = some true
  mt_MergeError : ∀ C b, mtIn A.M_MergeError C = some b → PySem.W.exmOne K (.ref C) (.ref A.C_MergeError) = some b
  mt_Nothing : ∀ C b, mtIn A.M_Nothing C = some b → PySem.W.exmOne K (.ref C) (.ref A.C_Nothing) = some b
  mt_TooLarge : ∀ C b, mtIn A.M_TooLarge C = some b → PySem.W.exmOne K (.ref C) (.ref A.C_TooLarge) = some b
theorem iS_BadText : InitS s_init_BadText ["line", "column"] where
  ex := ⟨_, _, _, _, _, (_, _), [(_, _)], (_, _, _, _, _), [(_, _, _, _, _)], rfl, rfl, rfl, fun env h => ⟨_, rfl⟩, fun env h => ⟨rfl, by unfold interactive; rw [h]; rfl⟩, fun env h q hq => by
    simp only [List.mem_cons, List.not_mem_nil, or_false] at hq
    rcases hq with rfl | rfl <;> rfl⟩
  nd := by decide +kernel
  few := by decide
  dbg := by decide +kernel
  bind := fun qual cl kV doc pm an cdv ct s us hl => match us, hl with
    | [_, _, _], _ => .of_eq rfl
theorem iS_BadKind : InitS s_init_BadKind ["where", "fault"] where
  ex := ⟨_, _, _, _, _, (_, _), [(_, _)], (_, _, _, _, _), [(_, _, _, _, _)], rfl, rfl, rfl, fun env h => ⟨_, rfl⟩, fun env h => ⟨rfl, by unfold interactive; rw [h]; rfl⟩, fun env h q hq => by
    simp only [List.mem_cons, List.not_mem_nil, or_false] at hq
    rcases hq with rfl | rfl <;> rfl⟩
  nd := by decide +kernel
  few := by decide
  dbg := by decide +kernel
  bind := fun qual cl kV doc pm an cdv ct s us hl => match us, hl with
    | [_, _, _], _ => .of_eq rfl
theorem iS_BadLists : InitS s_init_BadLists ["name", "fault"] where
  ex := ⟨_, _, _, _, _, (_, _), [(_, _)], (_, _, _, _, _), [(_, _, _, _, _)], rfl, rfl, rfl, fun env h => ⟨_, rfl⟩, fun env h => ⟨rfl, by unfold interactive; rw [h]; rfl⟩, fun env h q hq => by
    simp only [List.mem_cons, List.not_mem_nil, or_false] at hq
    rcases hq with rfl | rfl <;> rfl⟩
  nd := by decide +kernel
  few := by decide
  dbg := by decide +kernel
  bind := fun qual cl kV doc pm an cdv ct s us hl => match us, hl with
    | [_, _, _], _ => .of_eq rfl
theorem iS_NoCommand : InitS s_init_NoCommand ["line"] where
  ex := ⟨_, _, _, _, _, (_, _), [], (_, _, _, _, _), [], rfl, rfl, rfl, fun env h => ⟨_, rfl⟩, fun env h => ⟨rfl, by unfold interactive; rw [h]; rfl⟩, fun env h q hq => by
    simp only [List.mem_cons, List.not_mem_nil, or_false] at hq
    subst hq; rfl⟩
  nd := by decide +kernel
  few := by decide
  dbg := by decide +kernel
  bind := fun qual cl kV doc pm an cdv ct s us hl => match us, hl with
    | [_, _], _ => .of_eq rfl
theorem iS_TooLarge : InitS s_init_TooLarge ["what", "limit"] where
  ex := ⟨_, _, _, _, _, (_, _), [(_, _)], (_, _, _, _, _), [(_, _, _, _, _)], rfl, rfl, rfl, fun env h => ⟨_, rfl⟩, fun env h => ⟨rfl, by unfold interactive; rw [h]; rfl⟩, fun env h q hq => by
    simp only [List.mem_cons, List.not_mem_nil, or_false] at hq
    rcases hq with rfl | rfl <;> rfl⟩
  nd := by decide +kernel
  few := by decide
  dbg := by decide +kernel
  bind := fun qual cl kV doc pm an cdv ct s us hl => match us, hl with
    | [_, _, _], _ => .of_eq rfl
noncomputable section
variable {P : Program} {w : World} {K : PySem.W.Frag} {mg : Str → Option Value} {base : Heap} {A : Ad}
end
end K64
-- VEnd
set_option Elab.async false
set_option linter.all false
set_option maxRecDepth 100000
set_option maxHeartbeats 1000000
/-! VEnd: the law's end where the def promises FnG. -/
namespace VS
open PySem L2 PyProof.Rows
/-- what is tracked at the law's call: the script, where it is none of the module's own objects -/
def atScript (a : Addr) (o : Obj) (xs : List V) (p : Bool) : Hp := fun b => if b = a ∧ p = true then some (.frz o (.lst xs)) else none
theorem atScript_some {a b : Addr} {o : Obj} {xs : List V} {p : Bool} {u : HO} (h : atScript a o xs p b = some u) : b = a ∧ p = true ∧ u = .frz o (.lst xs) := by
  unfold atScript at h
  split at h
  · rename_i c
    cases h
    exact ⟨c.1, c.2, rfl⟩
  · cases h
theorem sqL_script {K : PySem.W.Frag} {h : Heap} {a : Addr} {vs : List Value} {ns : List Int} (KX : K.In h) (ha : h.get? a = some { cls := .type "list", data := .seq vs.toArray }) (hi : IntsAre vs ns) (hl : ns.length ≤ sizeLine) :
    SqL K (atScript a { cls := .type "list", data := .seq vs.toArray } (ns.map V.int) (K.lookup a).isNone) a (ns.map V.int) := by
  cases hk : K.lookup a with
  | none => exact .inl (.inr ⟨_, by unfold atScript; rw [if_pos ⟨rfl, rfl⟩]⟩)
  | some o =>
    have e := KX a o hk
    rw [ha] at e
    cases e
    exact .inr ⟨_, vs.toArray, _, hk, rfl, rfl, rfl, by rw [List.size_toArray, hi.length]; exact hl, by simpa using vals_ints hi⟩
theorem lawG {P : Program} {w : World} {K : PySem.W.Frag} {mg mb : Str → Option Value} {k : Nat} {fa a : Addr} {fd : FuncData} {x : Str} {f : List T → Out T} {q : Shared} {vs : List Value} {ns : List Int}
    (KX : K.In q.heap) (n1 : q.heap.Ns mainGlobals mg) (n2 : q.heap.Ns builtinsNs mb) (n3 : ∀ y : Str, y ≠ "__name__" → mb y = bootBuiltins y) (n4 : q.heap.NoLimit) (ge : q.gens = #[])
    (ha : q.heap.get? a = some { cls := .type "list", data := .seq vs.toArray }) (hi : IntsAre vs ns) (hl : ns.length ≤ sizeLine) (hr : RoomG k callerA)
    (D : ∀ base : Heap, K.In base → base.Ns mainGlobals mg → DefOk P w K mg base k fa fd [x] [.frz] .frz f) (bi : ∀ (s : Shared) (u : Value), BindsTo s fd ⟨[u], []⟩ [(x, u)])
    (tt : ∃ env', f [.scr ns] = .ok (.bl true) env') :
    codeAny (model P w) callerA (.call (.ref fa) ⟨[.ref a], []⟩) (fun r s' => r = .ok (.ret (.bool true)) ∧ OldK q.heap s'.heap ∧ s'.os = q.os ∧ AllBare s'.gens) q := by
  obtain ⟨env', ef⟩ := tt
  have hS := sqL_script KX ha hi hl
  generalize hH : atScript a { cls := .type "list", data := .seq vs.toArray } (ns.map V.int) (K.lookup a).isNone = H at hS
  have som : ∀ {b : Addr} {u : HO}, H b = some u → b = a ∧ K.lookup a = none ∧ u = .frz { cls := .type "list", data := .seq vs.toArray } (.lst (ns.map V.int)) := fun {b u} e => by
    rw [← hH] at e
    obtain ⟨e1, e2, e3⟩ := atScript_some e
    exact ⟨e1, Option.isNone_iff_eq_none.mp e2, e3⟩
  have inb : ∀ {b : Addr} {o : Obj}, q.heap.get? b = some o → (∀ u, H b = some u → False) → (hidT q.heap H).get? b = some o := fun {b o} e no => hidT_get e (by
    cases z : H b with
    | none => rfl
    | some u => exact (no u z).elim)
  have kIn : K.In (hidT q.heap H) := fun b o e => inb (KX b o e) fun u z => by
    obtain ⟨z1, z2, _⟩ := som z
    rw [z1, z2] at e
    cases e
  have nsIn : ∀ {b : Addr} {m : Str → Option Value}, q.heap.Ns b m → (hidT q.heap H).Ns b m := by
    rintro b m ⟨o, es, ep, e, d, r⟩
    refine ⟨o, es, ep, inb e fun u z => ?_, d, r⟩
    obtain ⟨z1, _, _⟩ := som z
    rw [z1, ha] at e
    cases e
    have d' : Data.seq vs.toArray _ = Data.dict es ep := d
    cases d'
  have hok : HOk P w H q.heap := fun b u z => by
    obtain ⟨z1, _, z3⟩ := som z
    subst z1 z3
    exact ⟨ha, by rw [List.length_map]; exact hl, vs, _, vals_ints hi, ha⟩
  have env : Env0 P w K mg (hidT q.heap H) callerA [] q H := {
    frames := rfl
    mod := ⟨kIn, nsIn n1, ⟨mb, nsIn n2, n3⟩, by obtain ⟨mc, c1, c2⟩ := n4; exact ⟨mc, nsIn c1, c2⟩⟩
    bs := fun b o e => of_hidT e
    bsz := Nat.le_of_eq (hidT_size _ _)
    funs := trivial
    frf := fun b hb => by cases hb
    hok := hok
    bare := .of_eq ge }
  have sp : SpF K [.frz] .frz f [.ref a] H (fun v _ => v = .bl true) (fun _ _ _ => False) := by
    refine ⟨rfl, H, [.scr ns], [], ⟨.ok (.frz (.scr hS)) .nil, .nil, fun _ _ h => h⟩, by rw [ef]; exact fun z => (by cases z), fun v e1 z u G' H' own' as _ ow _ _ => ?_, fun v e1 z => ?_⟩
    · rw [ef] at z
      cases z
      cases ow with
      | frz h => cases h; rfl
    · rw [ef] at z
      cases z
  have run := (D _ kIn (nsIn n1)).ok.run callerA [] q H ⟨[.ref a], []⟩ [.ref a] [.ref a] _ _ hr rfl env (bi q (.ref a)) (.cons rfl .nil) sp
  refine codeAny_mono run fun r s' h => ?_
  cases r with
  | error e =>
    obtain ⟨_, _, _, _, _, _, _, _, _, _, _, _, no⟩ := h
    exact no.elim
  | ok fl =>
    cases fl with
    | ret u =>
      obtain ⟨v, H', os, bare, un, hok', rv, hv⟩ := h
      have hv' : v = .bl true := hv
      subst hv'
      have hu : u = Value.bool true := rv
      refine ⟨by rw [hu], OldK.of_keep fun b o e => ?_, os, bare⟩
      cases z : H b with
      | none => exact un.keep b o e z (fun c => by cases c) (fun c => by cases c)
      | some t =>
        obtain ⟨z1, _, z3⟩ := som z
        subst z3
        have u1 := (hok b _ z).1
        have u2 := (hok' b _ (un.frzs b _ _ z)).1
        rw [e] at u1
        cases u1
        exact u2
    | next => exact False.elim h
    | brk => exact False.elim h
    | cont => exact False.elim h
theorem walkG {l : PySem.W.OpenLaw} {k : Nat} {q : Program} {loose : List Str} {XP : (Str → Option Value) → Heap → Prop} {YP : World → Heap → Prop} {d : DefRec} {K : Params → PySem.W.Frag} {x : Str}
    (hn : l.most = some 63) (hdf : d.params.defaults = []) (hr : RoomG k callerA) (hY : ∀ (w : World) (h : Heap), YP w h → (K w.params).In h)
    (F : ∀ (w : World) (mg : Str → Option Value) (fa : Addr) (h : Heap), (K w.params).In h → h.Ns mainGlobals mg → mg d.name = some (.ref fa) →
      ∃ (fd : FuncData) (f : List T → Out T), (∀ (s : Shared) (u : Value), BindsTo s fd ⟨[u], []⟩ [(x, u)]) ∧
        (∀ base : Heap, (K w.params).In base → base.Ns mainGlobals mg → DefOk l.prog w (K w.params) mg base k fa fd [x] [.frz] .frz f) ∧ ∀ ns : List Int, ns.length ≤ 63 → ∃ env', f [.scr ns] = .ok (.bl true) env') :
    PySem.W.WalkO q loose XP YP l.row.toRowW d [] (fun f vs => PySem.call f vs) := by
  refine Att.attach_call hn hdf fun w s₀ s₁ mg mb fa o pm cd doc a vs ns G Y ho hd hcd hmg hobj hints hlen hg => ?_
  obtain ⟨fd, f, b, D, tt⟩ := F w mg fa _ (hY w _ Y) G.T.g hmg
  exact lawG (hY w _ Y) G.T.g G.T.b G.T.builtins G.T.nolimit hg hobj hints (Nat.le_trans hlen (by decide)) hr D b (tt ns hlen)
theorem roomG_caller {k : Nat} (hk : k ≤ 100) (h : L2H.RoomH 100 callerA) : RoomG k callerA := ⟨h.mono hk, rfl⟩
theorem roomH_caller : L2H.RoomH 100 callerA := ⟨by decide +kernel, by decide +kernel⟩
end VS
-- K64f
set_option Elab.async false
set_option linter.all false
set_option maxRecDepth 100000
set_option maxHeartbeats 0
namespace K64
open PySem L2 VS
theorem cnS_0 : CnS s_class_name where
  ex := ⟨_, _, _, _, _, _, rfl⟩
  loc := rfl
  ncell := by decide +kernel
  kind := rfl
  co := rfl
  gen := rfl
  bind := fun qual cl kV doc pm an cdv ct s u => .of_eq rfl
theorem txt_mk {K : PySem.W.Frag} {h : Heap} {mg : Str → Option Value} (X : K.In h) (G : h.Ns mainGlobals mg)
    {f_is_name : Addr} {d_is_name : FuncData} (n_is_name : PySem.W.nsIn K mainGlobals "is_name" = some (some (.ref f_is_name))) (F_is_name : Fun K "is_name" "is_name" s_is_name f_is_name d_is_name)
    {f_end_of_run : Addr} {d_end_of_run : FuncData} (n_end_of_run : PySem.W.nsIn K mainGlobals "end_of_run" = some (some (.ref f_end_of_run))) (F_end_of_run : Fun K "end_of_run" "end_of_run" s_end_of_run f_end_of_run d_end_of_run)
    {f_is_figures : Addr} {d_is_figures : FuncData} (n_is_figures : PySem.W.nsIn K mainGlobals "is_figures" = some (some (.ref f_is_figures))) (F_is_figures : Fun K "is_figures" "is_figures" s_is_figures f_is_figures d_is_figures)
    {f_run_token : Addr} {d_run_token : FuncData} (n_run_token : PySem.W.nsIn K mainGlobals "run_token" = some (some (.ref f_run_token))) (F_run_token : Fun K "run_token" "run_token" s_run_token f_run_token d_run_token)
    {f_token_at : Addr} {d_token_at : FuncData} (n_token_at : PySem.W.nsIn K mainGlobals "token_at" = some (some (.ref f_token_at))) (F_token_at : Fun K "token_at" "token_at" s_token_at f_token_at d_token_at)
    {f_scanned : Addr} {d_scanned : FuncData} (n_scanned : PySem.W.nsIn K mainGlobals "scanned" = some (some (.ref f_scanned))) (F_scanned : Fun K "scanned" "scanned" s_scanned f_scanned d_scanned)
    {f_tokens : Addr} {d_tokens : FuncData} (n_tokens : PySem.W.nsIn K mainGlobals "tokens" = some (some (.ref f_tokens))) (F_tokens : Fun K "tokens" "tokens" s_tokens f_tokens d_tokens)
    {f__law_bag : Addr} {d__law_bag : FuncData} (n__law_bag : PySem.W.nsIn K mainGlobals "_law_bag" = some (some (.ref f__law_bag))) (F__law_bag : Fun K "_law_bag" "_law_bag" s__law_bag f__law_bag d__law_bag)
    {f__law_take : Addr} {d__law_take : FuncData} (n__law_take : PySem.W.nsIn K mainGlobals "_law_take" = some (some (.ref f__law_take))) (F__law_take : Fun K "_law_take" "_law_take" s__law_take f__law_take d__law_take)
    {f__law_some : Addr} {d__law_some : FuncData} (n__law_some : PySem.W.nsIn K mainGlobals "_law_some" = some (some (.ref f__law_some))) (F__law_some : Fun K "_law_some" "_law_some" s__law_some f__law_some d__law_some)
    {f__law_alike : Addr} {d__law_alike : FuncData} (n__law_alike : PySem.W.nsIn K mainGlobals "_law_alike" = some (some (.ref f__law_alike))) (F__law_alike : Fun K "_law_alike" "_law_alike" s__law_alike f__law_alike d__law_alike)
    {f__law_test_text : Addr} {d__law_test_text : FuncData} (n__law_test_text : PySem.W.nsIn K mainGlobals "_law_test_text" = some (some (.ref f__law_test_text))) (F__law_test_text : Fun K "_law_test_text" "_law_test_text" s__law_test_text f__law_test_text d__law_test_text)
    {f__law_line_rows : Addr} {d__law_line_rows : FuncData} (n__law_line_rows : PySem.W.nsIn K mainGlobals "_law_line_rows" = some (some (.ref f__law_line_rows))) (F__law_line_rows : Fun K "_law_line_rows" "_law_line_rows" s__law_line_rows f__law_line_rows d__law_line_rows)
    {f__law_rows_of : Addr} {d__law_rows_of : FuncData} (n__law_rows_of : PySem.W.nsIn K mainGlobals "_law_rows_of" = some (some (.ref f__law_rows_of))) (F__law_rows_of : Fun K "_law_rows_of" "_law_rows_of" s__law_rows_of f__law_rows_of d__law_rows_of)
    {f__law_part_text : Addr} {d__law_part_text : FuncData} (n__law_part_text : PySem.W.nsIn K mainGlobals "_law_part_text" = some (some (.ref f__law_part_text))) (F__law_part_text : Fun K "_law_part_text" "_law_part_text" s__law_part_text f__law_part_text d__law_part_text)
    {f__law_term_text : Addr} {d__law_term_text : FuncData} (n__law_term_text : PySem.W.nsIn K mainGlobals "_law_term_text" = some (some (.ref f__law_term_text))) (F__law_term_text : Fun K "_law_term_text" "_law_term_text" s__law_term_text f__law_term_text d__law_term_text)
    {f__law_claim_text : Addr} {d__law_claim_text : FuncData} (n__law_claim_text : PySem.W.nsIn K mainGlobals "_law_claim_text" = some (some (.ref f__law_claim_text))) (F__law_claim_text : Fun K "_law_claim_text" "_law_claim_text" s__law_claim_text f__law_claim_text d__law_claim_text)
    {f__law_plan_text : Addr} {d__law_plan_text : FuncData} (n__law_plan_text : PySem.W.nsIn K mainGlobals "_law_plan_text" = some (some (.ref f__law_plan_text))) (F__law_plan_text : Fun K "_law_plan_text" "_law_plan_text" s__law_plan_text f__law_plan_text d__law_plan_text)
    {f__law_take_one : Addr} {d__law_take_one : FuncData} (n__law_take_one : PySem.W.nsIn K mainGlobals "_law_take_one" = some (some (.ref f__law_take_one))) (F__law_take_one : Fun K "_law_take_one" "_law_take_one" s__law_take_one f__law_take_one d__law_take_one)
    {f__law_not : Addr} {d__law_not : FuncData} (n__law_not : PySem.W.nsIn K mainGlobals "_law_not" = some (some (.ref f__law_not))) (F__law_not : Fun K "_law_not" "_law_not" s__law_not f__law_not d__law_not)
    {f__law_both : Addr} {d__law_both : FuncData} (n__law_both : PySem.W.nsIn K mainGlobals "_law_both" = some (some (.ref f__law_both))) (F__law_both : Fun K "_law_both" "_law_both" s__law_both f__law_both d__law_both)
    {f__law_rest : Addr} {d__law_rest : FuncData} (n__law_rest : PySem.W.nsIn K mainGlobals "_law_rest" = some (some (.ref f__law_rest))) (F__law_rest : Fun K "_law_rest" "_law_rest" s__law_rest f__law_rest d__law_rest)
    {f__law_three : Addr} {d__law_three : FuncData} (n__law_three : PySem.W.nsIn K mainGlobals "_law_three" = some (some (.ref f__law_three))) (F__law_three : Fun K "_law_three" "_law_three" s__law_three f__law_three d__law_three)
    {f__law_family : Addr} {d__law_family : FuncData} (n__law_family : PySem.W.nsIn K mainGlobals "_law_family" = some (some (.ref f__law_family))) (F__law_family : Fun K "_law_family" "_law_family" s__law_family f__law_family d__law_family)
    {f__law_drawn_term : Addr} {d__law_drawn_term : FuncData} (n__law_drawn_term : PySem.W.nsIn K mainGlobals "_law_drawn_term" = some (some (.ref f__law_drawn_term))) (F__law_drawn_term : Fun K "_law_drawn_term" "_law_drawn_term" s__law_drawn_term f__law_drawn_term d__law_drawn_term)
    {f__law_statements : Addr} {d__law_statements : FuncData} (n__law_statements : PySem.W.nsIn K mainGlobals "_law_statements" = some (some (.ref f__law_statements))) (F__law_statements : Fun K "_law_statements" "_law_statements" s__law_statements f__law_statements d__law_statements)
    {f__law_replaced : Addr} {d__law_replaced : FuncData} (n__law_replaced : PySem.W.nsIn K mainGlobals "_law_replaced" = some (some (.ref f__law_replaced))) (F__law_replaced : Fun K "_law_replaced" "_law_replaced" s__law_replaced f__law_replaced d__law_replaced)
    {f__law_turned_test : Addr} {d__law_turned_test : FuncData} (n__law_turned_test : PySem.W.nsIn K mainGlobals "_law_turned_test" = some (some (.ref f__law_turned_test))) (F__law_turned_test : Fun K "_law_turned_test" "_law_turned_test" s__law_turned_test f__law_turned_test d__law_turned_test)
    {f__law_bent_statement : Addr} {d__law_bent_statement : FuncData} (n__law_bent_statement : PySem.W.nsIn K mainGlobals "_law_bent_statement" = some (some (.ref f__law_bent_statement))) (F__law_bent_statement : Fun K "_law_bent_statement" "_law_bent_statement" s__law_bent_statement f__law_bent_statement d__law_bent_statement)
    {f__law_bent : Addr} {d__law_bent : FuncData} (n__law_bent : PySem.W.nsIn K mainGlobals "_law_bent" = some (some (.ref f__law_bent))) (F__law_bent : Fun K "_law_bent" "_law_bent" s__law_bent f__law_bent d__law_bent)
    {f__law_drawn_plan : Addr} {d__law_drawn_plan : FuncData} (n__law_drawn_plan : PySem.W.nsIn K mainGlobals "_law_drawn_plan" = some (some (.ref f__law_drawn_plan))) (F__law_drawn_plan : Fun K "_law_drawn_plan" "_law_drawn_plan" s__law_drawn_plan f__law_drawn_plan d__law_drawn_plan)
    {f__law_error : Addr} {d__law_error : FuncData} (n__law_error : PySem.W.nsIn K mainGlobals "_law_error" = some (some (.ref f__law_error))) (F__law_error : Fun K "_law_error" "_law_error" s__law_error f__law_error d__law_error)
    {f__law_raised : Addr} {d__law_raised : FuncData} (n__law_raised : PySem.W.nsIn K mainGlobals "_law_raised" = some (some (.ref f__law_raised))) (F__law_raised : Fun K "_law_raised" "_law_raised" s__law_raised f__law_raised d__law_raised)
    {f__law_runs : Addr} {d__law_runs : FuncData} (n__law_runs : PySem.W.nsIn K mainGlobals "_law_runs" = some (some (.ref f__law_runs))) (F__law_runs : Fun K "_law_runs" "_law_runs" s__law_runs f__law_runs d__law_runs)
    {f_law : Addr} {d_law : FuncData} (n_law : PySem.W.nsIn K mainGlobals "law" = some (some (.ref f_law))) (F_law : Fun K "law" "law" s_law f_law d_law)
    {t_LETTERS : Tok} (c_LETTERS : PySem.W.nsIn K mainGlobals "LETTERS" = some (some (.str "abcdefghijklmnopqrstuvwxyz" t_LETTERS)))
    {t_DIGITS : Tok} (c_DIGITS : PySem.W.nsIn K mainGlobals "DIGITS" = some (some (.str "0123456789" t_DIGITS)))
    {t_MOST_LETTERS : Tok} (c_MOST_LETTERS : PySem.W.nsIn K mainGlobals "MOST_LETTERS" = some (some (.int 8 t_MOST_LETTERS)))
    {r_RESERVED : Addr} {o_RESERVED : Option Addr} {is_RESERVED : Array Value} {nl_RESERVED : Nat} {sl_RESERVED : Array (Option Value)} (c_RESERVED : PySem.W.nsIn K mainGlobals "RESERVED" = some (some (.ref r_RESERVED))) (l_RESERVED : K.lookup r_RESERVED = some ⟨.type "tuple", o_RESERVED, .seq is_RESERVED nl_RESERVED, sl_RESERVED⟩) (v_RESERVED : Vals ([.str "and", .str "ascends", .str "below", .str "claim", .str "compares", .str "down", .str "drop", .str "else", .str "empty", .str "end", .str "ends", .str "flag", .str "greatest", .str "if", .str "in", .str "is", .str "keep", .str "least", .str "less", .str "not", .str "or", .str "out", .str "plus", .str "put", .str "same", .str "skip", .str "up", .str "while"] : List V) is_RESERVED.toList) (z_RESERVED : is_RESERVED.size ≤ sizeLine)
    {t_MOST_SIGNS : Tok} (c_MOST_SIGNS : PySem.W.nsIn K mainGlobals "MOST_SIGNS" = some (some (.int 6000 t_MOST_SIGNS)))
    {t_MOST_FIGURES : Tok} (c_MOST_FIGURES : PySem.W.nsIn K mainGlobals "MOST_FIGURES" = some (some (.int 2 t_MOST_FIGURES)))
    {t_MARKS : Tok} (c_MARKS : PySem.W.nsIn K mainGlobals "MARKS" = some (some (.str "()" t_MARKS)))
    (z_len : PySem.W.nsIn K mainGlobals "len" = some none)
    (z_abs : PySem.W.nsIn K mainGlobals "abs" = some none)
    (z_all : PySem.W.nsIn K mainGlobals "all" = some none)
    (z_any : PySem.W.nsIn K mainGlobals "any" = some none)
    (z_isinstance : PySem.W.nsIn K mainGlobals "isinstance" = some none)
    (z_repr : PySem.W.nsIn K mainGlobals "repr" = some none)
    (z_sum : PySem.W.nsIn K mainGlobals "sum" = some none)
    (z_max : PySem.W.nsIn K mainGlobals "max" = some none)
    (z_min : PySem.W.nsIn K mainGlobals "min" = some none)
    (z_int : PySem.W.nsIn K mainGlobals "int" = some none)
    (z_str : PySem.W.nsIn K mainGlobals "str" = some none)
    (z_tuple : PySem.W.nsIn K mainGlobals "tuple" = some none)
    (z_list : PySem.W.nsIn K mainGlobals "list" = some none)
    (z_range : PySem.W.nsIn K mainGlobals "range" = some none)
    (z_enumerate : PySem.W.nsIn K mainGlobals "enumerate" = some none)
    (z_ValueError : PySem.W.nsIn K mainGlobals "ValueError" = some none)
    {C_MergeError : Addr} (g_MergeError : PySem.W.nsIn K mainGlobals "MergeError" = some (some (.ref C_MergeError)))
    {C_BadText : Addr} (g_BadText : PySem.W.nsIn K mainGlobals "BadText" = some (some (.ref C_BadText)))
    {C_BadKind : Addr} (g_BadKind : PySem.W.nsIn K mainGlobals "BadKind" = some (some (.ref C_BadKind)))
    {C_BadLists : Addr} (g_BadLists : PySem.W.nsIn K mainGlobals "BadLists" = some (some (.ref C_BadLists)))
    {C_NoCommand : Addr} (g_NoCommand : PySem.W.nsIn K mainGlobals "NoCommand" = some (some (.ref C_NoCommand)))
    {C_Nothing : Addr} (g_Nothing : PySem.W.nsIn K mainGlobals "Nothing" = some (some (.ref C_Nothing)))
    {C_TooLarge : Addr} (g_TooLarge : PySem.W.nsIn K mainGlobals "TooLarge" = some (some (.ref C_TooLarge)))
    (e_MergeError : ErrC K C_MergeError "MergeError")
    (p_MergeError : PlainE K C_MergeError)
    (e_BadText : ErrC K C_BadText "BadText")
    {i_BadText : Addr} (j_BadText : PySem.W.findIn K (.ref C_BadText) "__init__" = some (some (.ref i_BadText)))
    (s_BadText : SupC prog K C_BadText i_BadText ["line", "column"] s_init_BadText)
    (e_BadKind : ErrC K C_BadKind "BadKind")
    {i_BadKind : Addr} (j_BadKind : PySem.W.findIn K (.ref C_BadKind) "__init__" = some (some (.ref i_BadKind)))
    (s_BadKind : SupC prog K C_BadKind i_BadKind ["where", "fault"] s_init_BadKind)
    (e_BadLists : ErrC K C_BadLists "BadLists")
    {i_BadLists : Addr} (j_BadLists : PySem.W.findIn K (.ref C_BadLists) "__init__" = some (some (.ref i_BadLists)))
    (s_BadLists : SupC prog K C_BadLists i_BadLists ["name", "fault"] s_init_BadLists)
    (e_NoCommand : ErrC K C_NoCommand "NoCommand")
    {i_NoCommand : Addr} (j_NoCommand : PySem.W.findIn K (.ref C_NoCommand) "__init__" = some (some (.ref i_NoCommand)))
    (s_NoCommand : SupC prog K C_NoCommand i_NoCommand ["line"] s_init_NoCommand)
    (e_Nothing : ErrC K C_Nothing "Nothing")
    (p_Nothing : PlainE K C_Nothing)
    (e_TooLarge : ErrC K C_TooLarge "TooLarge")
    {i_TooLarge : Addr} (j_TooLarge : PySem.W.findIn K (.ref C_TooLarge) "__init__" = some (some (.ref i_TooLarge)))
    (s_TooLarge : SupC prog K C_TooLarge i_TooLarge ["what", "limit"] s_init_TooLarge)
    {cn : Addr}
    (k_MergeError : PySem.W.findIn K (.ref C_MergeError) "class_name" = some (some (.ref cn)))
    (k_BadText : PySem.W.findIn K (.ref C_BadText) "class_name" = some (some (.ref cn)))
    (k_BadKind : PySem.W.findIn K (.ref C_BadKind) "class_name" = some (some (.ref cn)))
    (k_BadLists : PySem.W.findIn K (.ref C_BadLists) "class_name" = some (some (.ref cn)))
    (k_NoCommand : PySem.W.findIn K (.ref C_NoCommand) "class_name" = some (some (.ref cn)))
    (k_Nothing : PySem.W.findIn K (.ref C_Nothing) "class_name" = some (some (.ref cn)))
    (k_TooLarge : PySem.W.findIn K (.ref C_TooLarge) "class_name" = some (some (.ref cn)))
    (cnC : CnC K cn s_class_name)
    (y_MergeError_line : PySem.W.findIn K (.ref C_MergeError) "line" = some none)
    (y_BadText_line : PySem.W.findIn K (.ref C_BadText) "line" = some none)
    (y_BadKind_line : PySem.W.findIn K (.ref C_BadKind) "line" = some none)
    (y_BadLists_line : PySem.W.findIn K (.ref C_BadLists) "line" = some none)
    (y_NoCommand_line : PySem.W.findIn K (.ref C_NoCommand) "line" = some none)
    (y_Nothing_line : PySem.W.findIn K (.ref C_Nothing) "line" = some none)
    (y_TooLarge_line : PySem.W.findIn K (.ref C_TooLarge) "line" = some none)
    (y_MergeError_column : PySem.W.findIn K (.ref C_MergeError) "column" = some none)
    (y_BadText_column : PySem.W.findIn K (.ref C_BadText) "column" = some none)
    (y_BadKind_column : PySem.W.findIn K (.ref C_BadKind) "column" = some none)
    (y_BadLists_column : PySem.W.findIn K (.ref C_BadLists) "column" = some none)
    (y_NoCommand_column : PySem.W.findIn K (.ref C_NoCommand) "column" = some none)
    (y_Nothing_column : PySem.W.findIn K (.ref C_Nothing) "column" = some none)
    (y_TooLarge_column : PySem.W.findIn K (.ref C_TooLarge) "column" = some none)
    (y_MergeError_where : PySem.W.findIn K (.ref C_MergeError) "where" = some none)
    (y_BadText_where : PySem.W.findIn K (.ref C_BadText) "where" = some none)
    (y_BadKind_where : PySem.W.findIn K (.ref C_BadKind) "where" = some none)
    (y_BadLists_where : PySem.W.findIn K (.ref C_BadLists) "where" = some none)
    (y_NoCommand_where : PySem.W.findIn K (.ref C_NoCommand) "where" = some none)
    (y_Nothing_where : PySem.W.findIn K (.ref C_Nothing) "where" = some none)
    (y_TooLarge_where : PySem.W.findIn K (.ref C_TooLarge) "where" = some none)
    (y_MergeError_fault : PySem.W.findIn K (.ref C_MergeError) "fault" = some none)
    (y_BadText_fault : PySem.W.findIn K (.ref C_BadText) "fault" = some none)
    (y_BadKind_fault : PySem.W.findIn K (.ref C_BadKind) "fault" = some none)
    (y_BadLists_fault : PySem.W.findIn K (.ref C_BadLists) "fault" = some none)
    (y_NoCommand_fault : PySem.W.findIn K (.ref C_NoCommand) "fault" = some none)
    (y_Nothing_fault : PySem.W.findIn K (.ref C_Nothing) "fault" = some none)
    (y_TooLarge_fault : PySem.W.findIn K (.ref C_TooLarge) "fault" = some none)
    (y_MergeError_name : PySem.W.findIn K (.ref C_MergeError) "name" = some none)
    (y_BadText_name : PySem.W.findIn K (.ref C_BadText) "name" = some none)
    (y_BadKind_name : PySem.W.findIn K (.ref C_BadKind) "name" = some none)
    (y_BadLists_name : PySem.W.findIn K (.ref C_BadLists) "name" = some none)
    (y_NoCommand_name : PySem.W.findIn K (.ref C_NoCommand) "name" = some none)
    (y_Nothing_name : PySem.W.findIn K (.ref C_Nothing) "name" = some none)
    (y_TooLarge_name : PySem.W.findIn K (.ref C_TooLarge) "name" = some none)
    (y_MergeError_what : PySem.W.findIn K (.ref C_MergeError) "what" = some none)
    (y_BadText_what : PySem.W.findIn K (.ref C_BadText) "what" = some none)
    (y_BadKind_what : PySem.W.findIn K (.ref C_BadKind) "what" = some none)
    (y_BadLists_what : PySem.W.findIn K (.ref C_BadLists) "what" = some none)
    (y_NoCommand_what : PySem.W.findIn K (.ref C_NoCommand) "what" = some none)
    (y_Nothing_what : PySem.W.findIn K (.ref C_Nothing) "what" = some none)
    (y_TooLarge_what : PySem.W.findIn K (.ref C_TooLarge) "what" = some none)
    (y_MergeError_limit : PySem.W.findIn K (.ref C_MergeError) "limit" = some none)
    (y_BadText_limit : PySem.W.findIn K (.ref C_BadText) "limit" = some none)
    (y_BadKind_limit : PySem.W.findIn K (.ref C_BadKind) "limit" = some none)
    (y_BadLists_limit : PySem.W.findIn K (.ref C_BadLists) "limit" = some none)
    (y_NoCommand_limit : PySem.W.findIn K (.ref C_NoCommand) "limit" = some none)
    (y_Nothing_limit : PySem.W.findIn K (.ref C_Nothing) "limit" = some none)
    (y_TooLarge_limit : PySem.W.findIn K (.ref C_TooLarge) "limit" = some none)
    (ik_MergeError_MergeError : PySem.W.kitOne K (.ref C_MergeError) (.ref C_MergeError) = some true)
    (ik_BadText_MergeError : PySem.W.kitOne K (.ref C_BadText) (.ref C_MergeError) = some true)
    (ik_BadKind_MergeError : PySem.W.kitOne K (.ref C_BadKind) (.ref C_MergeError) = some true)
    (ik_BadLists_MergeError : PySem.W.kitOne K (.ref C_BadLists) (.ref C_MergeError) = some true)
    (ik_NoCommand_MergeError : PySem.W.kitOne K (.ref C_NoCommand) (.ref C_MergeError) = some true)
    (ik_Nothing_MergeError : PySem.W.kitOne K (.ref C_Nothing) (.ref C_MergeError) = some true)
    (ik_TooLarge_MergeError : PySem.W.kitOne K (.ref C_TooLarge) (.ref C_MergeError) = some true)
    (ik_MergeError_ValueError : PySem.W.kitOne K (.ref C_MergeError) (.type "ValueError") = some true)
    (ik_BadText_ValueError : PySem.W.kitOne K (.ref C_BadText) (.type "ValueError") = some true)
    (ik_BadKind_ValueError : PySem.W.kitOne K (.ref C_BadKind) (.type "ValueError") = some true)
    (ik_BadLists_ValueError : PySem.W.kitOne K (.ref C_BadLists) (.type "ValueError") = some true)
    (ik_NoCommand_ValueError : PySem.W.kitOne K (.ref C_NoCommand) (.type "ValueError") = some true)
    (ik_Nothing_ValueError : PySem.W.kitOne K (.ref C_Nothing) (.type "ValueError") = some true)
    (ik_TooLarge_ValueError : PySem.W.kitOne K (.ref C_TooLarge) (.type "ValueError") = some true)
    (mt_MergeError_MergeError : PySem.W.exmOne K (.ref C_MergeError) (.ref C_MergeError) = some true)
    (mt_BadText_MergeError : PySem.W.exmOne K (.ref C_BadText) (.ref C_MergeError) = some true)
    (mt_BadKind_MergeError : PySem.W.exmOne K (.ref C_BadKind) (.ref C_MergeError) = some true)
    (mt_BadLists_MergeError : PySem.W.exmOne K (.ref C_BadLists) (.ref C_MergeError) = some true)
    (mt_NoCommand_MergeError : PySem.W.exmOne K (.ref C_NoCommand) (.ref C_MergeError) = some true)
    (mt_Nothing_MergeError : PySem.W.exmOne K (.ref C_Nothing) (.ref C_MergeError) = some true)
    (mt_TooLarge_MergeError : PySem.W.exmOne K (.ref C_TooLarge) (.ref C_MergeError) = some true)
    (mt_Nothing_Nothing : PySem.W.exmOne K (.ref C_Nothing) (.ref C_Nothing) = some true)
    (mt_TooLarge_TooLarge : PySem.W.exmOne K (.ref C_TooLarge) (.ref C_TooLarge) = some true) :
    ∃ A : Ad, Txt prog K mg A ∧ mg "law" = some (.ref A.a_law) ∧ (∀ (s : Shared) (u : Value), BindsTo s A.fd_law ⟨[u], []⟩ [("script", u)]) := by
  refine ⟨{ a_is_name := f_is_name, fd_is_name := d_is_name, a_end_of_run := f_end_of_run, fd_end_of_run := d_end_of_run, a_is_figures := f_is_figures, fd_is_figures := d_is_figures, a_run_token := f_run_token, fd_run_token := d_run_token, a_token_at := f_token_at, fd_token_at := d_token_at, a_scanned := f_scanned, fd_scanned := d_scanned, a_tokens := f_tokens, fd_tokens := d_tokens, a__law_bag := f__law_bag, fd__law_bag := d__law_bag, a__law_take := f__law_take, fd__law_take := d__law_take, a__law_some := f__law_some, fd__law_some := d__law_some, a__law_alike := f__law_alike, fd__law_alike := d__law_alike, a__law_test_text := f__law_test_text, fd__law_test_text := d__law_test_text, a__law_line_rows := f__law_line_rows, fd__law_line_rows := d__law_line_rows, a__law_rows_of := f__law_rows_of, fd__law_rows_of := d__law_rows_of, a__law_part_text := f__law_part_text, fd__law_part_text := d__law_part_text, a__law_term_text := f__law_term_text, fd__law_term_text := d__law_term_text, a__law_claim_text := f__law_claim_text, fd__law_claim_text := d__law_claim_text, a__law_plan_text := f__law_plan_text, fd__law_plan_text := d__law_plan_text, a__law_take_one := f__law_take_one, fd__law_take_one := d__law_take_one, a__law_not := f__law_not, fd__law_not := d__law_not, a__law_both := f__law_both, fd__law_both := d__law_both, a__law_rest := f__law_rest, fd__law_rest := d__law_rest, a__law_three := f__law_three, fd__law_three := d__law_three, a__law_family := f__law_family, fd__law_family := d__law_family, a__law_drawn_term := f__law_drawn_term, fd__law_drawn_term := d__law_drawn_term, a__law_statements := f__law_statements, fd__law_statements := d__law_statements, a__law_replaced := f__law_replaced, fd__law_replaced := d__law_replaced, a__law_turned_test := f__law_turned_test, fd__law_turned_test := d__law_turned_test, a__law_bent_statement := f__law_bent_statement, fd__law_bent_statement := d__law_bent_statement, a__law_bent := f__law_bent, fd__law_bent := d__law_bent, a__law_drawn_plan := f__law_drawn_plan, fd__law_drawn_plan := d__law_drawn_plan, a__law_error := f__law_error, fd__law_error := d__law_error, a__law_raised := f__law_raised, fd__law_raised := d__law_raised, a__law_runs := f__law_runs, fd__law_runs := d__law_runs, a_law := f_law, fd_law := d_law, C_MergeError := C_MergeError, C_BadText := C_BadText, C_BadKind := C_BadKind, C_BadLists := C_BadLists, C_NoCommand := C_NoCommand, C_Nothing := C_Nothing, C_TooLarge := C_TooLarge, i_BadText := i_BadText, i_BadKind := i_BadKind, i_BadLists := i_BadLists, i_NoCommand := i_NoCommand, i_TooLarge := i_TooLarge, cn := cn }, {
    is_name := ⟨F_is_name, PySem.W.mg_of X G n_is_name, F_is_name.binds (ps := ["thing"]) fun _ _ _ _ _ _ us hl => match us, hl with | [_], _ => rfl⟩
    end_of_run := ⟨F_end_of_run, PySem.W.mg_of X G n_end_of_run, F_end_of_run.binds (ps := ["text", "begin"]) fun _ _ _ _ _ _ us hl => match us, hl with | [_, _], _ => rfl⟩
    is_figures := ⟨F_is_figures, PySem.W.mg_of X G n_is_figures, F_is_figures.binds (ps := ["run"]) fun _ _ _ _ _ _ us hl => match us, hl with | [_], _ => rfl⟩
    run_token := ⟨F_run_token, PySem.W.mg_of X G n_run_token, F_run_token.binds (ps := ["run"]) fun _ _ _ _ _ _ us hl => match us, hl with | [_], _ => rfl⟩
    token_at := ⟨F_token_at, PySem.W.mg_of X G n_token_at, F_token_at.binds (ps := ["text", "begin"]) fun _ _ _ _ _ _ us hl => match us, hl with | [_, _], _ => rfl⟩
    scanned := ⟨F_scanned, PySem.W.mg_of X G n_scanned, F_scanned.binds (ps := ["text"]) fun _ _ _ _ _ _ us hl => match us, hl with | [_], _ => rfl⟩
    tokens := ⟨F_tokens, PySem.W.mg_of X G n_tokens, F_tokens.binds (ps := ["text"]) fun _ _ _ _ _ _ us hl => match us, hl with | [_], _ => rfl⟩
    _law_bag := ⟨F__law_bag, PySem.W.mg_of X G n__law_bag, F__law_bag.binds (ps := ["script"]) fun _ _ _ _ _ _ us hl => match us, hl with | [_], _ => rfl⟩
    _law_take := ⟨F__law_take, PySem.W.mg_of X G n__law_take, F__law_take.binds (ps := ["bag", "many"]) fun _ _ _ _ _ _ us hl => match us, hl with | [_, _], _ => rfl⟩
    _law_some := ⟨F__law_some, PySem.W.mg_of X G n__law_some, F__law_some.binds (ps := ["bag", "things"]) fun _ _ _ _ _ _ us hl => match us, hl with | [_, _], _ => rfl⟩
    _law_alike := ⟨F__law_alike, PySem.W.mg_of X G n__law_alike, F__law_alike.binds (ps := ["found", "wanted"]) fun _ _ _ _ _ _ us hl => match us, hl with | [_, _], _ => rfl⟩
    _law_test_text := ⟨F__law_test_text, PySem.W.mg_of X G n__law_test_text, F__law_test_text.binds (ps := ["test"]) fun _ _ _ _ _ _ us hl => match us, hl with | [_], _ => rfl⟩
    _law_line_rows := ⟨F__law_line_rows, PySem.W.mg_of X G n__law_line_rows, F__law_line_rows.binds (ps := ["one"]) fun _ _ _ _ _ _ us hl => match us, hl with | [_], _ => rfl⟩
    _law_rows_of := ⟨F__law_rows_of, PySem.W.mg_of X G n__law_rows_of, F__law_rows_of.binds (ps := ["body"]) fun _ _ _ _ _ _ us hl => match us, hl with | [_], _ => rfl⟩
    _law_part_text := ⟨F__law_part_text, PySem.W.mg_of X G n__law_part_text, F__law_part_text.binds (ps := ["term"]) fun _ _ _ _ _ _ us hl => match us, hl with | [_], _ => rfl⟩
    _law_term_text := ⟨F__law_term_text, PySem.W.mg_of X G n__law_term_text, F__law_term_text.binds (ps := ["term"]) fun _ _ _ _ _ _ us hl => match us, hl with | [_], _ => rfl⟩
    _law_claim_text := ⟨F__law_claim_text, PySem.W.mg_of X G n__law_claim_text, F__law_claim_text.binds (ps := ["claim"]) fun _ _ _ _ _ _ us hl => match us, hl with | [_], _ => rfl⟩
    _law_plan_text := ⟨F__law_plan_text, PySem.W.mg_of X G n__law_plan_text, F__law_plan_text.binds (ps := ["plan"]) fun _ _ _ _ _ _ us hl => match us, hl with | [_], _ => rfl⟩
    _law_take_one := ⟨F__law_take_one, PySem.W.mg_of X G n__law_take_one, F__law_take_one.binds (ps := ["out", "name"]) fun _ _ _ _ _ _ us hl => match us, hl with | [_, _], _ => rfl⟩
    _law_not := ⟨F__law_not, PySem.W.mg_of X G n__law_not, F__law_not.binds (ps := ["test"]) fun _ _ _ _ _ _ us hl => match us, hl with | [_], _ => rfl⟩
    _law_both := ⟨F__law_both, PySem.W.mg_of X G n__law_both, F__law_both.binds (ps := ["names"]) fun _ _ _ _ _ _ us hl => match us, hl with | [_], _ => rfl⟩
    _law_rest := ⟨F__law_rest, PySem.W.mg_of X G n__law_rest, F__law_rest.binds (ps := ["out", "name"]) fun _ _ _ _ _ _ us hl => match us, hl with | [_, _], _ => rfl⟩
    _law_three := ⟨F__law_three, PySem.W.mg_of X G n__law_three, F__law_three.binds (ps := ["first", "second", "third"]) fun _ _ _ _ _ _ us hl => match us, hl with | [_, _, _], _ => rfl⟩
    _law_family := ⟨F__law_family, PySem.W.mg_of X G n__law_family, F__law_family.binds (ps := ["number"]) fun _ _ _ _ _ _ us hl => match us, hl with | [_], _ => rfl⟩
    _law_drawn_term := ⟨F__law_drawn_term, PySem.W.mg_of X G n__law_drawn_term, F__law_drawn_term.binds (ps := ["bag", "deep"]) fun _ _ _ _ _ _ us hl => match us, hl with | [_, _], _ => rfl⟩
    _law_statements := ⟨F__law_statements, PySem.W.mg_of X G n__law_statements, F__law_statements.binds (ps := ["body", "path"]) fun _ _ _ _ _ _ us hl => match us, hl with | [_, _], _ => rfl⟩
    _law_replaced := ⟨F__law_replaced, PySem.W.mg_of X G n__law_replaced, F__law_replaced.binds (ps := ["body", "path", "some"]) fun _ _ _ _ _ _ us hl => match us, hl with | [_, _, _], _ => rfl⟩
    _law_turned_test := ⟨F__law_turned_test, PySem.W.mg_of X G n__law_turned_test, F__law_turned_test.binds (ps := ["bag", "test"]) fun _ _ _ _ _ _ us hl => match us, hl with | [_, _], _ => rfl⟩
    _law_bent_statement := ⟨F__law_bent_statement, PySem.W.mg_of X G n__law_bent_statement, F__law_bent_statement.binds (ps := ["bag", "one"]) fun _ _ _ _ _ _ us hl => match us, hl with | [_, _], _ => rfl⟩
    _law_bent := ⟨F__law_bent, PySem.W.mg_of X G n__law_bent, F__law_bent.binds (ps := ["bag", "plan"]) fun _ _ _ _ _ _ us hl => match us, hl with | [_, _], _ => rfl⟩
    _law_drawn_plan := ⟨F__law_drawn_plan, PySem.W.mg_of X G n__law_drawn_plan, F__law_drawn_plan.binds (ps := ["bag"]) fun _ _ _ _ _ _ us hl => match us, hl with | [_], _ => rfl⟩
    _law_error := ⟨F__law_error, PySem.W.mg_of X G n__law_error, F__law_error.binds (ps := ["way", "data"]) fun _ _ _ _ _ _ us hl => match us, hl with | [_, _], _ => rfl⟩
    _law_raised := ⟨F__law_raised, PySem.W.mg_of X G n__law_raised, F__law_raised.binds (ps := ["way", "data"]) fun _ _ _ _ _ _ us hl => match us, hl with | [_, _], _ => rfl⟩
    _law_runs := ⟨F__law_runs, PySem.W.mg_of X G n__law_runs, F__law_runs.binds (ps := ["text"]) fun _ _ _ _ _ _ us hl => match us, hl with | [_], _ => rfl⟩
    law := ⟨F_law, PySem.W.mg_of X G n_law, F_law.binds (ps := ["script"]) fun _ _ _ _ _ _ us hl => match us, hl with | [_], _ => rfl⟩
    LETTERS := ⟨_, .str "abcdefghijklmnopqrstuvwxyz", PySem.W.mg_of X G c_LETTERS, ⟨_, rfl⟩, fun _ => .str _⟩
    DIGITS := ⟨_, .str "0123456789", PySem.W.mg_of X G c_DIGITS, ⟨_, rfl⟩, fun _ => .str _⟩
    MOST_LETTERS := ⟨_, .int 8, PySem.W.mg_of X G c_MOST_LETTERS, ⟨_, rfl⟩, fun _ => .int _⟩
    RESERVED := ⟨_, .ref r_RESERVED, PySem.W.mg_of X G c_RESERVED, rfl, fun _ => .tup (.inr ⟨_, _, _, l_RESERVED, rfl, rfl, z_RESERVED, v_RESERVED⟩) (.cons (.str _) (.cons (.str _) (.cons (.str _) (.cons (.str _) (.cons (.str _) (.cons (.str _) (.cons (.str _) (.cons (.str _) (.cons (.str _) (.cons (.str _) (.cons (.str _) (.cons (.str _) (.cons (.str _) (.cons (.str _) (.cons (.str _) (.cons (.str _) (.cons (.str _) (.cons (.str _) (.cons (.str _) (.cons (.str _) (.cons (.str _) (.cons (.str _) (.cons (.str _) (.cons (.str _) (.cons (.str _) (.cons (.str _) (.cons (.str _) (.cons (.str _) (.nil)))))))))))))))))))))))))))))⟩
    MOST_SIGNS := ⟨_, .int 6000, PySem.W.mg_of X G c_MOST_SIGNS, ⟨_, rfl⟩, fun _ => .int _⟩
    MOST_FIGURES := ⟨_, .int 2, PySem.W.mg_of X G c_MOST_FIGURES, ⟨_, rfl⟩, fun _ => .int _⟩
    MARKS := ⟨_, .str "()", PySem.W.mg_of X G c_MARKS, ⟨_, rfl⟩, fun _ => .str _⟩
    z_len := PySem.W.mg_none_of X G z_len
    z_abs := PySem.W.mg_none_of X G z_abs
    z_all := PySem.W.mg_none_of X G z_all
    z_any := PySem.W.mg_none_of X G z_any
    z_isinstance := PySem.W.mg_none_of X G z_isinstance
    z_repr := PySem.W.mg_none_of X G z_repr
    z_sum := PySem.W.mg_none_of X G z_sum
    z_max := PySem.W.mg_none_of X G z_max
    z_min := PySem.W.mg_none_of X G z_min
    z_int := PySem.W.mg_none_of X G z_int
    z_str := PySem.W.mg_none_of X G z_str
    z_tuple := PySem.W.mg_none_of X G z_tuple
    z_list := PySem.W.mg_none_of X G z_list
    z_range := PySem.W.mg_none_of X G z_range
    z_enumerate := PySem.W.mg_none_of X G z_enumerate
    z_ValueError := PySem.W.mg_none_of X G z_ValueError
    g_MergeError := PySem.W.mg_of X G g_MergeError
    g_BadText := PySem.W.mg_of X G g_BadText
    g_BadKind := PySem.W.mg_of X G g_BadKind
    g_BadLists := PySem.W.mg_of X G g_BadLists
    g_NoCommand := PySem.W.mg_of X G g_NoCommand
    g_Nothing := PySem.W.mg_of X G g_Nothing
    g_TooLarge := PySem.W.mg_of X G g_TooLarge
    p_MergeError := p_MergeError
    s_BadText := s_BadText
    s_BadKind := s_BadKind
    s_BadLists := s_BadLists
    s_NoCommand := s_NoCommand
    p_Nothing := p_Nothing
    s_TooLarge := s_TooLarge
    cnC := cnC
    nd := errs_nodup (ns := ["MergeError", "BadText", "BadKind", "BadLists", "NoCommand", "Nothing", "TooLarge"]) (.cons e_MergeError <| .cons e_BadText <| .cons e_BadKind <| .cons e_BadLists <| .cons e_NoCommand <| .cons e_Nothing <| .cons e_TooLarge <| .nil) (by decide +kernel)
    cn_of := by
      intro C nm h
      simp only [Ad.nmOf] at h
      split at h
      · rename_i e; subst e; cases h; exact ⟨e_MergeError, k_MergeError⟩
      split at h
      · rename_i e; subst e; cases h; exact ⟨e_BadText, k_BadText⟩
      split at h
      · rename_i e; subst e; cases h; exact ⟨e_BadKind, k_BadKind⟩
      split at h
      · rename_i e; subst e; cases h; exact ⟨e_BadLists, k_BadLists⟩
      split at h
      · rename_i e; subst e; cases h; exact ⟨e_NoCommand, k_NoCommand⟩
      split at h
      · rename_i e; subst e; cases h; exact ⟨e_Nothing, k_Nothing⟩
      split at h
      · rename_i e; subst e; cases h; exact ⟨e_TooLarge, k_TooLarge⟩
      cases h
    fld_line := by
      intro C hC
      simp only [Ad.Cs, List.mem_cons, List.not_mem_nil, or_false] at hC
      rcases hC with rfl | rfl | rfl | rfl | rfl | rfl | rfl
      · exact ⟨e_MergeError.xf, y_MergeError_line⟩
      · exact ⟨e_BadText.xf, y_BadText_line⟩
      · exact ⟨e_BadKind.xf, y_BadKind_line⟩
      · exact ⟨e_BadLists.xf, y_BadLists_line⟩
      · exact ⟨e_NoCommand.xf, y_NoCommand_line⟩
      · exact ⟨e_Nothing.xf, y_Nothing_line⟩
      · exact ⟨e_TooLarge.xf, y_TooLarge_line⟩
    fld_column := by
      intro C hC
      simp only [Ad.Cs, List.mem_cons, List.not_mem_nil, or_false] at hC
      rcases hC with rfl | rfl | rfl | rfl | rfl | rfl | rfl
      · exact ⟨e_MergeError.xf, y_MergeError_column⟩
      · exact ⟨e_BadText.xf, y_BadText_column⟩
      · exact ⟨e_BadKind.xf, y_BadKind_column⟩
      · exact ⟨e_BadLists.xf, y_BadLists_column⟩
      · exact ⟨e_NoCommand.xf, y_NoCommand_column⟩
      · exact ⟨e_Nothing.xf, y_Nothing_column⟩
      · exact ⟨e_TooLarge.xf, y_TooLarge_column⟩
    fld_where := by
      intro C hC
      simp only [Ad.Cs, List.mem_cons, List.not_mem_nil, or_false] at hC
      rcases hC with rfl | rfl | rfl | rfl | rfl | rfl | rfl
      · exact ⟨e_MergeError.xf, y_MergeError_where⟩
      · exact ⟨e_BadText.xf, y_BadText_where⟩
      · exact ⟨e_BadKind.xf, y_BadKind_where⟩
      · exact ⟨e_BadLists.xf, y_BadLists_where⟩
      · exact ⟨e_NoCommand.xf, y_NoCommand_where⟩
      · exact ⟨e_Nothing.xf, y_Nothing_where⟩
      · exact ⟨e_TooLarge.xf, y_TooLarge_where⟩
    fld_fault := by
      intro C hC
      simp only [Ad.Cs, List.mem_cons, List.not_mem_nil, or_false] at hC
      rcases hC with rfl | rfl | rfl | rfl | rfl | rfl | rfl
      · exact ⟨e_MergeError.xf, y_MergeError_fault⟩
      · exact ⟨e_BadText.xf, y_BadText_fault⟩
      · exact ⟨e_BadKind.xf, y_BadKind_fault⟩
      · exact ⟨e_BadLists.xf, y_BadLists_fault⟩
      · exact ⟨e_NoCommand.xf, y_NoCommand_fault⟩
      · exact ⟨e_Nothing.xf, y_Nothing_fault⟩
      · exact ⟨e_TooLarge.xf, y_TooLarge_fault⟩
    fld_name := by
      intro C hC
      simp only [Ad.Cs, List.mem_cons, List.not_mem_nil, or_false] at hC
      rcases hC with rfl | rfl | rfl | rfl | rfl | rfl | rfl
      · exact ⟨e_MergeError.xf, y_MergeError_name⟩
      · exact ⟨e_BadText.xf, y_BadText_name⟩
      · exact ⟨e_BadKind.xf, y_BadKind_name⟩
      · exact ⟨e_BadLists.xf, y_BadLists_name⟩
      · exact ⟨e_NoCommand.xf, y_NoCommand_name⟩
      · exact ⟨e_Nothing.xf, y_Nothing_name⟩
      · exact ⟨e_TooLarge.xf, y_TooLarge_name⟩
    fld_what := by
      intro C hC
      simp only [Ad.Cs, List.mem_cons, List.not_mem_nil, or_false] at hC
      rcases hC with rfl | rfl | rfl | rfl | rfl | rfl | rfl
      · exact ⟨e_MergeError.xf, y_MergeError_what⟩
      · exact ⟨e_BadText.xf, y_BadText_what⟩
      · exact ⟨e_BadKind.xf, y_BadKind_what⟩
      · exact ⟨e_BadLists.xf, y_BadLists_what⟩
      · exact ⟨e_NoCommand.xf, y_NoCommand_what⟩
      · exact ⟨e_Nothing.xf, y_Nothing_what⟩
      · exact ⟨e_TooLarge.xf, y_TooLarge_what⟩
    fld_limit := by
      intro C hC
      simp only [Ad.Cs, List.mem_cons, List.not_mem_nil, or_false] at hC
      rcases hC with rfl | rfl | rfl | rfl | rfl | rfl | rfl
      · exact ⟨e_MergeError.xf, y_MergeError_limit⟩
      · exact ⟨e_BadText.xf, y_BadText_limit⟩
      · exact ⟨e_BadKind.xf, y_BadKind_limit⟩
      · exact ⟨e_BadLists.xf, y_BadLists_limit⟩
      · exact ⟨e_NoCommand.xf, y_NoCommand_limit⟩
      · exact ⟨e_Nothing.xf, y_Nothing_limit⟩
      · exact ⟨e_TooLarge.xf, y_TooLarge_limit⟩
    ik_MergeError := by
      intro C hC
      simp only [Ad.Cs, List.mem_cons, List.not_mem_nil, or_false] at hC
      rcases hC with rfl | rfl | rfl | rfl | rfl | rfl | rfl
      · exact ⟨⟨_, e_MergeError⟩, ik_MergeError_MergeError⟩
      · exact ⟨⟨_, e_BadText⟩, ik_BadText_MergeError⟩
      · exact ⟨⟨_, e_BadKind⟩, ik_BadKind_MergeError⟩
      · exact ⟨⟨_, e_BadLists⟩, ik_BadLists_MergeError⟩
      · exact ⟨⟨_, e_NoCommand⟩, ik_NoCommand_MergeError⟩
      · exact ⟨⟨_, e_Nothing⟩, ik_Nothing_MergeError⟩
      · exact ⟨⟨_, e_TooLarge⟩, ik_TooLarge_MergeError⟩
    ik_ValueError := by
      intro C hC
      simp only [Ad.Cs, List.mem_cons, List.not_mem_nil, or_false] at hC
      rcases hC with rfl | rfl | rfl | rfl | rfl | rfl | rfl
      · exact ⟨⟨_, e_MergeError⟩, ik_MergeError_ValueError⟩
      · exact ⟨⟨_, e_BadText⟩, ik_BadText_ValueError⟩
      · exact ⟨⟨_, e_BadKind⟩, ik_BadKind_ValueError⟩
      · exact ⟨⟨_, e_BadLists⟩, ik_BadLists_ValueError⟩
      · exact ⟨⟨_, e_NoCommand⟩, ik_NoCommand_ValueError⟩
      · exact ⟨⟨_, e_Nothing⟩, ik_Nothing_ValueError⟩
      · exact ⟨⟨_, e_TooLarge⟩, ik_TooLarge_ValueError⟩
    mt_MergeError := by
      intro C b h
      obtain rfl : b = true := by
        unfold mtIn at h
        split at h <;> cases h
        rfl
      have hC := mtIn_mem h
      simp only [Ad.M_MergeError, List.mem_cons, List.not_mem_nil, or_false] at hC
      rcases hC with rfl | rfl | rfl | rfl | rfl | rfl | rfl
      · exact mt_MergeError_MergeError
      · exact mt_BadText_MergeError
      · exact mt_BadKind_MergeError
      · exact mt_BadLists_MergeError
      · exact mt_NoCommand_MergeError
      · exact mt_Nothing_MergeError
      · exact mt_TooLarge_MergeError
    mt_Nothing := by
      intro C b h
      obtain rfl : b = true := by
        unfold mtIn at h
        split at h <;> cases h
        rfl
      have hC := mtIn_mem h
      simp only [Ad.M_Nothing, List.mem_cons, List.not_mem_nil, or_false] at hC
      subst hC
      exact mt_Nothing_Nothing
    mt_TooLarge := by
      intro C b h
      obtain rfl : b = true := by
        unfold mtIn at h
        split at h <;> cases h
        rfl
      have hC := mtIn_mem h
      simp only [Ad.M_TooLarge, List.mem_cons, List.not_mem_nil, or_false] at hC
      subst hC
      exact mt_TooLarge_TooLarge }, PySem.W.mg_of X G n_law, fun s u => ?_⟩
  obtain ⟨⟨_, _, _, _, _, _, _, _, _, e, _, _⟩, _⟩ := F_law
  subst e
  exact .of_eq rfl
end K64
-- VPlain
set_option Elab.async false
set_option linter.all false
set_option maxRecDepth 100000
set_option maxHeartbeats 1000000
/-! VPlain: what the functions on trees give, by weakest preconditions: no program in sight. -/
namespace VS
open PySem L2
def wO {α : Type} (o : Option α) (Q : α → Prop) : Prop := match o with
  | some x => Q x
  | none => False
def wE {α : Type} (o : Out α) (Q : α → Env → Prop) : Prop := match o with
  | .ok v e => Q v e
  | _ => False
structure Fin where
  nx : Env → Prop
  rt : T → Env → Prop
  bk : Env → Prop
  ct : Env → Prop
def wS (o : SOut) (D : Fin) : Prop := match o with
  | .nxt e => D.nx e
  | .ret v e => D.rt v e
  | .brk e => D.bk e
  | .cnt e => D.ct e
  | _ => False
def wI (env : Env) (i : Nat) (Q : T → Prop) : Prop := match env[i]? with
  | some (some t) => Q t
  | _ => False
@[simp] theorem wO_some {α : Type} {x : α} {Q : α → Prop} : wO (some x) Q = Q x := rfl
theorem wO_none {α : Type} {Q : α → Prop} : wO (none : Option α) Q = False := rfl
theorem wO_if {α : Type} {c : Prop} [Decidable c] {o : Option α} {Q : α → Prop} : wO (if c then o else none) Q = (c ∧ wO o Q) := by
  by_cases h : c
  · simp [h]
  · simp [h, wO]
theorem wO_mono {α : Type} {o : Option α} {Q R : α → Prop} (h : wO o Q) (k : ∀ x, Q x → R x) : wO o R := by
  cases o with
  | none => exact h
  | some x => exact k x h
theorem wE_mono {α : Type} {o : Out α} {Q R : α → Env → Prop} (h : wE o Q) (k : ∀ x e, Q x e → R x e) : wE o R := by
  cases o with
  | ok v e => exact k v e h
  | exc _ _ => exact h
  | stk => exact h
@[simp] theorem wE_ok {α : Type} {v : α} {e : Env} {Q : α → Env → Prop} : wE (.ok v e) Q = Q v e := rfl
theorem wE_bind {α β : Type} {o : Out α} {g : α → Env → Out β} {Q : β → Env → Prop} : wE (o.bind g) Q = wE o fun v e => wE (g v e) Q := by cases o <;> rfl
theorem wS_bindS {α : Type} {o : Out α} {g : α → Env → SOut} {D : Fin} : wS (o.bindS g) D = wE o fun v e => wS (g v e) D := by cases o <;> rfl
theorem wE_get {α : Type} {o : Out α} {Q : α → Env → Prop} (h : wE o Q) : ∃ v e, o = .ok v e ∧ Q v e := by
  cases o with
  | ok v e => exact ⟨v, e, rfl, h⟩
  | exc _ _ => exact h.elim
  | stk => exact h.elim
theorem wE_of {α : Type} {o : Out α} {v : α} {e : Env} {Q : α → Env → Prop} (h : o = .ok v e) (q : Q v e) : wE o Q := by subst h; exact q
theorem wE_optO {o : Option T} {e : Env} {Q : T → Env → Prop} : wE (optO o e) Q = wO o fun v => Q v e := by cases o <;> rfl
theorem wE_optL {o : Option (List T)} {e : Env} {Q : List T → Env → Prop} : wE (optL o e) Q = wO o fun v => Q v e := by cases o <;> rfl
theorem wE_optB {o : Option Bool} {e : Env} {Q : Bool → Env → Prop} : wE (optB o e) Q = wO o fun v => Q v e := by cases o <;> rfl
theorem wE_rd {i : Nat} {env : Env} {Q : T → Env → Prop} : wE (rd i env) Q = wI env i fun t => Q t env := by
  unfold rd wI
  cases env[i]? with
  | none => rfl
  | some o => cases o <;> rfl
theorem wE_mv {i : Nat} {env : Env} {Q : T → Env → Prop} : wE (mv i env) Q = wI env i fun t => Q t (env.set i none) := by
  unfold mv wI
  cases env[i]? with
  | none => rfl
  | some o => cases o <;> rfl
theorem wE_cst {t : T} {env : Env} {Q : T → Env → Prop} : wE (cst t env) Q = Q t env := rfl
theorem wE_op1 {s : T → Option T} {a : FE} {env : Env} {Q : T → Env → Prop} : wE (op1 s a env) Q = wE (a env) fun x e => wO (s x) fun v => Q v e := by
  simp only [op1, wE_bind, wE_optO]
theorem wE_op2 {s : T → T → Option T} {a b : FE} {env : Env} {Q : T → Env → Prop} : wE (op2 s a b env) Q = wE (a env) fun x e => wE (b e) fun y e => wO (s x y) fun v => Q v e := by
  simp only [op2, wE_bind, wE_optO]
theorem wE_opL {s : List T → Option T} {a : FA} {env : Env} {Q : T → Env → Prop} : wE (opL s a env) Q = wE (a env) fun x e => wO (s x) fun v => Q v e := by
  simp only [opL, wE_bind, wE_optO]
theorem wE_aNil {env : Env} {Q : List T → Env → Prop} : wE (aNil env) Q = Q [] env := rfl
theorem wE_aCons {a : FE} {b : FA} {env : Env} {Q : List T → Env → Prop} : wE (aCons a b env) Q = wE (a env) fun x e => wE (b e) fun xs e => Q (x :: xs) e := by
  simp only [aCons, wE_bind, wE_ok]
theorem wE_tst {s : T → Option Bool} {a : FE} {env : Env} {Q : Bool → Env → Prop} : wE (tst s a env) Q = wE (a env) fun x e => wO (s x) fun v => Q v e := by
  simp only [tst, wE_bind, wE_optB]
theorem wE_if {α : Type} {c : Prop} [Decidable c] {a b : Out α} {Q : α → Env → Prop} : wE (if c then a else b) Q = if c then wE a Q else wE b Q := by
  split <;> rfl
theorem wS_if {c : Prop} [Decidable c] {a b : SOut} {D : Fin} : wS (if c then a else b) D = if c then wS a D else wS b D := by
  split <;> rfl
theorem wE_andT {a b : FT} {env : Env} {Q : Bool → Env → Prop} : wE (andT a b env) Q = wE (a env) fun x e => if x = true then wE (b e) Q else Q false e := by
  simp only [andT, wE_bind, wE_if, wE_ok]
theorem wE_orT {a b : FT} {env : Env} {Q : Bool → Env → Prop} : wE (orT a b env) Q = wE (a env) fun x e => if x = true then Q true e else wE (b e) Q := by
  simp only [orT, wE_bind, wE_if, wE_ok]
theorem wE_notT {a : FT} {env : Env} {Q : Bool → Env → Prop} : wE (notT a env) Q = wE (a env) fun x e => Q (!x) e := by
  simp only [notT, wE_bind, wE_ok]
theorem wE_ife {c : FT} {a b : FE} {env : Env} {Q : T → Env → Prop} : wE (VS.ife c a b env) Q = wE (c env) fun x e => if x = true then wE (a e) Q else wE (b e) Q := by
  simp only [VS.ife, wE_bind, wE_if]
def wB (x : T) (a b : Prop) : Prop := match x with
  | .bl true => a
  | .bl false => b
  | _ => False
theorem wB_bl {x : Bool} {a b : Prop} : wB (.bl x) a b = if x = true then a else b := by cases x <;> rfl
theorem wE_andV {a b : FE} {env : Env} {Q : T → Env → Prop} : wE (andV a b env) Q = wE (a env) fun x e => wB x (wE (b e) Q) (Q (.bl false) e) := by
  simp only [andV, wE_bind]
  congr 1
  funext x e
  unfold wB
  cases x with
  | bl b => cases b <;> rfl
  | _ => rfl
theorem wE_orV {a b : FE} {env : Env} {Q : T → Env → Prop} : wE (orV a b env) Q = wE (a env) fun x e => wB x (Q (.bl true) e) (wE (b e) Q) := by
  simp only [orV, wE_bind]
  congr 1
  funext x e
  unfold wB
  cases x with
  | bl b => cases b <;> rfl
  | _ => rfl
theorem wE_chn {s1 s2 : T → T → Option T} {a b c : FE} {env : Env} {Q : T → Env → Prop} : wE (chn s1 s2 a b c env) Q = wE (a env) fun x e => wE (b e) fun y e => wO (s1 x y) fun k => wB k (wE (c e) fun z e => wO (s2 y z) fun v => Q v e) (Q (.bl false) e) := by
  simp only [chn, wE_bind, wE_optO]
  congr 1
  funext x e
  congr 1
  funext y e
  congr 1
  funext k
  unfold wB
  cases k with
  | bl b =>
    cases b
    · rfl
    · simp only [wE_bind, wE_optO]
  | _ => rfl
def wX (env : Env) (j : Nat) (Q : List T → Prop) : Prop := match lstAt env j with
  | some xs => Q xs
  | none => False
theorem wE_onO {j : Nat} {g : FE} {env : Env} {Q : T → Env → Prop} : wE (onO j g env) Q = (hasO env j = true ∧ wE (g env) Q) := by
  unfold onO
  split
  · rename_i h; simp [h]
  · rename_i h; simp [h, wE]
def wIx (xs : List T) (y : T) (Q : T → Prop) : Prop := match y with
  | .int i => wO (atI xs i) Q
  | _ => False
theorem wE_ixO {j : Nat} {f : FE} {env : Env} {Q : T → Env → Prop} : wE (VS.ixO j f env) Q = (hasO env j = true ∧ wE (f env) fun y e => wX e j fun xs => wIx xs y fun v => Q v e) := by
  simp only [VS.ixO, wE_onO, wE_bind]
  congr 2
  funext y e
  unfold ixK wX wIx
  cases lstAt e j with
  | none => rfl
  | some xs => cases y <;> first | rfl | exact wE_optO
theorem wE_lenOw {j : Nat} {env : Env} {Q : T → Env → Prop} : wE (lenOw j env) Q = wX env j fun xs => Q (.int xs.length) env := by
  unfold lenOw wX
  cases lstAt env j <;> rfl
theorem wE_mtO {j : Nat} {m : List T → List T → Option (T × List T)} {f : FA} {env : Env} {Q : T → Env → Prop} : wE (VS.mtO j m f env) Q = (hasO env j = true ∧ wE (f env) fun ys e => wX e j fun xs => wO (m xs ys) fun p => Q p.1 (e.set j (some (.lst p.2)))) := by
  simp only [VS.mtO, wE_onO, wE_bind]
  congr 2
  funext y e
  unfold wX
  cases lstAt e j with
  | none => rfl
  | some xs =>
    have h : ∀ o : Option (T × List T), wE (match o with
      | some (z, xs') => Out.ok z (e.set j (some (.lst xs')))
      | none => .stk) Q = wO o fun p => Q p.1 (e.set j (some (.lst p.2))) := fun o => by cases o <;> rfl
    exact h _
def wInt (x : T) (Q : Int → Prop) : Prop := match x with
  | .int i => Q i
  | _ => False
theorem wInt_int {i : Int} {Q : Int → Prop} : wInt (.int i) Q = Q i := rfl
theorem wE_oNone {env : Env} {Q : Option Int → Env → Prop} : wE (oNone env) Q = Q none env := rfl
theorem wE_oSome {f : FE} {env : Env} {Q : Option Int → Env → Prop} : wE (oSome f env) Q = wE (f env) fun x e => wInt x fun i => Q (some i) e := by
  simp only [oSome, wE_bind]
  congr 1
  funext x e
  cases x <;> rfl
theorem wE_slE {f : FE} {l h : FO} {env : Env} {Q : T → Env → Prop} : wE (slE f l h env) Q = wE (f env) fun x e => wE (l e) fun i e => wE (h e) fun j e => wO (slT x i j) fun v => Q v e := by
  simp only [slE, wE_bind, wE_optO]
theorem wE_mS {s : T → List T → Option T} {f : FE} {g : FA} {env : Env} {Q : T → Env → Prop} : wE (VS.mS s f g env) Q = wE (f env) fun x e => (isStr x = true ∧ wE (g e) fun ys e => wO (s x ys) fun v => Q v e) := by
  simp only [VS.mS, wE_bind]
  congr 1
  funext x e
  rw [wE_if]
  simp only [wE_bind, wE_optO]
  split
  · rename_i h; simp [h]
  · rename_i h; simp [h, wE]
theorem wE_cal0 {f : List T → Out T} {g : FA} {env : Env} {Q : T → Env → Prop} : wE (VS.cal0 f g env) Q = wE (g env) fun ts e => wE (f ts) fun v _ => Q v e := by
  simp only [VS.cal0, wE_bind]
  congr 1
  funext ts e
  unfold app0
  cases f ts <;> rfl
theorem wE_app1 {f : List T → Out T} {j : Nat} {ts : List T} {e : Env} {Q : T → Env → Prop} : wE (app1 f j ts e) Q = wI e j fun t => wE (f (t :: ts)) fun v p => Q v (e.set j (p.headD none)) := by
  unfold app1 wI
  cases e[j]? with
  | none => rfl
  | some o =>
    cases o with
    | none => rfl
    | some t =>
      show wE (match f (t :: ts) with
        | .ok v penv => .ok v (e.set j (penv.headD none))
        | .exc x penv => .exc x (e.set j (penv.headD none))
        | .stk => .stk) Q = wE (f (t :: ts)) _
      cases f (t :: ts) <;> rfl
theorem wE_cal1 {f : List T → Out T} {j : Nat} {g : FA} {env : Env} {Q : T → Env → Prop} : wE (VS.cal1 f j g env) Q = wI env j fun _ => wE (g env) fun ts e => wI e j fun t => wE (f (t :: ts)) fun v p => Q v (e.set j (p.headD none)) := by
  unfold VS.cal1 wI
  cases env[j]? with
  | none => rfl
  | some o =>
    cases o with
    | none => rfl
    | some t =>
      show wE ((g env).bind _) Q = _
      rw [wE_bind]
      simp only [wE_app1]
      rfl
theorem wE_iSeq {f : FE} {env : Env} {Q : List T → Env → Prop} : wE (iSeq f env) Q = wE (f env) fun x e => wO (seqO x) fun v => Q v e := by
  simp only [iSeq, wE_bind, wE_optL]
theorem wE_iOpt {s : List T → Option (List T)} {f : FA} {env : Env} {Q : List T → Env → Prop} : wE (iOpt s f env) Q = wE (f env) fun x e => wO (s x) fun v => Q v e := by
  simp only [iOpt, wE_bind, wE_optL]
theorem wE_tYesF {env : Env} {Q : Bool → Env → Prop} : wE (tYesF env) Q = Q true env := rfl
/-! ### statements -/
theorem wS_sSeq {f g : FS} {env : Env} {D : Fin} : wS (sSeq f g env) D = wS (f env) { D with nx := fun e => wS (g e) D } := by
  unfold sSeq
  cases f env <;> rfl
theorem wS_sNil {env : Env} {D : Fin} : wS (sNil env) D = D.nx env := rfl
theorem wS_sBrk {env : Env} {D : Fin} : wS (sBrk env) D = D.bk env := rfl
theorem wS_sCnt {env : Env} {D : Fin} : wS (sCnt env) D = D.ct env := rfl
theorem wS_sEx {f : FE} {env : Env} {D : Fin} : wS (sEx f env) D = wE (f env) fun _ e => D.nx e := by
  simp only [sEx, wS_bindS]; rfl
theorem wS_sRet {f : FE} {env : Env} {D : Fin} : wS (sRet f env) D = wE (f env) fun v e => D.rt v e := by
  simp only [sRet, wS_bindS]; rfl
theorem wS_sIf {c : FT} {a b : FS} {env : Env} {D : Fin} : wS (sIf c a b env) D = wE (c env) fun x e => if x = true then wS (a e) D else wS (b e) D := by
  simp only [sIf, wS_bindS, wS_if]
theorem wS_sSet {i : Nat} {f : FE} {env : Env} {D : Fin} : wS (sSet i f env) D = wE (f env) fun v e => (i < e.length ∧ D.nx (e.set i (some v))) := by
  simp only [sSet, wS_bindS]
  congr 1
  funext v e
  rw [wS_if]
  split
  · rename_i h; simp only [h, true_and]; rfl
  · rename_i h; simp only [h, false_and]; rfl
theorem wS_sAsg {f : FE} {g : T → Env → Option Env} {env : Env} {D : Fin} : wS (sAsg f g env) D = wE (f env) fun v e => wO (g v e) D.nx := by
  simp only [sAsg, wS_bindS]
  congr 1
  funext v e
  unfold optS
  split
  · rename_i h; rw [h]; rfl
  · rename_i h; rw [h]; rfl
theorem wS_mono {o : SOut} {D D' : Fin} (h : wS o D) (n : ∀ e, D.nx e → D'.nx e) (r : ∀ v e, D.rt v e → D'.rt v e) (b : ∀ e, D.bk e → D'.bk e) (c : ∀ e, D.ct e → D'.ct e) : wS o D' := by
  cases o with
  | nxt e => exact n e h
  | ret v e => exact r v e h
  | brk e => exact b e h
  | cnt e => exact c e h
  | exc _ _ => exact h
  | stk => exact h
theorem wS_stK {j : Nat} {v i : T} {env : Env} {D : Fin} : wS (stK j v i env) D = wX env j fun xs => wInt i fun k => wO (ixN xs.length k) fun n => D.nx (env.set j (some (.lst (xs.set n v)))) := by
  unfold stK wX
  cases lstAt env j with
  | none => rfl
  | some xs =>
    cases i with
    | int k =>
      have h : ∀ o : Option Nat, wS (match o with
        | some n => .nxt (env.set j (some (.lst (xs.set n v))))
        | none => .stk) D = wO o fun n => D.nx (env.set j (some (.lst (xs.set n v)))) := fun o => by cases o <;> rfl
      exact h _
    | _ => rfl
theorem wS_stO {j : Nat} {fv fi : FE} {env : Env} {D : Fin} : wS (VS.stO j fv fi env) D = wE (fv env) fun v e => (hasO e j = true ∧ wE (fi e) fun i e => wX e j fun xs => wInt i fun k => wO (ixN xs.length k) fun n => D.nx (e.set j (some (.lst (xs.set n v))))) := by
  simp only [VS.stO, wS_bindS]
  congr 1
  funext v e
  rw [wS_if]
  split
  · rename_i h; simp only [h, true_and, wS_bindS, wS_stK]
  · rename_i h; simp only [h, Bool.false_eq_true, false_and]; rfl
theorem wS_auK {j : Nat} {s : T → T → Option T} {i x y : T} {env : Env} {D : Fin} : wS (auK j s i x y env) D = wO (s x y) fun z => wX env j fun xs => wInt i fun k => wO (ixN xs.length k) fun n => D.nx (env.set j (some (.lst (xs.set n z)))) := by
  unfold auK
  cases s x y with
  | none => rfl
  | some z => exact wS_stK
theorem wS_auG {j : Nat} {s : T → T → Option T} {fe : FE} {i : T} {env : Env} {D : Fin} : wS (auG j s fe i env) D = wX env j fun xs => wIx xs i fun x => wE (fe env) fun y e => wO (s x y) fun z => wX e j fun xs => wInt i fun k => wO (ixN xs.length k) fun n => D.nx (e.set j (some (.lst (xs.set n z)))) := by
  unfold auG wX
  cases lstAt env j with
  | none => rfl
  | some xs =>
    cases i with
    | int k =>
      have h : ∀ o : Option T, wS (match o with
        | some x => (fe env).bindS (auK j s (.int k) x)
        | none => .stk) D = wO o fun x => wE (fe env) fun y e => wO (s x y) fun z => wX e j fun xs => wInt (.int k) fun k => wO (ixN xs.length k) fun n => D.nx (e.set j (some (.lst (xs.set n z)))) := fun o => by
        cases o with
        | none => rfl
        | some x =>
          show wS ((fe env).bindS _) D = _
          rw [wS_bindS]
          simp only [wS_auK]
          rfl
      exact h _
    | _ => rfl
theorem wS_augO {j : Nat} {s : T → T → Option T} {fi fe : FE} {env : Env} {D : Fin} : wS (VS.augO j s fi fe env) D = (hasO env j = true ∧ wE (fi env) fun i e => wX e j fun xs => wIx xs i fun x => wE (fe e) fun y e => wO (s x y) fun z => wX e j fun xs => wInt i fun k => wO (ixN xs.length k) fun n => D.nx (e.set j (some (.lst (xs.set n z))))) := by
  unfold VS.augO
  rw [wS_if]
  split
  · rename_i h; simp only [h, true_and, wS_bindS, wS_auG]
  · rename_i h; simp only [h, Bool.false_eq_true, false_and]; rfl
theorem wS_par2 {i j : Nat} {a b : FE} {env : Env} {D : Fin} : wS (VS.par2 i j (aCons a (aCons b aNil)) env) D = wE (a env) fun v e => wE (b e) fun w e => (i < e.length ∧ j < e.length) ∧ D.nx ((e.set i (some v)).set j (some w)) := by
  simp only [VS.par2, wS_bindS, wE_aCons, wE_aNil]
  congr 1
  funext v e
  congr 1
  funext w e
  rw [wS_if]
  split
  · rename_i h; simp only [h, true_and]; rfl
  · rename_i h; simp only [h, false_and]; rfl
theorem wS_par3 {i j l : Nat} {a b c : FE} {env : Env} {D : Fin} : wS (VS.par3 i j l (aCons a (aCons b (aCons c aNil))) env) D = wE (a env) fun u e => wE (b e) fun v e => wE (c e) fun w e => (i < e.length ∧ j < e.length ∧ l < e.length) ∧ D.nx (((e.set i (some u)).set j (some v)).set l (some w)) := by
  simp only [VS.par3, wS_bindS, wE_aCons, wE_aNil]
  congr 1
  funext u e
  congr 1
  funext v e
  congr 1
  funext w e
  rw [wS_if]
  split
  · rename_i h; simp only [h, true_and]; rfl
  · rename_i h; simp only [h, false_and]; rfl
theorem wS_sParO {js : List Nat} {f : FA} {env : Env} {D : Fin} : wS (sParO js f env) D = wE (f env) fun vs e => (vs.length = js.length ∧ vs.length ≤ 1000 ∧ (js.all fun j => decide (j < e.length)) = true) ∧ D.nx (setE e js vs) := by
  simp only [sParO, wS_bindS]
  congr 1
  funext vs e
  rw [wS_if]
  split
  · rename_i h; exact propext ⟨fun q => ⟨h, q⟩, fun q => q.2⟩
  · rename_i h; exact propext ⟨fun q => q.elim, fun q => (h q.1).elim⟩
theorem wO_gNm {i : Nat} {x : T} {env : Env} {Q : Env → Prop} : wO (gNm i x env) Q = (i < env.length ∧ Q (env.set i (some x))) := by
  unfold gNm
  split
  · rename_i h; simp [h, wO]
  · rename_i h; simp [h, wO]
def wTu (x : T) (Q : List T → Prop) : Prop := match x with
  | .tup xs => Q xs
  | _ => False
def wLi (x : T) (Q : List T → Prop) : Prop := match x with
  | .lst xs => Q xs
  | _ => False
theorem wTu_tup {xs : List T} {Q : List T → Prop} : wTu (.tup xs) Q = Q xs := rfl
theorem wLi_lst {xs : List T} {Q : List T → Prop} : wLi (.lst xs) Q = Q xs := rfl
theorem wO_gTu {gs : List T → Env → Option Env} {n : Nat} {x : T} {env : Env} {Q : Env → Prop} : wO (gTu gs n x env) Q = wTu x fun xs => (xs.length = n ∧ wO (gs xs env) Q) := by
  cases x with
  | tup xs =>
    show wO (if xs.length = n then gs xs env else none) Q = _
    split
    · rename_i h; simp [h, wTu]
    · rename_i h; simp [h, wTu, wO]
  | _ => rfl
theorem wO_gLi {gs : List T → Env → Option Env} {n : Nat} {x : T} {env : Env} {Q : Env → Prop} : wO (gLi gs n x env) Q = wLi x fun xs => (xs.length = n ∧ wO (gs xs env) Q) := by
  cases x with
  | lst xs =>
    show wO (if xs.length = n then gs xs env else none) Q = _
    split
    · rename_i h; simp [h, wLi]
    · rename_i h; simp [h, wLi, wO]
  | _ => rfl
theorem wO_gCo {g : T → Env → Option Env} {gs : List T → Env → Option Env} {x : T} {xs : List T} {env : Env} {Q : Env → Prop} : wO (gCo g gs (x :: xs) env) Q = wO (g x env) fun e => wO (gs xs e) Q := by
  show wO ((g x env).bind (gs xs)) Q = _
  cases g x env <;> rfl
theorem wO_gNl {env : Env} {Q : Env → Prop} : wO (gNl [] env) Q = Q env := rfl
/-! ### loops -/
theorem wS_tgB {g : T → Env → Option Env} {b : FS} {x : T} {env : Env} {D : Fin} : wS (tgB g b x env) D = wO (g x env) fun e => wS (b e) D := by
  unfold tgB
  cases g x env <;> rfl
theorem wS_sFor {f : FA} {g : T → Env → Option Env} {b : FS} {env : Env} {D : Fin} : wS (sFor f g b env) D = wE (f env) fun items e => wS (forL items (tgB g b) e) D := by
  simp only [sFor, wS_bindS]
theorem wS_forL {b : T → Env → SOut} {D : Fin} (I : Nat → Env → Prop) : ∀ (xs : List T) (n : Nat) (env : Env), I n env →
    (∀ i x e, xs[i]? = some x → I (n + i) e → wS (b x e) { D with nx := I (n + i + 1), ct := I (n + i + 1), bk := D.nx }) → (∀ e, I (n + xs.length) e → D.nx e) → wS (forL xs b env) D
  | [], n, env, h, _, fin => fin env h
  | x :: xs, n, env, h, step, fin => by
    have q := step 0 x env rfl h
    have rec_ : ∀ e, I (n + 1) e → wS (forL xs b e) D := fun e he => wS_forL I xs (n + 1) e he
      (fun i y e hy hi => by
        have := step (i + 1) y e (by simpa using hy) (by rw [show n + (i + 1) = n + 1 + i by omega]; exact hi)
        rw [show n + (i + 1) + 1 = n + 1 + i + 1 by omega] at this
        exact this)
      fun e he => fin e (by rw [show n + (x :: xs).length = n + 1 + xs.length by simp; omega]; exact he)
    show wS (match b x env with
      | .nxt e => forL xs b e
      | .cnt e => forL xs b e
      | .brk e => .nxt e
      | .ret v e => .ret v e
      | .exc x e => .exc x e
      | .stk => .stk) D
    generalize b x env = o at q
    cases o with
    | nxt e => exact rec_ e q
    | cnt e => exact rec_ e q
    | brk e => exact q
    | ret v e => exact q
    | exc _ _ => exact q
    | stk => exact q
theorem wS_whL {c : FT} {b : FS} {D : Fin} (I : Nat → Env → Prop) (step : ∀ m e, I m e → wE (c e) fun x e => if x = true then ∃ m', m = m' + 1 ∧ wS (b e) { D with nx := I m', ct := I m', bk := D.nx } else D.nx e) : ∀ (m n : Nat) (env : Env), m < n → I m env → wS (whL n c b env) D
  | _, 0, _, hn, _ => absurd hn (by omega)
  | m, n + 1, env, hn, h => by
    have q := step m env h
    show wS ((c env).bindS _) D
    rw [wS_bindS]
    refine wE_mono q fun x e hx => ?_
    rw [wS_if]
    split
    · rename_i hb
      rw [if_pos hb] at hx
      obtain ⟨m', e1, hw⟩ := hx
      have rec_ : ∀ e, I m' e → wS (whL n c b e) D := fun e he => wS_whL I step m' n e (by omega) he
      generalize b e = o at hw
      cases o with
      | nxt e => exact rec_ e hw
      | cnt e => exact rec_ e hw
      | brk e => exact hw
      | ret v e => exact hw
      | exc _ _ => exact hw
      | stk => exact hw
    · rename_i hb
      rw [if_neg hb] at hx
      exact hx
theorem wE_lcL {b : T → Env → Out (Option T)} {Q : List T → Env → Prop} (I : Nat → List T → Env → Prop) : ∀ (xs : List T) (n : Nat) (acc : List T) (env : Env), I n acc env →
    (∀ i x a e, xs[i]? = some x → I (n + i) a e → wE (b x e) fun o e' => I (n + i + 1) (match o with | some y => a ++ [y] | none => a) e') → (∀ a e, I (n + xs.length) a e → Q a e) → wE (lcL b xs acc env) Q
  | [], n, acc, env, h, _, fin => fin acc env h
  | x :: xs, n, acc, env, h, step, fin => by
    have q := step 0 x acc env rfl h
    have rec_ : ∀ a e, I (n + 1) a e → wE (lcL b xs a e) Q := fun a e he => wE_lcL I xs (n + 1) a e he
      (fun i y a e hy hi => by
        have := step (i + 1) y a e (by simpa using hy) (by rw [show n + (i + 1) = n + 1 + i by omega]; exact hi)
        rw [show n + (i + 1) + 1 = n + 1 + i + 1 by omega] at this
        exact this)
      fun a e he => fin a e (by rw [show n + (x :: xs).length = n + 1 + xs.length by simp; omega]; exact he)
    obtain ⟨o, e, eb, hq⟩ := wE_get q
    show wE (match b x env with
      | .ok (some y) env' => lcL b xs (acc ++ [y]) env'
      | .ok none env' => lcL b xs acc env'
      | _ => .stk) Q
    rw [eb]
    cases o with
    | none => exact rec_ _ _ hq
    | some y => exact rec_ _ _ hq
theorem wE_lcB {vs : List Nat} {g : T → Env → Option Env} {tt : FT} {te : FE} {x : T} {env : Env} {Q : Option T → Env → Prop} : wE (lcB vs g tt te x env) Q = wO (g x env) fun e => wE (tt e) fun k e => if k = true then wE (te e) fun y e => Q (some y) (wipeE e vs) else Q none (wipeE e vs) := by
  unfold lcB
  cases g x env with
  | none => rfl
  | some e => simp only [wE_bind, wE_if, wE_ok]; rfl
theorem wE_eLc {vs : List Nat} {f : FA} {g : T → Env → Option Env} {tt : FT} {te : FE} {env : Env} {Q : T → Env → Prop} : wE (eLc vs f g tt te env) Q = wE (f env) fun items e => (items.length ≤ 10000000 ∧ wE (lcL (lcB vs g tt te) items [] (wipeE e vs)) fun ys e2 => Q (.lst ys) (restE e vs e2)) := by
  simp only [eLc, wE_bind]
  congr 1
  funext items e
  rw [wE_if]
  split
  · rename_i h; simp only [h, true_and, wE_bind, wE_ok]
  · rename_i h; simp only [h, false_and]; rfl
theorem wE_defF {pms : List Md} {r : Md} {n : Nat} {body : FS} {ts : List T} {Q : T → Env → Prop} (hl : ts.length = pms.length)
    (h : wS (body (ts.map some ++ List.replicate n none)) { nx := fun e => r = .frz ∧ Q .non (mask pms e), rt := fun v e => Q v (mask pms e), bk := fun _ => False, ct := fun _ => False }) : wE (defF pms r n body ts) Q := by
  unfold defF
  rw [if_pos hl]
  generalize body (ts.map some ++ List.replicate n none) = o at h
  cases o with
  | nxt e =>
    obtain ⟨rfl, q⟩ := h
    exact q
  | ret v e => exact h
  | brk e => exact h
  | cnt e => exact h
  | exc _ _ => exact h
  | stk => exact h
end VS
-- VEq
set_option Elab.async false
set_option linter.all false
set_option maxRecDepth 100000
set_option maxHeartbeats 1000000
/-! VEq: the functions on trees evaluated from within, by simp. -/
namespace VS
open PySem L2
section
variable {α β : Type} {env : Env}
@[simp] theorem q_bind_ok {v : α} {g : α → Env → Out β} : (Out.ok v env).bind g = g v env := rfl
@[simp] theorem q_bindS_ok {v : α} {g : α → Env → SOut} : (Out.ok v env).bindS g = g v env := rfl
@[simp] theorem q_seq_nx {g : Env → SOut} : (SOut.nxt env).seq g = g env := rfl
@[simp] theorem q_seq_rt {v : T} {g : Env → SOut} : (SOut.ret v env).seq g = .ret v env := rfl
@[simp] theorem q_seq_bk {g : Env → SOut} : (SOut.brk env).seq g = .brk env := rfl
@[simp] theorem q_seq_ct {g : Env → SOut} : (SOut.cnt env).seq g = .cnt env := rfl
@[simp] theorem q_seq_ex {x : Exc} {g : Env → SOut} : (SOut.exc x env).seq g = .exc x env := rfl
@[simp] theorem q_optO {c : T} : optO (some c) env = .ok c env := rfl
@[simp] theorem q_optL {c : List T} : optL (some c) env = .ok c env := rfl
@[simp] theorem q_optB {c : Bool} : optB (some c) env = .ok c env := rfl
@[simp] theorem q_optS : optS (some env) = .nxt env := rfl
@[simp] theorem q_cst {t : T} : cst t env = .ok t env := rfl
@[simp] theorem q_rd0 {t : T} : rd 0 (some t :: env) = .ok t (some t :: env) := rfl
theorem q_rd {i : Nat} {t : T} (h : env[i]? = some (some t)) : rd i env = .ok t env := by unfold rd; rw [h]
@[simp] theorem q_mv {i : Nat} : mv i env = (match env[i]? with
  | some (some t) => .ok t (env.set i none)
  | _ => .stk) := rfl
@[simp] theorem q_rdE {i : Nat} : rd i env = (match env[i]? with
  | some (some t) => .ok t env
  | _ => .stk) := rfl
@[simp] theorem q_op1 {s : T → Option T} {a : FE} : op1 s a env = (a env).bind fun x => optO (s x) := rfl
@[simp] theorem q_op2 {s : T → T → Option T} {a b : FE} : op2 s a b env = (a env).bind fun x env => (b env).bind fun y => optO (s x y) := rfl
@[simp] theorem q_opL {s : List T → Option T} {a : FA} : opL s a env = (a env).bind fun x => optO (s x) := rfl
@[simp] theorem q_aNil : aNil env = .ok [] env := rfl
@[simp] theorem q_aCons {a : FE} {as : FA} : aCons a as env = (a env).bind fun x env => (as env).bind fun xs env => .ok (x :: xs) env := rfl
@[simp] theorem q_tst {s : T → Option Bool} {a : FE} : tst s a env = (a env).bind fun x => optB (s x) := rfl
@[simp] theorem q_andT {a b : FT} : andT a b env = (a env).bind fun x env => if x = true then b env else .ok false env := rfl
@[simp] theorem q_orT {a b : FT} : orT a b env = (a env).bind fun x env => if x = true then .ok true env else b env := rfl
@[simp] theorem q_notT {a : FT} : notT a env = (a env).bind fun x env => .ok (!x) env := rfl
@[simp] theorem q_ife {c : FT} {a b : FE} : VS.ife c a b env = (c env).bind fun x env => if x = true then a env else b env := rfl
@[simp] theorem q_andV {a b : FE} : andV a b env = (a env).bind fun x env => (match x with
  | .bl true => b env
  | .bl false => .ok (.bl false) env
  | _ => .stk) := rfl
@[simp] theorem q_orV {a b : FE} : orV a b env = (a env).bind fun x env => (match x with
  | .bl false => b env
  | .bl true => .ok (.bl true) env
  | _ => .stk) := rfl
@[simp] theorem q_chn {s1 s2 : T → T → Option T} {a b c : FE} : chn s1 s2 a b c env = (a env).bind fun x env => (b env).bind fun y env => (optO (s1 x y) env).bind fun k env => (match k with
  | .bl true => (c env).bind fun z => optO (s2 y z)
  | .bl false => .ok (.bl false) env
  | _ => .stk) := rfl
@[simp] theorem q_has0 {t : T} : hasO (some t :: env) 0 = true := rfl
@[simp] theorem q_hasS {x : Option T} {i : Nat} : hasO (x :: env) (i + 1) = hasO env i := by simp [hasO]
@[simp] theorem q_lst0 {xs : List T} : lstAt (some (.lst xs) :: env) 0 = some xs := rfl
@[simp] theorem q_lstS {x : Option T} {i : Nat} : lstAt (x :: env) (i + 1) = lstAt env i := by simp [lstAt]
@[simp] theorem q_onO {j : Nat} {g : FE} : onO j g env = if hasO env j = true then g env else .stk := rfl
@[simp] theorem q_ixK {j : Nat} {i : Int} : ixK j (.int i) env = (match lstAt env j with
  | some xs => optO (atI xs i) env
  | none => .stk) := by
  unfold ixK
  cases lstAt env j <;> rfl
@[simp] theorem q_ixO {j : Nat} {f : FE} : VS.ixO j f env = onO j (fun env => (f env).bind (ixK j)) env := rfl
@[simp] theorem q_lenOw {j : Nat} : lenOw j env = (match lstAt env j with
  | some xs => .ok (.int xs.length) env
  | none => .stk) := rfl
@[simp] theorem q_mtO {j : Nat} {m : List T → List T → Option (T × List T)} {f : FA} : VS.mtO j m f env = onO j (fun env => (f env).bind fun ys env => match lstAt env j with
  | some xs => (match m xs ys with
    | some (z, xs') => .ok z (env.set j (some (.lst xs')))
    | none => .stk)
  | none => .stk) env := rfl
@[simp] theorem q_oNone : oNone env = .ok none env := rfl
@[simp] theorem q_oIntK {i : Int} : oIntK (.int i) env = .ok (some i) env := rfl
@[simp] theorem q_oSome {f : FE} : oSome f env = (f env).bind oIntK := rfl
@[simp] theorem q_slE {f : FE} {l h : FO} : slE f l h env = (f env).bind fun x env => (l env).bind fun i env => (h env).bind fun j => optO (slT x i j) := rfl
@[simp] theorem q_mS {s : T → List T → Option T} {f : FE} {g : FA} : VS.mS s f g env = (f env).bind fun x env => if isStr x = true then (g env).bind fun ys => optO (s x ys) else .stk := rfl
@[simp] theorem q_isStr {a : Str} : isStr (.str a) = true := rfl
theorem q_cal0 {f : List T → Out T} {g : FA} {ts : List T} {env' p : Env} {v : T} (hg : g env = .ok ts env') (hf : f ts = .ok v p) : VS.cal0 f g env = .ok v env' := by
  show (g env).bind (app0 f) = _
  rw [hg]
  show app0 f ts env' = _
  unfold app0
  rw [hf]
@[simp] theorem q_cal0E {f : List T → Out T} {g : FA} : VS.cal0 f g env = (g env).bind (app0 f) := rfl
@[simp] theorem q_app0 {f : List T → Out T} {ts : List T} : app0 f ts env = (match f ts with
  | .ok v _ => .ok v env
  | .exc x _ => .exc x env
  | .stk => .stk) := rfl
@[simp] theorem q_cal1 {f : List T → Out T} {j : Nat} {g : FA} : VS.cal1 f j g env = (match env[j]? with
  | some (some _) => (g env).bind (app1 f j)
  | _ => .stk) := rfl
@[simp] theorem q_app1 {f : List T → Out T} {j : Nat} {ts : List T} : app1 f j ts env = (match env[j]? with
  | some (some t0) => (match f (t0 :: ts) with
    | .ok v penv => .ok v (env.set j (penv.headD none))
    | .exc x penv => .exc x (env.set j (penv.headD none))
    | .stk => .stk)
  | _ => .stk) := rfl
@[simp] theorem q_iSeq {f : FE} : iSeq f env = (f env).bind fun x => optL (seqO x) := rfl
@[simp] theorem q_iOpt {s : List T → Option (List T)} {f : FA} : iOpt s f env = (f env).bind fun x => optL (s x) := rfl
@[simp] theorem q_tYesF : tYesF env = .ok true env := rfl
@[simp] theorem q_sSeq {f g : FS} : sSeq f g env = (f env).seq g := rfl
@[simp] theorem q_sNil : sNil env = .nxt env := rfl
@[simp] theorem q_sBrk : sBrk env = .brk env := rfl
@[simp] theorem q_sCnt : sCnt env = .cnt env := rfl
@[simp] theorem q_sEx {f : FE} : sEx f env = (f env).bindS fun _ env => .nxt env := rfl
@[simp] theorem q_sRet {f : FE} : sRet f env = (f env).bindS fun v env => .ret v env := rfl
@[simp] theorem q_sIf {c : FT} {a b : FS} : sIf c a b env = (c env).bindS fun x env => if x = true then a env else b env := rfl
@[simp] theorem q_sSet {i : Nat} {f : FE} : sSet i f env = (f env).bindS fun v env => if i < env.length then .nxt (env.set i (some v)) else .stk := rfl
@[simp] theorem q_sAsg {f : FE} {g : T → Env → Option Env} : sAsg f g env = (f env).bindS fun x env => optS (g x env) := rfl
@[simp] theorem q_stK {j : Nat} {v : T} {k : Int} : stK j v (.int k) env = (match lstAt env j with
  | some xs => (match ixN xs.length k with
    | some n => .nxt (env.set j (some (.lst (xs.set n v))))
    | none => .stk)
  | none => .stk) := by
  unfold stK
  cases lstAt env j <;> rfl
@[simp] theorem q_stO {j : Nat} {fv fi : FE} : VS.stO j fv fi env = (fv env).bindS fun v env => if hasO env j = true then (fi env).bindS (stK j v) else .stk := rfl
@[simp] theorem q_auK {j : Nat} {s : T → T → Option T} {i x y : T} : auK j s i x y env = (match s x y with
  | some z => stK j z i env
  | none => .stk) := rfl
@[simp] theorem q_auG {j : Nat} {s : T → T → Option T} {fe : FE} {k : Int} : auG j s fe (.int k) env = (match lstAt env j with
  | some xs => (match atI xs k with
    | some x => (fe env).bindS (auK j s (.int k) x)
    | none => .stk)
  | none => .stk) := by
  unfold auG
  cases lstAt env j <;> rfl
@[simp] theorem q_augO {j : Nat} {s : T → T → Option T} {fi fe : FE} : VS.augO j s fi fe env = if hasO env j = true then (fi env).bindS (auG j s fe) else .stk := rfl
@[simp] theorem q_fin_rt {pms : List Md} {r : Md} {v : T} : finF pms r (.ret v env) = .ok v (mask pms env) := rfl
@[simp] theorem q_fin_nx {pms : List Md} : finF pms .frz (.nxt env) = .ok .non (mask pms env) := rfl
@[simp] theorem q_fin_ex {pms : List Md} {r : Md} {x : Exc} : finF pms r (.exc x env) = .exc x (mask pms env) := rfl
@[simp] theorem q_mask_nil : mask [] env = [] := by cases env <;> rfl
@[simp] theorem q_mask_frz {pms : List Md} {eo : Option T} : mask (.frz :: pms) (eo :: env) = none :: mask pms env := rfl
@[simp] theorem q_mask_own {pms : List Md} {m : Md} {eo : Option T} : mask (.own m :: pms) (eo :: env) = eo :: mask pms env := rfl
end
end VS
-- VPlain2
set_option Elab.async false
set_option linter.all false
set_option maxRecDepth 100000
set_option maxHeartbeats 1000000
/-! VPlain2: slots, items and values, for simp. -/
namespace VS
open PySem L2
theorem wI_zero {t : T} {e : Env} {Q : T → Prop} : wI (some t :: e) 0 Q = Q t := rfl
theorem wI_succ {x : Option T} {e : Env} {i : Nat} {Q : T → Prop} : wI (x :: e) (i + 1) Q = wI e i Q := by simp [wI]
theorem hasO_zero {t : T} {e : Env} : hasO (some t :: e) 0 = true := rfl
theorem hasO_succ {x : Option T} {e : Env} {i : Nat} : hasO (x :: e) (i + 1) = hasO e i := by simp [hasO]
theorem wX_zero {xs : List T} {e : Env} {Q : List T → Prop} : wX (some (.lst xs) :: e) 0 Q = Q xs := rfl
theorem wX_succ {x : Option T} {e : Env} {i : Nat} {Q : List T → Prop} : wX (x :: e) (i + 1) Q = wX e i Q := by simp [wX, lstAt]
theorem wIx_int {xs : List T} {i : Int} {Q : T → Prop} : wIx xs (.int i) Q = wO (atI xs i) Q := rfl
@[simp] theorem atI_zero {α : Type} {x : α} {xs : List α} : atI (x :: xs) 0 = some x := by
  simp [atI, ixN]
@[simp] theorem atI_nat {α : Type} {xs : List α} {n : Nat} : atI xs (n : Int) = xs[n]? := by
  simp only [atI, ixN]
  rw [if_pos (by omega)]
  by_cases hn : (n : Int) < xs.length
  · rw [if_pos hn]
    simp
  · rw [if_neg hn]
    simp
    omega
theorem atI_pos {α : Type} {x : α} {xs : List α} {i : Int} (h : 0 < i) : atI (x :: xs) i = atI xs (i - 1) := by
  obtain ⟨n, rfl⟩ : ∃ n : Nat, i = ((n + 1 : Nat) : Int) := ⟨(i - 1).toNat, by omega⟩
  have e : ((n + 1 : Nat) : Int) - 1 = (n : Int) := by omega
  rw [e, atI_nat, atI_nat]
  simp
@[simp] theorem isBl_bl {b : Bool} : isBl (.bl b) = some b := rfl
@[simp] theorem addT_int {i j : Int} : addT (.int i) (.int j) = some (.int (i + j)) := rfl
@[simp] theorem addT_str {a b : Str} : addT (.str a) (.str b) = if a.length + b.length ≤ sizeLine then some (.str (a ++ b)) else none := rfl
@[simp] theorem addT_tup {a b : List T} : addT (.tup a) (.tup b) = if a.length + b.length ≤ sizeLine then some (.tup (a ++ b)) else none := rfl
@[simp] theorem addT_lst {a b : List T} : addT (.lst a) (.lst b) = if a.length + b.length ≤ sizeLine then some (.lst (a ++ b)) else none := rfl
@[simp] theorem subT_int {i j : Int} : subT (.int i) (.int j) = some (.int (i - j)) := rfl
@[simp] theorem mulST_int {i j : Int} : mulST (.int i) (.int j) = if mulOk i j then some (.int (i * j)) else none := rfl
@[simp] theorem modT_int {i j : Int} : modT (.int i) (.int j) = if 0 < j then some (.int (i % j)) else none := rfl
@[simp] theorem divT_int {i j : Int} : divT (.int i) (.int j) = if 0 < j ∧ j < 1073741824 then some (.int (i / j)) else none := rfl
@[simp] theorem powT_int {i j : Int} : powT (.int i) (.int j) = if 0 ≤ j ∧ j ≤ 1000000 ∧ i.natAbs < 2 ^ 64 then some (.int (i ^ j.toNat)) else none := rfl
@[simp] theorem addIT_int {i j : Int} : addIT (.int i) (.int j) = some (.int (i + j)) := rfl
@[simp] theorem ltT_int {i j : Int} : ltT (.int i) (.int j) = some (.bl (decide (i < j))) := rfl
@[simp] theorem leT_int {i j : Int} : leT (.int i) (.int j) = some (.bl (decide (i ≤ j))) := rfl
@[simp] theorem gtT_int {i j : Int} : gtT (.int i) (.int j) = some (.bl (decide (j < i))) := rfl
@[simp] theorem geT_int {i j : Int} : geT (.int i) (.int j) = some (.bl (decide (j ≤ i))) := rfl
@[simp] theorem intO_int {i : Int} : intO [.int i] = some (.int i) := rfl
@[simp] theorem absO_int {i : Int} : absO [.int i] = some (.int (if i < 0 then -i else i)) := rfl
@[simp] theorem lenO_str {z : Str} : lenO [.str z] = if z.length ≤ sizeLine then some (.int z.length) else none := rfl
@[simp] theorem lenO_tup {xs : List T} : lenO [.tup xs] = some (.int xs.length) := rfl
@[simp] theorem lenO_lst {xs : List T} : lenO [.lst xs] = some (.int xs.length) := rfl
@[simp] theorem ixT_tup {xs : List T} {i : Int} : ixT (.tup xs) (.int i) = atI xs i := rfl
@[simp] theorem ixT_lst {xs : List T} {i : Int} : ixT (.lst xs) (.int i) = atI xs i := rfl
@[simp] theorem ixT_str {z : Str} {i : Int} : ixT (.str z) (.int i) = if z.length ≤ sizeLine then (atI z.cps.toList i).map fun c => .str ⟨#[c]⟩ else none := rfl
@[simp] theorem slT_tup {xs : List T} {lo hi : Option Int} : slT (.tup xs) lo hi = some (.tup (cutT xs lo hi)) := rfl
@[simp] theorem slT_lst {xs : List T} {lo hi : Option Int} : slT (.lst xs) lo hi = some (.lst (cutT xs lo hi)) := rfl
@[simp] theorem slT_scr {xs : List Int} {lo hi : Option Int} : slT (.scr xs) lo hi = some (.lst ((cutT xs lo hi).map .int)) := rfl
@[simp] theorem slT_str {z : Str} {lo hi : Option Int} : slT (.str z) lo hi = if z.length ≤ sizeLine then some (.str (cutS z lo hi)) else none := rfl
@[simp] theorem eqT_int {i j : Int} : eqT (.int i) (.int j) = some (.bl (i == j)) := rfl
@[simp] theorem neT_int {i j : Int} : neT (.int i) (.int j) = some (.bl (!(i == j))) := rfl
theorem shaped_str {a : Str} (h : PyData.strOk a = true) : SeqAt.shaped (.str a) = true := by simp [SeqAt.shaped, PyData.canLay0, PyData.depth, h]
theorem eqO_str {a b : Str} (h : PyData.strOk a = true) (k : PyData.strOk b = true) : eqO (.str a) (.str b) = some (a == b) := by
  unfold eqO
  simp only [toD, shaped_str h, shaped_str k, Bool.and_self, if_true]
  rfl
theorem eqT_str {a b : Str} (h : PyData.strOk a = true) (k : PyData.strOk b = true) : eqT (.str a) (.str b) = some (.bl (a == b)) := by simp [eqT, eqO_str h k]
theorem neT_str {a b : Str} (h : PyData.strOk a = true) (k : PyData.strOk b = true) : neT (.str a) (.str b) = some (.bl (!(a == b))) := by simp [neT, eqO_str h k]
@[simp] theorem cutT_from {α : Type} {xs : List α} {n : Nat} : cutT xs (some (n : Int)) none = xs.drop n := by
  unfold cutT
  rw [HT.sIx_nat, HT.sIx_none]
  by_cases h : n ≤ xs.length
  · rw [Nat.min_eq_left h, List.take_of_length_le (by simp)]
  · rw [Nat.min_eq_right (by omega), List.drop_of_length_le (Nat.le_refl _), List.drop_of_length_le (by omega)]
    simp
@[simp] theorem cutT_to {α : Type} {xs : List α} {n : Nat} : cutT xs none (some (n : Int)) = xs.take n := by
  unfold cutT
  rw [HT.sIx_nat, HT.sIx_none]
  simp only [List.drop_zero, Nat.sub_zero]
  by_cases h : n ≤ xs.length
  · rw [Nat.min_eq_left h]
  · rw [Nat.min_eq_right (by omega), List.take_of_length_le (Nat.le_refl _), List.take_of_length_le (by omega)]
@[simp] theorem wO_map {α β : Type} {o : Option α} {g : α → β} {Q : β → Prop} : wO (o.map g) Q = wO o fun x => Q (g x) := by cases o <;> rfl
theorem wO_get {α : Type} {o : Option α} {x : α} {Q : α → Prop} (h : o = some x) (q : Q x) : wO o Q := by subst h; exact q
@[simp] theorem tupF_small {xs : List T} : tupF xs = if xs.length ≤ 1000 then some (.tup xs) else none := rfl
@[simp] theorem lstF_small {xs : List T} : lstF xs = if xs.length ≤ 1000 then some (.lst xs) else none := rfl
end VS
-- K64m
set_option Elab.async false
set_option linter.all false
set_option maxRecDepth 100000
namespace K64
open PySem L2 VS
@[simp] theorem lit_0 : (Str.ofString "").length = 0 := by rfl
@[simp] theorem lik_0 : PyData.strOk (Str.ofString "") = true := by decide +kernel
@[simp] theorem lit_1 : (Str.ofString "\t").length = 1 := by rfl
@[simp] theorem lik_1 : PyData.strOk (Str.ofString "\t") = true := by decide +kernel
@[simp] theorem lit_2 : (Str.ofString "\n").length = 1 := by rfl
@[simp] theorem lik_2 : PyData.strOk (Str.ofString "\n") = true := by decide +kernel
@[simp] theorem lit_3 : (Str.ofString " ").length = 1 := by rfl
@[simp] theorem lik_3 : PyData.strOk (Str.ofString " ") = true := by decide +kernel
@[simp] theorem lit_4 : (Str.ofString "  ").length = 2 := by rfl
@[simp] theorem lik_4 : PyData.strOk (Str.ofString "  ") = true := by decide +kernel
@[simp] theorem lit_5 : (Str.ofString " ascends").length = 8 := by rfl
@[simp] theorem lik_5 : PyData.strOk (Str.ofString " ascends") = true := by decide +kernel
@[simp] theorem lit_6 : (Str.ofString " is ").length = 4 := by rfl
@[simp] theorem lik_6 : PyData.strOk (Str.ofString " is ") = true := by decide +kernel
@[simp] theorem lit_7 : (Str.ofString " plus ").length = 6 := by rfl
@[simp] theorem lik_7 : PyData.strOk (Str.ofString " plus ") = true := by decide +kernel
@[simp] theorem lit_8 : (Str.ofString "(").length = 1 := by rfl
@[simp] theorem lik_8 : PyData.strOk (Str.ofString "(") = true := by decide +kernel
@[simp] theorem lit_9 : (Str.ofString "()").length = 2 := by rfl
@[simp] theorem lik_9 : PyData.strOk (Str.ofString "()") = true := by decide +kernel
@[simp] theorem lit_10 : (Str.ofString ")").length = 1 := by rfl
@[simp] theorem lik_10 : PyData.strOk (Str.ofString ")") = true := by decide +kernel
@[simp] theorem lit_11 : (Str.ofString "-").length = 1 := by rfl
@[simp] theorem lik_11 : PyData.strOk (Str.ofString "-") = true := by decide +kernel
@[simp] theorem lit_12 : (Str.ofString "0").length = 1 := by rfl
@[simp] theorem lik_12 : PyData.strOk (Str.ofString "0") = true := by decide +kernel
@[simp] theorem lit_13 : (Str.ofString "0123456789").length = 10 := by rfl
@[simp] theorem lik_13 : PyData.strOk (Str.ofString "0123456789") = true := by decide +kernel
@[simp] theorem lit_14 : (Str.ofString "07").length = 2 := by rfl
@[simp] theorem lik_14 : PyData.strOk (Str.ofString "07") = true := by decide +kernel
@[simp] theorem lit_15 : (Str.ofString "0a").length = 2 := by rfl
@[simp] theorem lik_15 : PyData.strOk (Str.ofString "0a") = true := by decide +kernel
@[simp] theorem lit_16 : (Str.ofString "100").length = 3 := by rfl
@[simp] theorem lik_16 : PyData.strOk (Str.ofString "100") = true := by decide +kernel
@[simp] theorem lit_17 : (Str.ofString "9 9").length = 3 := by rfl
@[simp] theorem lik_17 : PyData.strOk (Str.ofString "9 9") = true := by decide +kernel
@[simp] theorem lit_18 : (Str.ofString "99").length = 2 := by rfl
@[simp] theorem lik_18 : PyData.strOk (Str.ofString "99") = true := by decide +kernel
@[simp] theorem lit_19 : (Str.ofString "?").length = 1 := by rfl
@[simp] theorem lik_19 : PyData.strOk (Str.ofString "?") = true := by decide +kernel
@[simp] theorem lit_20 : (Str.ofString "A").length = 1 := by rfl
@[simp] theorem lik_20 : PyData.strOk (Str.ofString "A") = true := by decide +kernel
@[simp] theorem lit_21 : (Str.ofString "BadKind").length = 7 := by rfl
@[simp] theorem lik_21 : PyData.strOk (Str.ofString "BadKind") = true := by decide +kernel
@[simp] theorem lit_22 : (Str.ofString "BadLists").length = 8 := by rfl
@[simp] theorem lik_22 : PyData.strOk (Str.ofString "BadLists") = true := by decide +kernel
@[simp] theorem lit_23 : (Str.ofString "BadText").length = 7 := by rfl
@[simp] theorem lik_23 : PyData.strOk (Str.ofString "BadText") = true := by decide +kernel
@[simp] theorem lit_24 : (Str.ofString "MergeError").length = 10 := by rfl
@[simp] theorem lik_24 : PyData.strOk (Str.ofString "MergeError") = true := by decide +kernel
@[simp] theorem lit_25 : (Str.ofString "NoCommand").length = 9 := by rfl
@[simp] theorem lik_25 : PyData.strOk (Str.ofString "NoCommand") = true := by decide +kernel
@[simp] theorem lit_26 : (Str.ofString "Nothing").length = 7 := by rfl
@[simp] theorem lik_26 : PyData.strOk (Str.ofString "Nothing") = true := by decide +kernel
@[simp] theorem lit_27 : (Str.ofString "TooLarge").length = 8 := by rfl
@[simp] theorem lik_27 : PyData.strOk (Str.ofString "TooLarge") = true := by decide +kernel
@[simp] theorem lit_28 : (Str.ofString "a").length = 1 := by rfl
@[simp] theorem lik_28 : PyData.strOk (Str.ofString "a") = true := by decide +kernel
@[simp] theorem lit_29 : (Str.ofString "ab").length = 2 := by rfl
@[simp] theorem lik_29 : PyData.strOk (Str.ofString "ab") = true := by decide +kernel
@[simp] theorem lit_30 : (Str.ofString "abcdefghijklmnopqrstuvwxyz").length = 26 := by rfl
@[simp] theorem lik_30 : PyData.strOk (Str.ofString "abcdefghijklmnopqrstuvwxyz") = true := by decide +kernel
@[simp] theorem lit_31 : (Str.ofString "abcdefghijklmnopqrstuvwxyz0123456789").length = 36 := by rfl
@[simp] theorem lik_31 : PyData.strOk (Str.ofString "abcdefghijklmnopqrstuvwxyz0123456789") = true := by decide +kernel
@[simp] theorem lit_32 : (Str.ofString "and").length = 3 := by rfl
@[simp] theorem lik_32 : PyData.strOk (Str.ofString "and") = true := by decide +kernel
@[simp] theorem lit_33 : (Str.ofString "and ascends below claim compares down drop else empty end ends flag greatest if in is keep least less not or out plus put same skip up while").length = 140 := by rfl
@[simp] theorem lik_33 : PyData.strOk (Str.ofString "and ascends below claim compares down drop else empty end ends flag greatest if in is keep least less not or out plus put same skip up while") = true := by decide +kernel
@[simp] theorem lit_34 : (Str.ofString "ascends").length = 7 := by rfl
@[simp] theorem lik_34 : PyData.strOk (Str.ofString "ascends") = true := by decide +kernel
@[simp] theorem lit_35 : (Str.ofString "b").length = 1 := by rfl
@[simp] theorem lik_35 : PyData.strOk (Str.ofString "b") = true := by decide +kernel
@[simp] theorem lit_36 : (Str.ofString "bad").length = 3 := by rfl
@[simp] theorem lik_36 : PyData.strOk (Str.ofString "bad") = true := by decide +kernel
@[simp] theorem lit_37 : (Str.ofString "below").length = 5 := by rfl
@[simp] theorem lik_37 : PyData.strOk (Str.ofString "below") = true := by decide +kernel
@[simp] theorem lit_38 : (Str.ofString "claim").length = 5 := by rfl
@[simp] theorem lik_38 : PyData.strOk (Str.ofString "claim") = true := by decide +kernel
@[simp] theorem lit_39 : (Str.ofString "claim ").length = 6 := by rfl
@[simp] theorem lik_39 : PyData.strOk (Str.ofString "claim ") = true := by decide +kernel
@[simp] theorem lit_40 : (Str.ofString "claim compares ").length = 15 := by rfl
@[simp] theorem lik_40 : PyData.strOk (Str.ofString "claim compares ") = true := by decide +kernel
@[simp] theorem lit_41 : (Str.ofString "compares").length = 8 := by rfl
@[simp] theorem lik_41 : PyData.strOk (Str.ofString "compares") = true := by decide +kernel
@[simp] theorem lit_42 : (Str.ofString "down").length = 4 := by rfl
@[simp] theorem lik_42 : PyData.strOk (Str.ofString "down") = true := by decide +kernel
@[simp] theorem lit_43 : (Str.ofString "down ").length = 5 := by rfl
@[simp] theorem lik_43 : PyData.strOk (Str.ofString "down ") = true := by decide +kernel
@[simp] theorem lit_44 : (Str.ofString "drop").length = 4 := by rfl
@[simp] theorem lik_44 : PyData.strOk (Str.ofString "drop") = true := by decide +kernel
@[simp] theorem lit_45 : (Str.ofString "else").length = 4 := by rfl
@[simp] theorem lik_45 : PyData.strOk (Str.ofString "else") = true := by decide +kernel
@[simp] theorem lit_46 : (Str.ofString "empty").length = 5 := by rfl
@[simp] theorem lik_46 : PyData.strOk (Str.ofString "empty") = true := by decide +kernel
@[simp] theorem lit_47 : (Str.ofString "end").length = 3 := by rfl
@[simp] theorem lik_47 : PyData.strOk (Str.ofString "end") = true := by decide +kernel
@[simp] theorem lit_48 : (Str.ofString "ends").length = 4 := by rfl
@[simp] theorem lik_48 : PyData.strOk (Str.ofString "ends") = true := by decide +kernel
@[simp] theorem lit_49 : (Str.ofString "f").length = 1 := by rfl
@[simp] theorem lik_49 : PyData.strOk (Str.ofString "f") = true := by decide +kernel
@[simp] theorem lit_50 : (Str.ofString "flag").length = 4 := by rfl
@[simp] theorem lik_50 : PyData.strOk (Str.ofString "flag") = true := by decide +kernel
@[simp] theorem lit_51 : (Str.ofString "flag ").length = 5 := by rfl
@[simp] theorem lik_51 : PyData.strOk (Str.ofString "flag ") = true := by decide +kernel
@[simp] theorem lit_52 : (Str.ofString "greatest").length = 8 := by rfl
@[simp] theorem lik_52 : PyData.strOk (Str.ofString "greatest") = true := by decide +kernel
@[simp] theorem lit_53 : (Str.ofString "if").length = 2 := by rfl
@[simp] theorem lik_53 : PyData.strOk (Str.ofString "if") = true := by decide +kernel
@[simp] theorem lit_54 : (Str.ofString "in").length = 2 := by rfl
@[simp] theorem lik_54 : PyData.strOk (Str.ofString "in") = true := by decide +kernel
@[simp] theorem lit_55 : (Str.ofString "in ").length = 3 := by rfl
@[simp] theorem lik_55 : PyData.strOk (Str.ofString "in ") = true := by decide +kernel
@[simp] theorem lit_56 : (Str.ofString "is").length = 2 := by rfl
@[simp] theorem lik_56 : PyData.strOk (Str.ofString "is") = true := by decide +kernel
@[simp] theorem lit_57 : (Str.ofString "keep").length = 4 := by rfl
@[simp] theorem lik_57 : PyData.strOk (Str.ofString "keep") = true := by decide +kernel
@[simp] theorem lit_58 : (Str.ofString "keep ").length = 5 := by rfl
@[simp] theorem lik_58 : PyData.strOk (Str.ofString "keep ") = true := by decide +kernel
@[simp] theorem lit_59 : (Str.ofString "key").length = 3 := by rfl
@[simp] theorem lik_59 : PyData.strOk (Str.ofString "key") = true := by decide +kernel
@[simp] theorem lit_60 : (Str.ofString "law_mergewright_k64_errors_and_tokens").length = 37 := by rfl
@[simp] theorem lik_60 : PyData.strOk (Str.ofString "law_mergewright_k64_errors_and_tokens") = true := by decide +kernel
@[simp] theorem lit_61 : (Str.ofString "least").length = 5 := by rfl
@[simp] theorem lik_61 : PyData.strOk (Str.ofString "least") = true := by decide +kernel
@[simp] theorem lit_62 : (Str.ofString "less").length = 4 := by rfl
@[simp] theorem lik_62 : PyData.strOk (Str.ofString "less") = true := by decide +kernel
@[simp] theorem lit_63 : (Str.ofString "line").length = 4 := by rfl
@[simp] theorem lik_63 : PyData.strOk (Str.ofString "line") = true := by decide +kernel
@[simp] theorem lit_64 : (Str.ofString "mark").length = 4 := by rfl
@[simp] theorem lik_64 : PyData.strOk (Str.ofString "mark") = true := by decide +kernel
@[simp] theorem lit_65 : (Str.ofString "mergewright.errors").length = 18 := by rfl
@[simp] theorem lik_65 : PyData.strOk (Str.ofString "mergewright.errors") = true := by decide +kernel
@[simp] theorem lit_66 : (Str.ofString "mergewright.tokens").length = 18 := by rfl
@[simp] theorem lik_66 : PyData.strOk (Str.ofString "mergewright.tokens") = true := by decide +kernel
@[simp] theorem lit_67 : (Str.ofString "mergewright.values").length = 18 := by rfl
@[simp] theorem lik_67 : PyData.strOk (Str.ofString "mergewright.values") = true := by decide +kernel
@[simp] theorem lit_68 : (Str.ofString "name").length = 4 := by rfl
@[simp] theorem lik_68 : PyData.strOk (Str.ofString "name") = true := by decide +kernel
@[simp] theorem lit_69 : (Str.ofString "not").length = 3 := by rfl
@[simp] theorem lik_69 : PyData.strOk (Str.ofString "not") = true := by decide +kernel
@[simp] theorem lit_70 : (Str.ofString "not ").length = 4 := by rfl
@[simp] theorem lik_70 : PyData.strOk (Str.ofString "not ") = true := by decide +kernel
@[simp] theorem lit_71 : (Str.ofString "not (").length = 5 := by rfl
@[simp] theorem lik_71 : PyData.strOk (Str.ofString "not (") = true := by decide +kernel
@[simp] theorem lit_72 : (Str.ofString "number").length = 6 := by rfl
@[simp] theorem lik_72 : PyData.strOk (Str.ofString "number") = true := by decide +kernel
@[simp] theorem lit_73 : (Str.ofString "o").length = 1 := by rfl
@[simp] theorem lik_73 : PyData.strOk (Str.ofString "o") = true := by decide +kernel
@[simp] theorem lit_74 : (Str.ofString "of").length = 2 := by rfl
@[simp] theorem lik_74 : PyData.strOk (Str.ofString "of") = true := by decide +kernel
@[simp] theorem lit_75 : (Str.ofString "often").length = 5 := by rfl
@[simp] theorem lik_75 : PyData.strOk (Str.ofString "often") = true := by decide +kernel
@[simp] theorem lit_76 : (Str.ofString "or").length = 2 := by rfl
@[simp] theorem lik_76 : PyData.strOk (Str.ofString "or") = true := by decide +kernel
@[simp] theorem lit_77 : (Str.ofString "out").length = 3 := by rfl
@[simp] theorem lik_77 : PyData.strOk (Str.ofString "out") = true := by decide +kernel
@[simp] theorem lit_78 : (Str.ofString "out ").length = 4 := by rfl
@[simp] theorem lik_78 : PyData.strOk (Str.ofString "out ") = true := by decide +kernel
@[simp] theorem lit_79 : (Str.ofString "plus").length = 4 := by rfl
@[simp] theorem lik_79 : PyData.strOk (Str.ofString "plus") = true := by decide +kernel
@[simp] theorem lit_80 : (Str.ofString "put").length = 3 := by rfl
@[simp] theorem lik_80 : PyData.strOk (Str.ofString "put") = true := by decide +kernel
@[simp] theorem lit_81 : (Str.ofString "r").length = 1 := by rfl
@[simp] theorem lik_81 : PyData.strOk (Str.ofString "r") = true := by decide +kernel
@[simp] theorem lit_82 : (Str.ofString "same").length = 4 := by rfl
@[simp] theorem lik_82 : PyData.strOk (Str.ofString "same") = true := by decide +kernel
@[simp] theorem lit_83 : (Str.ofString "signs").length = 5 := by rfl
@[simp] theorem lik_83 : PyData.strOk (Str.ofString "signs") = true := by decide +kernel
@[simp] theorem lit_84 : (Str.ofString "skip").length = 4 := by rfl
@[simp] theorem lik_84 : PyData.strOk (Str.ofString "skip") = true := by decide +kernel
@[simp] theorem lit_85 : (Str.ofString "times").length = 5 := by rfl
@[simp] theorem lik_85 : PyData.strOk (Str.ofString "times") = true := by decide +kernel
@[simp] theorem lit_86 : (Str.ofString "up").length = 2 := by rfl
@[simp] theorem lik_86 : PyData.strOk (Str.ofString "up") = true := by decide +kernel
@[simp] theorem lit_87 : (Str.ofString "up ").length = 3 := by rfl
@[simp] theorem lik_87 : PyData.strOk (Str.ofString "up ") = true := by decide +kernel
@[simp] theorem lit_88 : (Str.ofString "while").length = 5 := by rfl
@[simp] theorem lik_88 : PyData.strOk (Str.ofString "while") = true := by decide +kernel
@[simp] theorem lit_89 : (Str.ofString "x").length = 1 := by rfl
@[simp] theorem lik_89 : PyData.strOk (Str.ofString "x") = true := by decide +kernel
@[simp] theorem lit_90 : (Str.ofString "x1").length = 2 := by rfl
@[simp] theorem lik_90 : PyData.strOk (Str.ofString "x1") = true := by decide +kernel
end K64
-- K64a
set_option Elab.async false
set_option linter.all false
set_option maxRecDepth 100000
set_option maxHeartbeats 0
namespace K64
open PySem L2 VS
section
variable {P : Program} {w : World} {K : PySem.W.Frag} {mg : Str → Option Value} {base : Heap} {A : Ad}
theorem sc_is_name : FnScope ["thing", "sign"] ["thing"] (defScope s_is_name) := ⟨rfl, rfl, rfl, by decide +kernel, rfl, by decide +kernel, by decide +kernel⟩
def f_is_name (A : Ad) : List T → Out T := defF [.frz] .frz 1 (sSeq (sIf (orT (notT (tst isBl (opL isiO (aCons (rd 0) (aCons (cst (.ty "str")) (aNil)))))) (orT (notT (tst isBl (chn leT leT (cst (.int 1)) (opL lenO (aCons (rd 0) (aNil))) (cst G_MOST_LETTERS)))) (tst isBl (op2 notInT (op2 ixT (rd 0) (cst (.int 0))) (cst G_LETTERS))))) (sRet (cst (.bl false))) (sNil)) (sRet (andV (op2 notInT (rd 0) (cst G_RESERVED)) (opL allO (aCons (eLc [1] (iSeq (rd 0)) (gNm 1) (tYesF) (op2 inT (rd 1) (op2 addT (cst G_LETTERS) (cst G_DIGITS)))) (aNil))))))
theorem ok_is_name (Tx : Txt P K mg A) : DefOk P w K mg base 1 A.a_is_name A.fd_is_name ["thing"] [.frz] .frz (f_is_name A) :=
  fnJ (lms := [.frz]) (msN := [.frz] ++ [.frz]) (msL := []) Tx.is_name.F sc_is_name rfl rfl .nil (fun cdv A0 outer s H E hr C => BJ.sq (SJ.if (TW.tj (TW.or (TJ.not (TJ.val (EJ.ef (EJ.callB call_isi cal_isi (by rfl) Tx.z_isinstance PyProof.Rows.boot_isinstance (AJ.cons (EF.var (i := 0)) (AJ.cons (EF.tyN (by rfl) Tx.z_str PyProof.Rows.boot_str) (AJ.nil))))))) (TW.or (TJ.not (TJ.chain op_le op_le bin_le bin_le (EF.int) (EJ.ef (EJ.callB call_len cal_len (by rfl) Tx.z_len PySem.boot_len (AJ.cons (EF.var (i := 0)) (AJ.nil)))) (EF.gl Tx.MOST_LETTERS))) (TW.or1 (TJ.cmp (op_notInA C.u65) bin_notIn (EF.ix (EF.var (i := 0)) (EF.int)) (EF.gl Tx.LETTERS)))))) (BJ.one (SJ.ret (EF.ej (EF.bl)) FxOk.nil)) (BJ.nl)) (BJ.one (SJ.ret (EF.ej (EF.and (EJ.ef (EJ.cmp (op_notInA C.u65) bin_notIn (EF.var (i := 0)) (EF.gl Tx.RESERVED))) (EF.one (EJ.ef (EJ.callB (cr_all C.calm) cal_all (by rfl) Tx.z_all PyProof.Rows.boot_all (AJ.cons (EJ.freeze (EJ.lc (own := [("sign", 1)]) (tv := [1]) C (IJ.seq (EF.var (i := 0))) (by rfl) (by decide) (fr_all (by rfl)) (by decide) (fun _ _ _ _ _ => GJ.name (i := 1) (cok_blk C).nd) (fun _ _ _ _ _ => TsJ.nil) (fun _ _ _ _ _ => EJ.ef (EJ.cmp (op_inA (cok_blk C).u65) bin_in (EF.var (i := 1)) (EJ.ef (EJ.opB op_addA bin_add (EF.gl Tx.LETTERS) (EF.gl Tx.DIGITS))))))) (AJ.nil))))))) FxOk.nil)))
theorem sc_end_of_run : FnScope ["text", "begin", "end"] ["text", "begin"] (defScope s_end_of_run) := ⟨rfl, rfl, rfl, by decide +kernel, rfl, by decide +kernel, by decide +kernel⟩
def f_end_of_run (A : Ad) : List T → Out T := defF [.frz, .frz] .frz 1 (sSeq (sSet 2 (rd 1)) (sSeq (whL 20000 (andT (tst isBl (op2 ltT (rd 2) (opL lenO (aCons (rd 0) (aNil))))) (tst isBl (op2 inT (op2 ixT (rd 0) (rd 2)) (op2 addT (cst G_LETTERS) (cst G_DIGITS))))) (sSet 2 (op2 addT (rd 2) (cst (.int 1))))) (sRet (rd 2))))
theorem ok_end_of_run (Tx : Txt P K mg A) : DefOk P w K mg base 1 A.a_end_of_run A.fd_end_of_run ["text", "begin"] [.frz, .frz] .frz (f_end_of_run A) :=
  fnJ (lms := [.frz]) (msN := [.frz, .frz] ++ [.frz]) (msL := []) Tx.end_of_run.F sc_end_of_run rfl rfl .nil (fun cdv A0 outer s H E hr C => BJ.sq (SJ.set (i := 2) C.nd (EF.ej (EF.var (i := 1)))) (BJ.sq (SJ.while C.toKok (TW.tj (TW.and (TJ.cmp op_ltA bin_lt (EF.var (i := 2)) (EJ.ef (EJ.callB call_len cal_len (by rfl) Tx.z_len PySem.boot_len (AJ.cons (EF.var (i := 0)) (AJ.nil))))) (TW.and1 (TJ.cmp (op_inA C.u65) bin_in (EF.ix (EF.var (i := 0)) (EF.var (i := 2))) (EJ.ef (EJ.opB op_addA bin_add (EF.gl Tx.LETTERS) (EF.gl Tx.DIGITS))))))) (BJ.one (SJ.set (i := 2) C.nd (EF.ej (EJ.ef (EJ.opB op_addA bin_add (EF.var (i := 2)) (EF.int))))))) (BJ.one (SJ.ret (EF.ej (EF.var (i := 2))) FxOk.nil))))
theorem sc_is_figures : FnScope ["run", "sign"] ["run"] (defScope s_is_figures) := ⟨rfl, rfl, rfl, by decide +kernel, rfl, by decide +kernel, by decide +kernel⟩
def f_is_figures (A : Ad) : List T → Out T := defF [.frz] .frz 1 (sSeq (sIf (orT (notT (tst isBl (opL allO (aCons (eLc [1] (iSeq (rd 0)) (gNm 1) (tYesF) (op2 inT (rd 1) (cst G_DIGITS))) (aNil))))) (tst isBl (op2 gtT (opL lenO (aCons (rd 0) (aNil))) (cst G_MOST_FIGURES)))) (sRet (cst (.bl false))) (sNil)) (sRet (orV (op2 eqT (rd 0) (cst (.str "0"))) (op2 neT (op2 ixT (rd 0) (cst (.int 0))) (cst (.str "0"))))))
theorem ok_is_figures (Tx : Txt P K mg A) : DefOk P w K mg base 1 A.a_is_figures A.fd_is_figures ["run"] [.frz] .frz (f_is_figures A) :=
  fnJ (lms := [.frz]) (msN := [.frz] ++ [.frz]) (msL := []) Tx.is_figures.F sc_is_figures rfl rfl .nil (fun cdv A0 outer s H E hr C => BJ.sq (SJ.if (TW.tj (TW.or (TJ.not (TJ.val (EJ.ef (EJ.callB (cr_all C.calm) cal_all (by rfl) Tx.z_all PyProof.Rows.boot_all (AJ.cons (EJ.freeze (EJ.lc (own := [("sign", 1)]) (tv := [1]) C (IJ.seq (EF.var (i := 0))) (by rfl) (by decide) (fr_all (by rfl)) (by decide) (fun _ _ _ _ _ => GJ.name (i := 1) (cok_blk C).nd) (fun _ _ _ _ _ => TsJ.nil) (fun _ _ _ _ _ => EJ.ef (EJ.cmp (op_inA (cok_blk C).u65) bin_in (EF.var (i := 1)) (EF.gl Tx.DIGITS))))) (AJ.nil)))))) (TW.or1 (TJ.cmp op_gt bin_gt (EJ.ef (EJ.callB call_len cal_len (by rfl) Tx.z_len PySem.boot_len (AJ.cons (EF.var (i := 0)) (AJ.nil)))) (EF.gl Tx.MOST_FIGURES))))) (BJ.one (SJ.ret (EF.ej (EF.bl)) FxOk.nil)) (BJ.nl)) (BJ.one (SJ.ret (EF.ej (EF.or (EJ.ef (EJ.cmp (op_eqD C.u64) bin_eq (EF.var (i := 0)) (EF.str))) (EF.one (EJ.ef (EJ.cmp (op_neD C.u64) bin_ne (EF.ix (EF.var (i := 0)) (EF.int)) (EF.str)))))) FxOk.nil)))
theorem sc_run_token : FnScope ["run"] ["run"] (defScope s_run_token) := ⟨rfl, rfl, rfl, by decide +kernel, rfl, by decide +kernel, by decide +kernel⟩
def f_run_token (A : Ad) : List T → Out T := defF [.frz] .frz 0 (sSeq (sIf (tst isBl (op2 inT (rd 0) (cst G_RESERVED))) (sRet (opL tupF (aCons (cst (.str "key")) (aCons (rd 0) (aNil))))) (sNil)) (sSeq (sIf (tst isBl (VS.cal0 (f_is_name A) (aCons (rd 0) (aNil)))) (sRet (opL tupF (aCons (cst (.str "name")) (aCons (rd 0) (aNil))))) (sNil)) (sRet (VS.ife (tst isBl (VS.cal0 (f_is_figures A) (aCons (rd 0) (aNil)))) (opL tupF (aCons (cst (.str "number")) (aCons (opL intO (aCons (rd 0) (aNil))) (aNil)))) (opL tupF (aCons (cst (.str "bad")) (aCons (cst (.str "")) (aNil))))))))
theorem ok_run_token (Tx : Txt P K mg A) : DefOk P w K mg base 2 A.a_run_token A.fd_run_token ["run"] [.frz] .frz (f_run_token A) :=
  fnJ (lms := []) (msN := [.frz] ++ []) (msL := []) Tx.run_token.F sc_run_token rfl rfl .nil (fun cdv A0 outer s H E hr C => BJ.sq (SJ.if (TJ.cmp (op_inA C.u65) bin_in (EF.var (i := 0)) (EF.gl Tx.RESERVED)) (BJ.one (SJ.ret (EF.ej (EF.tup (AJ.cons (EF.str) (AJ.cons (EF.var (i := 0)) (AJ.nil))))) FxOk.nil)) (BJ.nl)) (BJ.sq (SJ.if (TJ.val (EJ.ef (EJ.cD C Tx.is_name (ok_is_name Tx) hr (by decide) FxOk.nil (AJ.cons (EF.var (i := 0)) (AJ.nil))))) (BJ.one (SJ.ret (EF.ej (EF.tup (AJ.cons (EF.str) (AJ.cons (EF.var (i := 0)) (AJ.nil))))) FxOk.nil)) (BJ.nl)) (BJ.one (SJ.ret (EF.ej (EF.ife (TJ.val (EJ.ef (EJ.cD C Tx.is_figures (ok_is_figures Tx) hr (by decide) FxOk.nil (AJ.cons (EF.var (i := 0)) (AJ.nil))))) (EF.tup (AJ.cons (EF.str) (AJ.cons (EJ.ef (EJ.callTy call_intA cal_int (by rfl) Tx.z_int PyProof.Rows.boot_int (AJ.cons (EF.var (i := 0)) (AJ.nil)))) (AJ.nil)))) (EF.tup (AJ.cons (EF.str) (AJ.cons (EF.str) (AJ.nil)))))) FxOk.nil))))
theorem sc_token_at : FnScope ["text", "begin", "end"] ["text", "begin"] (defScope s_token_at) := ⟨rfl, rfl, rfl, by decide +kernel, rfl, by decide +kernel, by decide +kernel⟩
def f_token_at (A : Ad) : List T → Out T := defF [.frz, .frz] .frz 1 (sSeq (sIf (tst isBl (op2 eqT (op2 ixT (rd 0) (rd 1)) (cst (.str "\n")))) (sRet (opL tupF (aCons (cst (.str "line")) (aCons (cst (.str "")) (aCons (op2 addT (rd 1) (cst (.int 1))) (aNil)))))) (sNil)) (sSeq (sIf (tst isBl (op2 inT (op2 ixT (rd 0) (rd 1)) (cst G_MARKS))) (sRet (opL tupF (aCons (cst (.str "mark")) (aCons (op2 ixT (rd 0) (rd 1)) (aCons (op2 addT (rd 1) (cst (.int 1))) (aNil)))))) (sNil)) (sSeq (sSet 2 (VS.cal0 (f_end_of_run A) (aCons (rd 0) (aCons (rd 1) (aNil))))) (sRet (VS.ife (tst isBl (op2 gtT (rd 2) (rd 1))) (op2 addT (VS.cal0 (f_run_token A) (aCons (slE (rd 0) (oSome (rd 1)) (oSome (rd 2))) (aNil))) (opL tupF (aCons (rd 2) (aNil)))) (opL tupF (aCons (cst (.str "bad")) (aCons (cst (.str "")) (aCons (rd 1) (aNil))))))))))
theorem ok_token_at (Tx : Txt P K mg A) : DefOk P w K mg base 3 A.a_token_at A.fd_token_at ["text", "begin"] [.frz, .frz] .frz (f_token_at A) :=
  fnJ (lms := [.frz]) (msN := [.frz, .frz] ++ [.frz]) (msL := []) Tx.token_at.F sc_token_at rfl rfl .nil (fun cdv A0 outer s H E hr C => BJ.sq (SJ.if (TJ.cmp (op_eqD C.u64) bin_eq (EF.ix (EF.var (i := 0)) (EF.var (i := 1))) (EF.str)) (BJ.one (SJ.ret (EF.ej (EF.tup (AJ.cons (EF.str) (AJ.cons (EF.str) (AJ.cons (EJ.ef (EJ.opB op_addA bin_add (EF.var (i := 1)) (EF.int))) (AJ.nil)))))) FxOk.nil)) (BJ.nl)) (BJ.sq (SJ.if (TJ.cmp (op_inA C.u65) bin_in (EF.ix (EF.var (i := 0)) (EF.var (i := 1))) (EF.gl Tx.MARKS)) (BJ.one (SJ.ret (EF.ej (EF.tup (AJ.cons (EF.str) (AJ.cons (EF.ix (EF.var (i := 0)) (EF.var (i := 1))) (AJ.cons (EJ.ef (EJ.opB op_addA bin_add (EF.var (i := 1)) (EF.int))) (AJ.nil)))))) FxOk.nil)) (BJ.nl)) (BJ.sq (SJ.set (i := 2) C.nd (EF.ej (EJ.ef (EJ.cD C Tx.end_of_run (ok_end_of_run Tx) hr (by decide) FxOk.nil (AJ.cons (EF.var (i := 0)) (AJ.cons (EF.var (i := 1)) (AJ.nil))))))) (BJ.one (SJ.ret (EF.ej (EF.ife (TJ.cmp op_gt bin_gt (EF.var (i := 2)) (EF.var (i := 1))) (EJ.ef (EJ.opB op_addA bin_add (EJ.ef (EJ.cD C Tx.run_token (ok_run_token Tx) hr (by decide) FxOk.nil (AJ.cons (EF.sl (EF.var (i := 0)) (OJ.some (EF.var (i := 1))) (OJ.some (EF.var (i := 2)))) (AJ.nil)))) (EF.tup (AJ.cons (EF.var (i := 2)) (AJ.nil))))) (EF.tup (AJ.cons (EF.str) (AJ.cons (EF.str) (AJ.cons (EF.var (i := 1)) (AJ.nil))))))) FxOk.nil)))))
theorem sc__law_bag : FnScope ["script", "cell"] ["script"] (defScope s__law_bag) := ⟨rfl, rfl, rfl, by decide +kernel, rfl, by decide +kernel, by decide +kernel⟩
def f__law_bag (A : Ad) : List T → Out T := defF [.frz] (.own .frz) 1 (sRet (opL lstF (aCons (cst (.int 0)) (aCons (cst (.int 1234567891)) (aCons (cst (.int 0)) (aCons (eLc [1] (iSeq (slE (rd 0) oNone (oSome (cst (.int 63))))) (gNm 1) (tYesF) (opL absO (aCons (rd 1) (aNil)))) (aNil)))))))
theorem ok__law_bag (Tx : Txt P K mg A) : DefOk P w K mg base 1 A.a__law_bag A.fd__law_bag ["script"] [.frz] (.own .frz) (f__law_bag A) :=
  fnJ (lms := [.frz]) (msN := [.frz] ++ [.frz]) (msL := []) Tx._law_bag.F sc__law_bag rfl rfl .nil (fun cdv A0 outer s H E hr C => BJ.one (SJ.ret (EJ.lst (AJ.cons (EF.int) (AJ.cons (EF.int) (AJ.cons (EF.int) (AJ.cons (EJ.freeze (EJ.lc (own := [("cell", 1)]) (tv := [1]) C (IJ.seq (EF.sl (EF.var (i := 0)) (OJ.none) (OJ.some (EF.int)))) (by rfl) (by decide) (fr_all (by rfl)) (by decide) (fun _ _ _ _ _ => GJ.name (i := 1) (cok_blk C).nd) (fun _ _ _ _ _ => TsJ.nil) (fun _ _ _ _ _ => EJ.ef (EJ.callB call_abs cal_abs (by rfl) Tx.z_abs PyProof.Rows.boot_abs (AJ.cons (EF.var (i := 1)) (AJ.nil)))))) (AJ.nil)))))) FxOk.nil))
theorem sc__law_take : FnScope ["bag", "many", "cell", "stirred", "drawn", "begin", "second"] ["bag", "many"] (defScope s__law_take) := ⟨rfl, rfl, rfl, by decide +kernel, rfl, by decide +kernel, by decide +kernel⟩
def f__law_take (A : Ad) : List T → Out T := defF [.own .frz, .frz] .frz 5 (sSeq (sIf (tst isBl (op2 eqT (VS.ixO 0 (cst (.int 0))) (cst (.int 0)))) (sSeq (sSet 2 (op2 ixT (op2 addT (slE (VS.ixO 0 (cst (.int 3))) (oSome (VS.ixO 0 (cst (.int 2)))) oNone) (opL lstF (aCons (cst (.int 0)) (aNil)))) (cst (.int 0)))) (sSeq (VS.augO 0 addIT (cst (.int 2)) (cst (.int 1))) (sSeq (sIf (tst isBl (op2 geT (rd 2) (op2 powT (cst (.int 10)) (cst (.int 18))))) (VS.stO 0 (rd 2) (cst (.int 0))) (sNil)) (sSeq (sSet 3 (op2 addT (op2 addT (op2 mulST (VS.ixO 0 (cst (.int 1))) (cst (.int 48271))) (op2 modT (opL intO (aCons (rd 2) (aNil))) (cst (.int 2147483647)))) (op2 mulST (cst (.int 7919)) (VS.ixO 0 (cst (.int 2)))))) (VS.stO 0 (op2 modT (opL intO (aCons (rd 3) (aNil))) (cst (.int 2147483647))) (cst (.int 1))))))) (sNil)) (sSeq (sIf (tst isBl (op2 gtT (VS.ixO 0 (cst (.int 0))) (cst (.int 0)))) (sSeq (sSet 4 (op2 modT (opL intO (aCons (VS.ixO 0 (cst (.int 0))) (aNil))) (rd 1))) (sSeq (VS.stO 0 (op2 divT (opL intO (aCons (VS.ixO 0 (cst (.int 0))) (aNil))) (rd 1)) (cst (.int 0))) (sRet (rd 4)))) (sNil)) (sSeq (sSet 5 (op2 modT (opL intO (aCons (op2 mulST (op2 addT (VS.ixO 0 (cst (.int 1))) (cst (.int 1))) (cst (.int 39373))) (aNil))) (cst (.int 1000000007)))) (sSeq (sSet 6 (op2 modT (opL intO (aCons (op2 mulST (op2 modT (opL intO (aCons (op2 mulST (rd 5) (rd 5)) (aNil))) (cst (.int 998244353))) (cst (.int 30011))) (aNil))) (cst (.int 998244353)))) (sRet (op2 modT (opL intO (aCons (op2 divT (rd 6) (cst (.int 7))) (aNil))) (rd 1)))))))
theorem ok__law_take (Tx : Txt P K mg A) : DefOk P w K mg base 1 A.a__law_take A.fd__law_take ["bag", "many"] [.own .frz, .frz] .frz (f__law_take A) :=
  fnJ (lms := [.frz, .frz, .frz, .frz, .frz]) (msN := [.own .frz, .frz] ++ [.frz, .frz, .frz, .frz, .frz]) (msL := []) Tx._law_take.F sc__law_take rfl rfl (.cons rfl .nil) (fun cdv A0 outer s H E hr C => BJ.sq (SJ.if (TJ.cmp (op_eqD C.u64) bin_eq (EF.ixO (j := 0) rfl (EF.int)) (EF.int)) (BJ.sq (SJ.set (i := 2) C.nd (EF.ej (EF.ix (EJ.ef (EJ.opB op_addA bin_add (EF.sl (EF.ixO (j := 0) rfl (EF.int)) (OJ.some (EF.ixO (j := 0) rfl (EF.int))) (OJ.none)) (EJ.freeze (EJ.lst (AJ.cons (EF.int) (AJ.nil)))))) (EF.int)))) (BJ.sq (SJ.augO (j := 0) ip_add bin_ipAdd (EF.int) (EF.int)) (BJ.sq (SJ.if (TJ.cmp op_ge bin_ge (EF.var (i := 2)) (EJ.ef (EJ.opB op_pow bin_pow (EF.int) (EF.int)))) (BJ.one (SJ.stO (j := 0) (EF.var (i := 2)) (EF.int))) (BJ.nl)) (BJ.sq (SJ.set (i := 3) C.nd (EF.ej (EJ.ef (EJ.opB op_addA bin_add (EJ.ef (EJ.opB op_addA bin_add (EJ.ef (EJ.opB op_mulAS bin_mulS (EF.ixO (j := 0) rfl (EF.int)) (EF.int))) (EJ.ef (EJ.opB op_mod bin_mod (EJ.ef (EJ.callTy call_intA cal_int (by rfl) Tx.z_int PyProof.Rows.boot_int (AJ.cons (EF.var (i := 2)) (AJ.nil)))) (EF.int))))) (EJ.ef (EJ.opB op_mulAS bin_mulS (EF.int) (EF.ixO (j := 0) rfl (EF.int)))))))) (BJ.one (SJ.stO (j := 0) (EJ.ef (EJ.opB op_mod bin_mod (EJ.ef (EJ.callTy call_intA cal_int (by rfl) Tx.z_int PyProof.Rows.boot_int (AJ.cons (EF.var (i := 3)) (AJ.nil)))) (EF.int))) (EF.int))))))) (BJ.nl)) (BJ.sq (SJ.if (TJ.cmp op_gt bin_gt (EF.ixO (j := 0) rfl (EF.int)) (EF.int)) (BJ.sq (SJ.set (i := 4) C.nd (EF.ej (EJ.ef (EJ.opB op_mod bin_mod (EJ.ef (EJ.callTy call_intA cal_int (by rfl) Tx.z_int PyProof.Rows.boot_int (AJ.cons (EF.ixO (j := 0) rfl (EF.int)) (AJ.nil)))) (EF.var (i := 1)))))) (BJ.sq (SJ.stO (j := 0) (EJ.ef (EJ.opB op_fdiv bin_div (EJ.ef (EJ.callTy call_intA cal_int (by rfl) Tx.z_int PyProof.Rows.boot_int (AJ.cons (EF.ixO (j := 0) rfl (EF.int)) (AJ.nil)))) (EF.var (i := 1)))) (EF.int)) (BJ.one (SJ.ret (EF.ej (EF.var (i := 4))) (FxOk.cons rfl FxOk.nil))))) (BJ.nl)) (BJ.sq (SJ.set (i := 5) C.nd (EF.ej (EJ.ef (EJ.opB op_mod bin_mod (EJ.ef (EJ.callTy call_intA cal_int (by rfl) Tx.z_int PyProof.Rows.boot_int (AJ.cons (EJ.ef (EJ.opB op_mulAS bin_mulS (EJ.ef (EJ.opB op_addA bin_add (EF.ixO (j := 0) rfl (EF.int)) (EF.int))) (EF.int))) (AJ.nil)))) (EF.int))))) (BJ.sq (SJ.set (i := 6) C.nd (EF.ej (EJ.ef (EJ.opB op_mod bin_mod (EJ.ef (EJ.callTy call_intA cal_int (by rfl) Tx.z_int PyProof.Rows.boot_int (AJ.cons (EJ.ef (EJ.opB op_mulAS bin_mulS (EJ.ef (EJ.opB op_mod bin_mod (EJ.ef (EJ.callTy call_intA cal_int (by rfl) Tx.z_int PyProof.Rows.boot_int (AJ.cons (EJ.ef (EJ.opB op_mulAS bin_mulS (EF.var (i := 5)) (EF.var (i := 5)))) (AJ.nil)))) (EF.int))) (EF.int))) (AJ.nil)))) (EF.int))))) (BJ.one (SJ.ret (EF.ej (EJ.ef (EJ.opB op_mod bin_mod (EJ.ef (EJ.callTy call_intA cal_int (by rfl) Tx.z_int PyProof.Rows.boot_int (AJ.cons (EJ.ef (EJ.opB op_fdiv bin_div (EF.var (i := 6)) (EF.int))) (AJ.nil)))) (EF.var (i := 1))))) (FxOk.cons rfl FxOk.nil)))))))
theorem sc__law_some : FnScope ["bag", "things"] ["bag", "things"] (defScope s__law_some) := ⟨rfl, rfl, rfl, by decide +kernel, rfl, by decide +kernel, by decide +kernel⟩
def f__law_some (A : Ad) : List T → Out T := defF [.own .frz, .frz] .frz 0 (sRet (op2 ixT (rd 1) (VS.cal1 (f__law_take A) 0 (aCons (opL lenO (aCons (rd 1) (aNil))) (aNil)))))
theorem ok__law_some (Tx : Txt P K mg A) : DefOk P w K mg base 2 A.a__law_some A.fd__law_some ["bag", "things"] [.own .frz, .frz] .frz (f__law_some A) :=
  fnJ (lms := []) (msN := [.own .frz, .frz] ++ []) (msL := []) Tx._law_some.F sc__law_some rfl rfl (.cons rfl .nil) (fun cdv A0 outer s H E hr C => BJ.one (SJ.ret (EF.ej (EF.ix (EF.var (i := 1)) (EJ.ef (EJ.cD1 (j := 0) C Tx._law_take (ok__law_take Tx) hr (by decide) (FxOk.cons rfl FxOk.nil) (AJ.cons (EJ.ef (EJ.callB call_len cal_len (by rfl) Tx.z_len PySem.boot_len (AJ.cons (EF.var (i := 1)) (AJ.nil)))) (AJ.nil)))))) (FxOk.cons rfl FxOk.nil)))
theorem sc__law_alike : FnScope ["found", "wanted"] ["found", "wanted"] (defScope s__law_alike) := ⟨rfl, rfl, rfl, by decide +kernel, rfl, by decide +kernel, by decide +kernel⟩
def f__law_alike (A : Ad) : List T → Out T := defF [.frz, .frz] .frz 0 (sRet (andV (op2 eqT (opL reprO (aCons (rd 0) (aNil))) (opL reprO (aCons (rd 1) (aNil)))) (op2 eqT (rd 0) (rd 1))))
theorem ok__law_alike (Tx : Txt P K mg A) : DefOk P w K mg base 1 A.a__law_alike A.fd__law_alike ["found", "wanted"] [.frz, .frz] .frz (f__law_alike A) :=
  fnJ (lms := []) (msN := [.frz, .frz] ++ []) (msL := []) Tx._law_alike.F sc__law_alike rfl rfl .nil (fun cdv A0 outer s H E hr C => BJ.one (SJ.ret (EF.ej (EF.and (EJ.ef (EJ.cmp (op_eqD C.u64) bin_eq (EJ.ef (EJ.callB (call_reprD C.gd C.hu) cal_reprD (by rfl) Tx.z_repr PyProof.Rows.boot_repr (AJ.cons (EF.var (i := 0)) (AJ.nil)))) (EJ.ef (EJ.callB (call_reprD C.gd C.hu) cal_reprD (by rfl) Tx.z_repr PyProof.Rows.boot_repr (AJ.cons (EF.var (i := 1)) (AJ.nil)))))) (EF.one (EJ.ef (EJ.cmp (op_eqD C.u64) bin_eq (EF.var (i := 0)) (EF.var (i := 1))))))) FxOk.nil))
def fT__law_alike (A : Ad) : List T → Out T := defF [.frz, .frz] .frz 0 (sRet (andV (op2 eqT (opL reprO (aCons (rd 0) (aNil))) (opL reprO (aCons (rd 1) (aNil)))) (op2 eqT (rd 0) (rd 1))))
theorem okT__law_alike (Tx : Txt P K mg A) : DefT P w K mg base 1 A.a__law_alike A.fd__law_alike ["found", "wanted"] [.frz, .frz] .frz (fT__law_alike A) :=
  fnT (lms := []) (msN := [.frz, .frz] ++ []) (msL := []) Tx._law_alike.F sc__law_alike rfl rfl .nil (fun cdv A0 outer s H E p hr C hot => BJ.one (SJ.ret (EF.ej (EF.and (EJ.ef (EJ.cmp (op_eqD C.u64) bin_eq (EJ.ef (EJ.callB (call_reprD C.gd C.hu) cal_reprD (by rfl) Tx.z_repr PyProof.Rows.boot_repr (AJ.cons (EF.var (i := 0)) (AJ.nil)))) (EJ.ef (EJ.callB (call_reprD C.gd C.hu) cal_reprD (by rfl) Tx.z_repr PyProof.Rows.boot_repr (AJ.cons (EF.var (i := 1)) (AJ.nil)))))) (EF.one (EJ.ef (EJ.cmp (op_eqD C.u64) bin_eq (EF.var (i := 0)) (EF.var (i := 1))))))) FxOk.nil))
theorem sc__law_test_text : FnScope ["test", "inner", "told", "at", "one", "around"] ["test"] (defScope s__law_test_text) := ⟨rfl, rfl, rfl, by decide +kernel, rfl, by decide +kernel, by decide +kernel⟩
def f__law_test_text (A : Ad) : Nat → List T → Out T
  | 0 => fun _ => .stk
  | n + 1 => let r := f__law_test_text A n; defF [.frz] .frz 5 (sSeq (sIf (tst isBl (op2 inT (op2 ixT (rd 0) (cst (.int 0))) (opL tupF (aCons (cst (.str "ends")) (aCons (cst (.str "empty")) (aCons (cst (.str "up")) (aNil))))))) (sRet (op2 addT (op2 addT (op2 ixT (rd 0) (cst (.int 1))) (cst (.str " "))) (op2 ixT (rd 0) (cst (.int 0))))) (sNil)) (sSeq (sIf (tst isBl (op2 inT (op2 ixT (rd 0) (cst (.int 0))) (opL tupF (aCons (cst (.str "below")) (aCons (cst (.str "same")) (aNil)))))) (sRet (op2 addT (op2 addT (op2 addT (op2 addT (op2 ixT (rd 0) (cst (.int 1))) (cst (.str " "))) (op2 ixT (rd 0) (cst (.int 0)))) (cst (.str " "))) (op2 ixT (rd 0) (cst (.int 2))))) (sNil)) (sSeq (sIf (tst isBl (op2 eqT (op2 ixT (rd 0) (cst (.int 0))) (cst (.str "not")))) (sSeq (sSet 1 (VS.cal0 r (aCons (op2 ixT (rd 0) (cst (.int 1))) (aNil)))) (sRet (VS.ife (tst isBl (op2 inT (op2 ixT (op2 ixT (rd 0) (cst (.int 1))) (cst (.int 0))) (opL tupF (aCons (cst (.str "and")) (aCons (cst (.str "or")) (aNil)))))) (op2 addT (op2 addT (cst (.str "not (")) (rd 1)) (cst (.str ")"))) (op2 addT (cst (.str "not ")) (rd 1))))) (sNil)) (sSeq (sSet 2 (opL lstF (aNil))) (sSeq (sFor (iOpt enO (aCons (slE (rd 0) (oSome (cst (.int 1))) oNone) (aNil))) (gTu (gCo (gNm 3) (gCo (gNm 4) (gNl))) 2) (sSeq (sSet 5 (orV (andV (op2 eqT (op2 ixT (rd 4) (cst (.int 0))) (cst (.str "or"))) (op2 eqT (op2 ixT (rd 0) (cst (.int 0))) (cst (.str "and")))) (andV (op2 eqT (rd 3) (cst (.int 1))) (op2 eqT (op2 ixT (rd 4) (cst (.int 0))) (op2 ixT (rd 0) (cst (.int 0))))))) (sEx (VS.mtO 2 apM (aCons (VS.ife (tst isBl (rd 5)) (op2 addT (op2 addT (cst (.str "(")) (VS.cal0 r (aCons (rd 4) (aNil)))) (cst (.str ")"))) (VS.cal0 r (aCons (rd 4) (aNil)))) (aNil)))))) (sRet (VS.mS joinT (op2 addT (op2 addT (cst (.str " ")) (op2 ixT (rd 0) (cst (.int 0)))) (cst (.str " "))) (aCons (rd 2) (aNil)))))))))
theorem ok__law_test_text (Tx : Txt P K mg A) : ∀ n, DefOk P w K mg base (0 + n) A.a__law_test_text A.fd__law_test_text ["test"] [.frz] .frz (f__law_test_text A n)
  | 0 => DefOk.none
  | n + 1 => by
    have ih := ok__law_test_text Tx n
    refine fnJ (k := 0 + n) (lms := [.frz, .own .frz, .frz, .frz, .frz]) (msN := [.frz] ++ [.frz, .own .frz, .frz, .frz, .frz]) (msL := []) Tx._law_test_text.F sc__law_test_text rfl rfl .nil (fun cdv A0 outer s H E hr C => BJ.sq (SJ.if (TJ.cmp (op_inA C.u65) bin_in (EF.ix (EF.var (i := 0)) (EF.int)) (EF.tup (AJ.cons (EF.str) (AJ.cons (EF.str) (AJ.cons (EF.str) (AJ.nil)))))) (BJ.one (SJ.ret (EF.ej (EJ.ef (EJ.opB op_addA bin_add (EJ.ef (EJ.opB op_addA bin_add (EF.ix (EF.var (i := 0)) (EF.int)) (EF.str))) (EF.ix (EF.var (i := 0)) (EF.int))))) FxOk.nil)) (BJ.nl)) (BJ.sq (SJ.if (TJ.cmp (op_inA C.u65) bin_in (EF.ix (EF.var (i := 0)) (EF.int)) (EF.tup (AJ.cons (EF.str) (AJ.cons (EF.str) (AJ.nil))))) (BJ.one (SJ.ret (EF.ej (EJ.ef (EJ.opB op_addA bin_add (EJ.ef (EJ.opB op_addA bin_add (EJ.ef (EJ.opB op_addA bin_add (EJ.ef (EJ.opB op_addA bin_add (EF.ix (EF.var (i := 0)) (EF.int)) (EF.str))) (EF.ix (EF.var (i := 0)) (EF.int)))) (EF.str))) (EF.ix (EF.var (i := 0)) (EF.int))))) FxOk.nil)) (BJ.nl)) (BJ.sq (SJ.if (TJ.cmp (op_eqD C.u64) bin_eq (EF.ix (EF.var (i := 0)) (EF.int)) (EF.str)) (BJ.sq (SJ.set (i := 1) C.nd (EF.ej (EJ.ef (EJ.cD C Tx._law_test_text ih hr (by omega) FxOk.nil (AJ.cons (EF.ix (EF.var (i := 0)) (EF.int)) (AJ.nil)))))) (BJ.one (SJ.ret (EF.ej (EF.ife (TJ.cmp (op_inA C.u65) bin_in (EF.ix (EF.ix (EF.var (i := 0)) (EF.int)) (EF.int)) (EF.tup (AJ.cons (EF.str) (AJ.cons (EF.str) (AJ.nil))))) (EJ.ef (EJ.opB op_addA bin_add (EJ.ef (EJ.opB op_addA bin_add (EF.str) (EF.var (i := 1)))) (EF.str))) (EJ.ef (EJ.opB op_addA bin_add (EF.str) (EF.var (i := 1)))))) FxOk.nil))) (BJ.nl)) (BJ.sq (SJ.set (i := 2) C.nd (EJ.lst (AJ.nil))) (BJ.sq (SJ.for C (IJ.enum (by rfl) Tx.z_enumerate (AJ.cons (EF.sl (EF.var (i := 0)) (OJ.some (EF.int)) (OJ.none)) (AJ.nil))) (GJ.tup C.calm (GsJ.cons (GJ.name (i := 3) C.nd) (GsJ.cons (GJ.name (i := 4) C.nd) (GsJ.nl)))) (BJ.sq (SJ.set (i := 5) C.nd (EF.ej (EF.or (EF.and (EJ.ef (EJ.cmp (op_eqD C.u64) bin_eq (EF.ix (EF.var (i := 4)) (EF.int)) (EF.str))) (EF.one (EJ.ef (EJ.cmp (op_eqD C.u64) bin_eq (EF.ix (EF.var (i := 0)) (EF.int)) (EF.str))))) (EF.one (EF.and (EJ.ef (EJ.cmp (op_eqD C.u64) bin_eq (EF.var (i := 3)) (EF.int))) (EF.one (EJ.ef (EJ.cmp (op_eqD C.u64) bin_eq (EF.ix (EF.var (i := 4)) (EF.int)) (EF.ix (EF.var (i := 0)) (EF.int)))))))))) (BJ.one (SJ.expr (EF.ej (EF.mtO (j := 2) PySem.F.slot_list_append PySem.F.type_list_append mt_append mo_append (AJ.cons (EF.ife (TJ.val (EF.var (i := 5))) (EJ.ef (EJ.opB op_addA bin_add (EJ.ef (EJ.opB op_addA bin_add (EF.str) (EJ.ef (EJ.cD C Tx._law_test_text ih hr (by omega) FxOk.nil (AJ.cons (EF.var (i := 4)) (AJ.nil)))))) (EF.str))) (EJ.ef (EJ.cD C Tx._law_test_text ih hr (by omega) FxOk.nil (AJ.cons (EF.var (i := 4)) (AJ.nil))))) (AJ.nil)))))))) (BJ.fz 2 (BJ.one (SJ.ret (EF.ej (EJ.ef (EJ.mS PySem.F.slot_str_join PySem.F.type_str_join mt_join mt_joinT (EJ.ef (EJ.opB op_addA bin_add (EJ.ef (EJ.opB op_addA bin_add (EF.str) (EF.ix (EF.var (i := 0)) (EF.int)))) (EF.str))) (AJ.cons (EF.var (i := 2)) (AJ.nil))))) FxOk.nil))))))))
end
end K64
-- K64b
set_option Elab.async false
set_option linter.all false
set_option maxRecDepth 100000
set_option maxHeartbeats 0
namespace K64
open PySem L2 VS
noncomputable section
variable {P : Program} {w : World} {K : PySem.W.Frag} {mg : Str → Option Value} {base : Heap} {A : Ad}
theorem sc__law_line_rows : FnScope ["one", "rows", "row"] ["one"] (defScope s__law_line_rows) := ⟨rfl, rfl, rfl, by decide +kernel, rfl, by decide +kernel, by decide +kernel⟩
theorem sc__law_rows_of : FnScope ["body", "one"] ["body"] (defScope s__law_rows_of) := ⟨rfl, rfl, rfl, by decide +kernel, rfl, by decide +kernel, by decide +kernel⟩
def g_rows (A : Ad) : Nat → (List T → Out T) × (List T → Out T)
  | 0 => (fun _ => .stk, fun _ => .stk)
  | n + 1 => let r := g_rows A n; (defF [.frz] .frz 2 (sSeq (sIf (tst isBl (op2 inT (op2 ixT (rd 0) (cst (.int 0))) (opL tupF (aCons (cst (.str "if")) (aCons (cst (.str "while")) (aNil)))))) (sSeq (sSet 1 (op2 addT (opL lstF (aCons (op2 addT (op2 addT (op2 ixT (rd 0) (cst (.int 0))) (cst (.str " "))) (VS.cal0 (f__law_test_text A 12) (aCons (op2 ixT (rd 0) (cst (.int 1))) (aNil)))) (aNil))) (eLc [2] (iSeq (VS.cal0 r.2 (aCons (op2 ixT (rd 0) (cst (.int 2))) (aNil)))) (gNm 2) (tYesF) (op2 addT (cst (.str "  ")) (rd 2))))) (sSeq (sSet 1 (op2 addT (rd 1) (VS.ife (andT (tst isBl (op2 eqT (op2 ixT (rd 0) (cst (.int 0))) (cst (.str "if")))) (tst isBl (op2 neT (op2 ixT (rd 0) (cst (.int 3))) (opL tupF (aNil))))) (op2 addT (opL lstF (aCons (cst (.str "else")) (aNil))) (eLc [2] (iSeq (VS.cal0 r.2 (aCons (op2 ixT (rd 0) (cst (.int 3))) (aNil)))) (gNm 2) (tYesF) (op2 addT (cst (.str "  ")) (rd 2)))) (opL lstF (aNil))))) (sRet (op2 addT (rd 1) (opL lstF (aCons (cst (.str "end")) (aNil))))))) (sNil)) (sSeq (sIf (tst isBl (op2 eqT (op2 ixT (rd 0) (cst (.int 0))) (cst (.str "flag")))) (sRet (opL lstF (aCons (op2 addT (VS.ife (tst isBl (op2 eqT (op2 ixT (rd 0) (cst (.int 2))) (cst (.int 1)))) (cst (.str "up ")) (cst (.str "down "))) (op2 ixT (rd 0) (cst (.int 1)))) (aNil)))) (sNil)) (sRet (opL lstF (aCons (VS.mS joinT (cst (.str " ")) (aCons (opL listO (aCons (rd 0) (aNil))) (aNil))) (aNil)))))),
    defF [.frz] .frz 1 (sRet (opL sumO (aCons (eLc [1] (iSeq (rd 0)) (gNm 1) (tYesF) (VS.cal0 r.1 (aCons (rd 1) (aNil)))) (aCons (opL lstF (aNil)) (aNil))))))
abbrev f__law_line_rows (A : Ad) (n : Nat) : List T → Out T := (g_rows A n).1
abbrev f__law_rows_of (A : Ad) (n : Nat) : List T → Out T := (g_rows A n).2
theorem okg_rows (Tx : Txt P K mg A) : ∀ n, DefOk P w K mg base (12 + n) A.a__law_line_rows A.fd__law_line_rows ["one"] [.frz] .frz (f__law_line_rows A n) ∧ DefOk P w K mg base (12 + n) A.a__law_rows_of A.fd__law_rows_of ["body"] [.frz] .frz (f__law_rows_of A n)
  | 0 => ⟨DefOk.none, DefOk.none⟩
  | n + 1 => by
    have ih := okg_rows Tx n
    exact ⟨fnJ (k := 12 + n) (lms := [.frz, .frz]) (msN := [.frz] ++ [.frz, .frz]) (msL := []) Tx._law_line_rows.F sc__law_line_rows rfl rfl .nil (fun cdv A0 outer s H E hr C => BJ.sq (SJ.if (TJ.cmp (op_inA C.u65) bin_in (EF.ix (EF.var (i := 0)) (EF.int)) (EF.tup (AJ.cons (EF.str) (AJ.cons (EF.str) (AJ.nil))))) (BJ.sq (SJ.set (i := 1) C.nd (EF.ej (EJ.ef (EJ.opB op_addA bin_add (EJ.freeze (EJ.lst (AJ.cons (EJ.ef (EJ.opB op_addA bin_add (EJ.ef (EJ.opB op_addA bin_add (EF.ix (EF.var (i := 0)) (EF.int)) (EF.str))) (EJ.ef (EJ.cD C Tx._law_test_text (ok__law_test_text Tx 12) hr (by omega) FxOk.nil (AJ.cons (EF.ix (EF.var (i := 0)) (EF.int)) (AJ.nil)))))) (AJ.nil)))) (EJ.freeze (EJ.lc (own := [("row", 2)]) (tv := [2]) C (IJ.seq (EJ.ef (EJ.cD C Tx._law_rows_of ih.2 hr (by omega) FxOk.nil (AJ.cons (EF.ix (EF.var (i := 0)) (EF.int)) (AJ.nil))))) (by rfl) (by decide) (fr_all (by rfl)) (by decide) (fun _ _ _ _ _ => GJ.name (i := 2) (cok_blk C).nd) (fun _ _ _ _ _ => TsJ.nil) (fun _ _ _ _ _ => EJ.ef (EJ.opB op_addA bin_add (EF.str) (EF.var (i := 2)))))))))) (BJ.sq (SJ.set (i := 1) C.nd (EF.ej (EJ.ef (EJ.opB op_addA bin_add (EF.var (i := 1)) (EF.ife (TW.tj (TW.and (TJ.cmp (op_eqD C.u64) bin_eq (EF.ix (EF.var (i := 0)) (EF.int)) (EF.str)) (TW.and1 (TJ.cmp (op_neD C.u64) bin_ne (EF.ix (EF.var (i := 0)) (EF.int)) (EF.tup (AJ.nil)))))) (EJ.ef (EJ.opB op_addA bin_add (EJ.freeze (EJ.lst (AJ.cons (EF.str) (AJ.nil)))) (EJ.freeze (EJ.lc (own := [("row", 2)]) (tv := [2]) C (IJ.seq (EJ.ef (EJ.cD C Tx._law_rows_of ih.2 hr (by omega) FxOk.nil (AJ.cons (EF.ix (EF.var (i := 0)) (EF.int)) (AJ.nil))))) (by rfl) (by decide) (fr_all (by rfl)) (by decide) (fun _ _ _ _ _ => GJ.name (i := 2) (cok_blk C).nd) (fun _ _ _ _ _ => TsJ.nil) (fun _ _ _ _ _ => EJ.ef (EJ.opB op_addA bin_add (EF.str) (EF.var (i := 2)))))))) (EJ.freeze (EJ.lst (AJ.nil)))))))) (BJ.one (SJ.ret (EF.ej (EJ.ef (EJ.opB op_addA bin_add (EF.var (i := 1)) (EJ.freeze (EJ.lst (AJ.cons (EF.str) (AJ.nil))))))) FxOk.nil)))) (BJ.nl)) (BJ.sq (SJ.if (TJ.cmp (op_eqD C.u64) bin_eq (EF.ix (EF.var (i := 0)) (EF.int)) (EF.str)) (BJ.one (SJ.ret (EF.ej (EJ.freeze (EJ.lst (AJ.cons (EJ.ef (EJ.opB op_addA bin_add (EF.ife (TJ.cmp (op_eqD C.u64) bin_eq (EF.ix (EF.var (i := 0)) (EF.int)) (EF.int)) (EF.str) (EF.str)) (EF.ix (EF.var (i := 0)) (EF.int)))) (AJ.nil))))) FxOk.nil)) (BJ.nl)) (BJ.one (SJ.ret (EF.ej (EJ.freeze (EJ.lst (AJ.cons (EJ.ef (EJ.mS PySem.F.slot_str_join PySem.F.type_str_join mt_join mt_joinT (EF.str) (AJ.cons (EJ.freeze (EJ.callTy call_list_of cal_list (by rfl) Tx.z_list PyProof.Rows.boot_list (AJ.cons (EF.var (i := 0)) (AJ.nil)))) (AJ.nil)))) (AJ.nil))))) FxOk.nil)))),
      fnJ (k := 12 + n) (lms := [.frz]) (msN := [.frz] ++ [.frz]) (msL := []) Tx._law_rows_of.F sc__law_rows_of rfl rfl .nil (fun cdv A0 outer s H E hr C => BJ.one (SJ.ret (EF.ej (EJ.ef (EJ.callB (call_sumL C.calm) cal_sumL (by rfl) Tx.z_sum PyProof.Rows.boot_sum (AJ.cons (EJ.freeze (EJ.lc (own := [("one", 1)]) (tv := [1]) C (IJ.seq (EF.var (i := 0))) (by rfl) (by decide) (fr_all (by rfl)) (by decide) (fun _ _ _ _ _ => GJ.name (i := 1) (cok_blk C).nd) (fun _ _ _ _ _ => TsJ.nil) (fun _ _ _ _ _ => EJ.ef (EJ.cD (cok_blk C) Tx._law_line_rows ih.1 hr (by omega) FxOk.nil (AJ.cons (EF.var (i := 1)) (AJ.nil)))))) (AJ.cons (EJ.freeze (EJ.lst (AJ.nil))) (AJ.nil)))))) FxOk.nil))⟩
theorem ok__law_line_rows (Tx : Txt P K mg A) (n : Nat) : DefOk P w K mg base (12 + n) A.a__law_line_rows A.fd__law_line_rows ["one"] [.frz] .frz (f__law_line_rows A n) := (okg_rows Tx n).1
theorem ok__law_rows_of (Tx : Txt P K mg A) (n : Nat) : DefOk P w K mg base (12 + n) A.a__law_rows_of A.fd__law_rows_of ["body"] [.frz] .frz (f__law_rows_of A n) := (okg_rows Tx n).2
theorem sc__law_part_text : FnScope ["term"] ["term"] (defScope s__law_part_text) := ⟨rfl, rfl, rfl, by decide +kernel, rfl, by decide +kernel, by decide +kernel⟩
theorem sc__law_term_text : FnScope ["term", "second"] ["term"] (defScope s__law_term_text) := ⟨rfl, rfl, rfl, by decide +kernel, rfl, by decide +kernel, by decide +kernel⟩
def g_term (A : Ad) : Nat → (List T → Out T) × (List T → Out T)
  | 0 => (fun _ => .stk, fun _ => .stk)
  | n + 1 => let r := g_term A n; (defF [.frz] .frz 0 (sRet (VS.ife (tst isBl (op2 eqT (op2 ixT (rd 0) (cst (.int 0))) (cst (.str "of")))) (op2 ixT (rd 0) (cst (.int 1))) (op2 addT (op2 addT (cst (.str "(")) (VS.cal0 r.2 (aCons (rd 0) (aNil)))) (cst (.str ")"))))),
    defF [.frz] .frz 1 (sSeq (sIf (tst isBl (op2 inT (op2 ixT (rd 0) (cst (.int 0))) (opL tupF (aCons (cst (.str "of")) (aCons (cst (.str "number")) (aNil)))))) (sRet (opL strSO (aCons (op2 ixT (rd 0) (cst (.int 1))) (aNil)))) (sNil)) (sSeq (sIf (tst isBl (op2 eqT (op2 ixT (rd 0) (cst (.int 0))) (cst (.str "often")))) (sRet (op2 addT (op2 addT (opL strSO (aCons (op2 ixT (rd 0) (cst (.int 1))) (aNil))) (cst (.str " "))) (VS.cal0 r.1 (aCons (op2 ixT (rd 0) (cst (.int 2))) (aNil))))) (sNil)) (sSeq (sIf (tst isBl (op2 inT (op2 ixT (rd 0) (cst (.int 0))) (opL tupF (aCons (cst (.str "least")) (aCons (cst (.str "greatest")) (aNil)))))) (sRet (op2 addT (op2 addT (op2 addT (op2 addT (op2 ixT (rd 0) (cst (.int 0))) (cst (.str " "))) (VS.cal0 r.1 (aCons (op2 ixT (rd 0) (cst (.int 1))) (aNil)))) (cst (.str " "))) (VS.cal0 r.1 (aCons (op2 ixT (rd 0) (cst (.int 2))) (aNil))))) (sNil)) (sSeq (sSet 1 (VS.cal0 r.2 (aCons (op2 ixT (rd 0) (cst (.int 2))) (aNil)))) (sRet (op2 addT (op2 addT (op2 addT (op2 addT (VS.cal0 r.2 (aCons (op2 ixT (rd 0) (cst (.int 1))) (aNil))) (cst (.str " "))) (op2 ixT (rd 0) (cst (.int 0)))) (cst (.str " "))) (VS.ife (tst isBl (op2 inT (op2 ixT (op2 ixT (rd 0) (cst (.int 2))) (cst (.int 0))) (opL tupF (aCons (cst (.str "plus")) (aCons (cst (.str "less")) (aNil)))))) (op2 addT (op2 addT (cst (.str "(")) (rd 1)) (cst (.str ")"))) (rd 1)))))))))
abbrev f__law_part_text (A : Ad) (n : Nat) : List T → Out T := (g_term A n).1
abbrev f__law_term_text (A : Ad) (n : Nat) : List T → Out T := (g_term A n).2
theorem okg_term (Tx : Txt P K mg A) : ∀ n, DefOk P w K mg base (0 + n) A.a__law_part_text A.fd__law_part_text ["term"] [.frz] .frz (f__law_part_text A n) ∧ DefOk P w K mg base (0 + n) A.a__law_term_text A.fd__law_term_text ["term"] [.frz] .frz (f__law_term_text A n)
  | 0 => ⟨DefOk.none, DefOk.none⟩
  | n + 1 => by
    have ih := okg_term Tx n
    exact ⟨fnJ (k := 0 + n) (lms := []) (msN := [.frz] ++ []) (msL := []) Tx._law_part_text.F sc__law_part_text rfl rfl .nil (fun cdv A0 outer s H E hr C => BJ.one (SJ.ret (EF.ej (EF.ife (TJ.cmp (op_eqD C.u64) bin_eq (EF.ix (EF.var (i := 0)) (EF.int)) (EF.str)) (EF.ix (EF.var (i := 0)) (EF.int)) (EJ.ef (EJ.opB op_addA bin_add (EJ.ef (EJ.opB op_addA bin_add (EF.str) (EJ.ef (EJ.cD C Tx._law_term_text ih.2 hr (by omega) FxOk.nil (AJ.cons (EF.var (i := 0)) (AJ.nil)))))) (EF.str))))) FxOk.nil)),
      fnJ (k := 0 + n) (lms := [.frz]) (msN := [.frz] ++ [.frz]) (msL := []) Tx._law_term_text.F sc__law_term_text rfl rfl .nil (fun cdv A0 outer s H E hr C => BJ.sq (SJ.if (TJ.cmp (op_inA C.u65) bin_in (EF.ix (EF.var (i := 0)) (EF.int)) (EF.tup (AJ.cons (EF.str) (AJ.cons (EF.str) (AJ.nil))))) (BJ.one (SJ.ret (EF.ej (EJ.ef (EJ.callTy call_strA cal_strA (by rfl) Tx.z_str PyProof.Rows.boot_str (AJ.cons (EF.ix (EF.var (i := 0)) (EF.int)) (AJ.nil))))) FxOk.nil)) (BJ.nl)) (BJ.sq (SJ.if (TJ.cmp (op_eqD C.u64) bin_eq (EF.ix (EF.var (i := 0)) (EF.int)) (EF.str)) (BJ.one (SJ.ret (EF.ej (EJ.ef (EJ.opB op_addA bin_add (EJ.ef (EJ.opB op_addA bin_add (EJ.ef (EJ.callTy call_strA cal_strA (by rfl) Tx.z_str PyProof.Rows.boot_str (AJ.cons (EF.ix (EF.var (i := 0)) (EF.int)) (AJ.nil)))) (EF.str))) (EJ.ef (EJ.cD C Tx._law_part_text ih.1 hr (by omega) FxOk.nil (AJ.cons (EF.ix (EF.var (i := 0)) (EF.int)) (AJ.nil))))))) FxOk.nil)) (BJ.nl)) (BJ.sq (SJ.if (TJ.cmp (op_inA C.u65) bin_in (EF.ix (EF.var (i := 0)) (EF.int)) (EF.tup (AJ.cons (EF.str) (AJ.cons (EF.str) (AJ.nil))))) (BJ.one (SJ.ret (EF.ej (EJ.ef (EJ.opB op_addA bin_add (EJ.ef (EJ.opB op_addA bin_add (EJ.ef (EJ.opB op_addA bin_add (EJ.ef (EJ.opB op_addA bin_add (EF.ix (EF.var (i := 0)) (EF.int)) (EF.str))) (EJ.ef (EJ.cD C Tx._law_part_text ih.1 hr (by omega) FxOk.nil (AJ.cons (EF.ix (EF.var (i := 0)) (EF.int)) (AJ.nil)))))) (EF.str))) (EJ.ef (EJ.cD C Tx._law_part_text ih.1 hr (by omega) FxOk.nil (AJ.cons (EF.ix (EF.var (i := 0)) (EF.int)) (AJ.nil))))))) FxOk.nil)) (BJ.nl)) (BJ.sq (SJ.set (i := 1) C.nd (EF.ej (EJ.ef (EJ.cD C Tx._law_term_text ih.2 hr (by omega) FxOk.nil (AJ.cons (EF.ix (EF.var (i := 0)) (EF.int)) (AJ.nil)))))) (BJ.one (SJ.ret (EF.ej (EJ.ef (EJ.opB op_addA bin_add (EJ.ef (EJ.opB op_addA bin_add (EJ.ef (EJ.opB op_addA bin_add (EJ.ef (EJ.opB op_addA bin_add (EJ.ef (EJ.cD C Tx._law_term_text ih.2 hr (by omega) FxOk.nil (AJ.cons (EF.ix (EF.var (i := 0)) (EF.int)) (AJ.nil)))) (EF.str))) (EF.ix (EF.var (i := 0)) (EF.int)))) (EF.str))) (EF.ife (TJ.cmp (op_inA C.u65) bin_in (EF.ix (EF.ix (EF.var (i := 0)) (EF.int)) (EF.int)) (EF.tup (AJ.cons (EF.str) (AJ.cons (EF.str) (AJ.nil))))) (EJ.ef (EJ.opB op_addA bin_add (EJ.ef (EJ.opB op_addA bin_add (EF.str) (EF.var (i := 1)))) (EF.str))) (EF.var (i := 1)))))) FxOk.nil))))))⟩
theorem ok__law_part_text (Tx : Txt P K mg A) (n : Nat) : DefOk P w K mg base (0 + n) A.a__law_part_text A.fd__law_part_text ["term"] [.frz] .frz (f__law_part_text A n) := (okg_term Tx n).1
theorem ok__law_term_text (Tx : Txt P K mg A) (n : Nat) : DefOk P w K mg base (0 + n) A.a__law_term_text A.fd__law_term_text ["term"] [.frz] .frz (f__law_term_text A n) := (okg_term Tx n).2
theorem sc__law_claim_text : FnScope ["claim", "parts", "name", "often"] ["claim"] (defScope s__law_claim_text) := ⟨rfl, rfl, rfl, by decide +kernel, rfl, by decide +kernel, by decide +kernel⟩
def f__law_claim_text (A : Ad) : List T → Out T := defF [.frz] .frz 3 (sSeq (sIf (tst isBl (op2 eqT (op2 ixT (rd 0) (cst (.int 0))) (cst (.str "ascends")))) (sRet (op2 addT (op2 addT (cst (.str "claim ")) (op2 ixT (rd 0) (cst (.int 1)))) (cst (.str " ascends")))) (sNil)) (sSeq (sIf (tst isBl (op2 eqT (op2 ixT (rd 0) (cst (.int 0))) (cst (.str "times")))) (sRet (op2 addT (op2 addT (op2 addT (cst (.str "claim ")) (op2 ixT (rd 0) (cst (.int 1)))) (cst (.str " is "))) (VS.cal0 (f__law_term_text A 12) (aCons (op2 ixT (rd 0) (cst (.int 2))) (aNil))))) (sNil)) (sSeq (sSet 1 (eLc [2, 3] (iSeq (op2 ixT (op2 ixT (rd 0) (cst (.int 1))) (cst (.int 1)))) (gTu (gCo (gNm 2) (gCo (gNm 3) (gNl))) 2) (tYesF) (op2 addT (VS.ife (tst isBl (op2 neT (rd 3) (cst (.int 1)))) (op2 addT (opL strSO (aCons (rd 3) (aNil))) (cst (.str " "))) (cst (.str ""))) (rd 2)))) (sRet (op2 addT (cst (.str "claim compares ")) (VS.mS joinT (cst (.str " plus ")) (aCons (op2 addT (rd 1) (VS.ife (orT (tst isBl (op2 neT (op2 ixT (op2 ixT (rd 0) (cst (.int 1))) (cst (.int 0))) (cst (.int 0)))) (tst isBl (op2 eqT (rd 1) (opL lstF (aNil))))) (opL lstF (aCons (opL strSO (aCons (op2 ixT (op2 ixT (rd 0) (cst (.int 1))) (cst (.int 0))) (aNil))) (aNil))) (opL lstF (aNil)))) (aNil))))))))
theorem ok__law_claim_text (Tx : Txt P K mg A) : DefOk P w K mg base 13 A.a__law_claim_text A.fd__law_claim_text ["claim"] [.frz] .frz (f__law_claim_text A) :=
  fnJ (lms := [.frz, .frz, .frz]) (msN := [.frz] ++ [.frz, .frz, .frz]) (msL := []) Tx._law_claim_text.F sc__law_claim_text rfl rfl .nil (fun cdv A0 outer s H E hr C => BJ.sq (SJ.if (TJ.cmp (op_eqD C.u64) bin_eq (EF.ix (EF.var (i := 0)) (EF.int)) (EF.str)) (BJ.one (SJ.ret (EF.ej (EJ.ef (EJ.opB op_addA bin_add (EJ.ef (EJ.opB op_addA bin_add (EF.str) (EF.ix (EF.var (i := 0)) (EF.int)))) (EF.str)))) FxOk.nil)) (BJ.nl)) (BJ.sq (SJ.if (TJ.cmp (op_eqD C.u64) bin_eq (EF.ix (EF.var (i := 0)) (EF.int)) (EF.str)) (BJ.one (SJ.ret (EF.ej (EJ.ef (EJ.opB op_addA bin_add (EJ.ef (EJ.opB op_addA bin_add (EJ.ef (EJ.opB op_addA bin_add (EF.str) (EF.ix (EF.var (i := 0)) (EF.int)))) (EF.str))) (EJ.ef (EJ.cD C Tx._law_term_text (ok__law_term_text Tx 12) hr (by decide) FxOk.nil (AJ.cons (EF.ix (EF.var (i := 0)) (EF.int)) (AJ.nil))))))) FxOk.nil)) (BJ.nl)) (BJ.sq (SJ.setLc (i := 1) (own := [("name", 2), ("often", 3)]) (tv := [2, 3]) C (IJ.seq (EF.ix (EF.ix (EF.var (i := 0)) (EF.int)) (EF.int))) (by rfl) (by decide) (fr_all (by rfl)) (by decide) (fun _ _ _ _ _ => GJ.tup (cok_blk C).calm (GsJ.cons (GJ.name (i := 2) (cok_blk C).nd) (GsJ.cons (GJ.name (i := 3) (cok_blk C).nd) (GsJ.nl)))) (fun _ _ _ _ _ => TsJ.nil) (fun _ _ _ _ _ => EJ.ef (EJ.opB op_addA bin_add (EF.ife (TJ.cmp (op_neD (cok_blk C).u64) bin_ne (EF.var (i := 3)) (EF.int)) (EJ.ef (EJ.opB op_addA bin_add (EJ.ef (EJ.callTy call_strA cal_strA (by rfl) Tx.z_str PyProof.Rows.boot_str (AJ.cons (EF.var (i := 3)) (AJ.nil)))) (EF.str))) (EF.str)) (EF.var (i := 2)))) rfl rfl (by rfl)) (BJ.fz 1 (BJ.one (SJ.ret (EF.ej (EJ.ef (EJ.opB op_addA bin_add (EF.str) (EJ.ef (EJ.mS PySem.F.slot_str_join PySem.F.type_str_join mt_join mt_joinT (EF.str) (AJ.cons (EJ.ef (EJ.opB op_addA bin_add (EF.var (i := 1)) (EF.ife (TW.tj (TW.or (TJ.cmp (op_neD C.u64) bin_ne (EF.ix (EF.ix (EF.var (i := 0)) (EF.int)) (EF.int)) (EF.int)) (TW.or1 (TJ.cmp (op_eqD C.u64) bin_eq (EF.var (i := 1)) (EJ.freeze (EJ.lst (AJ.nil))))))) (EJ.freeze (EJ.lst (AJ.cons (EJ.ef (EJ.callTy call_strA cal_strA (by rfl) Tx.z_str PyProof.Rows.boot_str (AJ.cons (EF.ix (EF.ix (EF.var (i := 0)) (EF.int)) (EF.int)) (AJ.nil)))) (AJ.nil)))) (EJ.freeze (EJ.lst (AJ.nil)))))) (AJ.nil))))))) FxOk.nil))))))
theorem sc__law_plan_text : FnScope ["plan", "rows", "name", "claim"] ["plan"] (defScope s__law_plan_text) := ⟨rfl, rfl, rfl, by decide +kernel, rfl, by decide +kernel, by decide +kernel⟩
def f__law_plan_text (A : Ad) : List T → Out T := defF [.frz] .frz 3 (sSeq (sSet 1 (op2 addT (op2 addT (eLc [2] (iSeq (op2 ixT (rd 0) (cst (.int 0)))) (gNm 2) (tYesF) (op2 addT (cst (.str "in ")) (rd 2))) (eLc [2] (iSeq (op2 ixT (rd 0) (cst (.int 1)))) (gNm 2) (tYesF) (op2 addT (cst (.str "out ")) (rd 2)))) (eLc [2] (iSeq (op2 ixT (rd 0) (cst (.int 2)))) (gNm 2) (tYesF) (op2 addT (cst (.str "keep ")) (rd 2))))) (sSeq (sSet 1 (op2 addT (op2 addT (op2 addT (rd 1) (eLc [2] (iSeq (op2 ixT (rd 0) (cst (.int 3)))) (gNm 2) (tYesF) (op2 addT (cst (.str "flag ")) (rd 2)))) (VS.cal0 (f__law_rows_of A 16) (aCons (op2 ixT (rd 0) (cst (.int 4))) (aNil)))) (eLc [3] (iSeq (op2 ixT (rd 0) (cst (.int 5)))) (gNm 3) (tYesF) (VS.cal0 (f__law_claim_text A) (aCons (rd 3) (aNil)))))) (sRet (VS.mS joinT (cst (.str "\n")) (aCons (rd 1) (aNil))))))
theorem ok__law_plan_text (Tx : Txt P K mg A) : DefOk P w K mg base 29 A.a__law_plan_text A.fd__law_plan_text ["plan"] [.frz] .frz (f__law_plan_text A) :=
  fnJ (lms := [.frz, .frz, .frz]) (msN := [.frz] ++ [.frz, .frz, .frz]) (msL := []) Tx._law_plan_text.F sc__law_plan_text rfl rfl .nil (fun cdv A0 outer s H E hr C => BJ.sq (SJ.set (i := 1) C.nd (EF.ej (EJ.ef (EJ.opB op_addA bin_add (EJ.ef (EJ.opB op_addA bin_add (EJ.freeze (EJ.lc (own := [("name", 2)]) (tv := [2]) C (IJ.seq (EF.ix (EF.var (i := 0)) (EF.int))) (by rfl) (by decide) (fr_all (by rfl)) (by decide) (fun _ _ _ _ _ => GJ.name (i := 2) (cok_blk C).nd) (fun _ _ _ _ _ => TsJ.nil) (fun _ _ _ _ _ => EJ.ef (EJ.opB op_addA bin_add (EF.str) (EF.var (i := 2)))))) (EJ.freeze (EJ.lc (own := [("name", 2)]) (tv := [2]) C (IJ.seq (EF.ix (EF.var (i := 0)) (EF.int))) (by rfl) (by decide) (fr_all (by rfl)) (by decide) (fun _ _ _ _ _ => GJ.name (i := 2) (cok_blk C).nd) (fun _ _ _ _ _ => TsJ.nil) (fun _ _ _ _ _ => EJ.ef (EJ.opB op_addA bin_add (EF.str) (EF.var (i := 2)))))))) (EJ.freeze (EJ.lc (own := [("name", 2)]) (tv := [2]) C (IJ.seq (EF.ix (EF.var (i := 0)) (EF.int))) (by rfl) (by decide) (fr_all (by rfl)) (by decide) (fun _ _ _ _ _ => GJ.name (i := 2) (cok_blk C).nd) (fun _ _ _ _ _ => TsJ.nil) (fun _ _ _ _ _ => EJ.ef (EJ.opB op_addA bin_add (EF.str) (EF.var (i := 2)))))))))) (BJ.sq (SJ.set (i := 1) C.nd (EF.ej (EJ.ef (EJ.opB op_addA bin_add (EJ.ef (EJ.opB op_addA bin_add (EJ.ef (EJ.opB op_addA bin_add (EF.var (i := 1)) (EJ.freeze (EJ.lc (own := [("name", 2)]) (tv := [2]) C (IJ.seq (EF.ix (EF.var (i := 0)) (EF.int))) (by rfl) (by decide) (fr_all (by rfl)) (by decide) (fun _ _ _ _ _ => GJ.name (i := 2) (cok_blk C).nd) (fun _ _ _ _ _ => TsJ.nil) (fun _ _ _ _ _ => EJ.ef (EJ.opB op_addA bin_add (EF.str) (EF.var (i := 2)))))))) (EJ.ef (EJ.cD C Tx._law_rows_of (ok__law_rows_of Tx 16) hr (by decide) FxOk.nil (AJ.cons (EF.ix (EF.var (i := 0)) (EF.int)) (AJ.nil)))))) (EJ.freeze (EJ.lc (own := [("claim", 3)]) (tv := [3]) C (IJ.seq (EF.ix (EF.var (i := 0)) (EF.int))) (by rfl) (by decide) (fr_all (by rfl)) (by decide) (fun _ _ _ _ _ => GJ.name (i := 3) (cok_blk C).nd) (fun _ _ _ _ _ => TsJ.nil) (fun _ _ _ _ _ => EJ.ef (EJ.cD (cok_blk C) Tx._law_claim_text (ok__law_claim_text Tx) hr (by decide) FxOk.nil (AJ.cons (EF.var (i := 3)) (AJ.nil)))))))))) (BJ.one (SJ.ret (EF.ej (EJ.ef (EJ.mS PySem.F.slot_str_join PySem.F.type_str_join mt_join mt_joinT (EF.str) (AJ.cons (EF.var (i := 1)) (AJ.nil))))) FxOk.nil))))
theorem sc__law_take_one : FnScope ["out", "name"] ["out", "name"] (defScope s__law_take_one) := ⟨rfl, rfl, rfl, by decide +kernel, rfl, by decide +kernel, by decide +kernel⟩
def f__law_take_one (A : Ad) : List T → Out T := defF [.frz, .frz] .frz 0 (sRet (opL tupF (aCons (opL tupF (aCons (cst (.str "put")) (aCons (rd 0) (aCons (rd 1) (aNil))))) (aCons (opL tupF (aCons (cst (.str "skip")) (aCons (rd 1) (aNil)))) (aNil)))))
theorem ok__law_take_one (Tx : Txt P K mg A) : DefOk P w K mg base 1 A.a__law_take_one A.fd__law_take_one ["out", "name"] [.frz, .frz] .frz (f__law_take_one A) :=
  fnJ (lms := []) (msN := [.frz, .frz] ++ []) (msL := []) Tx._law_take_one.F sc__law_take_one rfl rfl .nil (fun cdv A0 outer s H E hr C => BJ.one (SJ.ret (EF.ej (EF.tup (AJ.cons (EF.tup (AJ.cons (EF.str) (AJ.cons (EF.var (i := 0)) (AJ.cons (EF.var (i := 1)) (AJ.nil))))) (AJ.cons (EF.tup (AJ.cons (EF.str) (AJ.cons (EF.var (i := 1)) (AJ.nil)))) (AJ.nil))))) FxOk.nil))
theorem sc__law_not : FnScope ["test"] ["test"] (defScope s__law_not) := ⟨rfl, rfl, rfl, by decide +kernel, rfl, by decide +kernel, by decide +kernel⟩
def f__law_not (A : Ad) : List T → Out T := defF [.frz] .frz 0 (sRet (opL tupF (aCons (cst (.str "not")) (aCons (rd 0) (aNil)))))
theorem ok__law_not (Tx : Txt P K mg A) : DefOk P w K mg base 1 A.a__law_not A.fd__law_not ["test"] [.frz] .frz (f__law_not A) :=
  fnJ (lms := []) (msN := [.frz] ++ []) (msL := []) Tx._law_not.F sc__law_not rfl rfl .nil (fun cdv A0 outer s H E hr C => BJ.one (SJ.ret (EF.ej (EF.tup (AJ.cons (EF.str) (AJ.cons (EF.var (i := 0)) (AJ.nil))))) FxOk.nil))
theorem sc__law_both : FnScope ["names", "found", "name"] ["names"] (defScope s__law_both) := ⟨rfl, rfl, rfl, by decide +kernel, rfl, by decide +kernel, by decide +kernel⟩
def f__law_both (A : Ad) : List T → Out T := defF [.frz] .frz 2 (sSeq (sSet 1 (VS.cal0 (f__law_not A) (aCons (opL tupF (aCons (cst (.str "ends")) (aCons (op2 ixT (rd 0) (cst (.int 0))) (aNil)))) (aNil)))) (sSeq (sFor (iSeq (slE (rd 0) (oSome (cst (.int 1))) oNone)) (gNm 2) (sSet 1 (opL tupF (aCons (cst (.str "and")) (aCons (rd 1) (aCons (VS.cal0 (f__law_not A) (aCons (opL tupF (aCons (cst (.str "ends")) (aCons (rd 2) (aNil)))) (aNil))) (aNil))))))) (sRet (rd 1))))
theorem ok__law_both (Tx : Txt P K mg A) : DefOk P w K mg base 2 A.a__law_both A.fd__law_both ["names"] [.frz] .frz (f__law_both A) :=
  fnJ (lms := [.frz, .frz]) (msN := [.frz] ++ [.frz, .frz]) (msL := []) Tx._law_both.F sc__law_both rfl rfl .nil (fun cdv A0 outer s H E hr C => BJ.sq (SJ.set (i := 1) C.nd (EF.ej (EJ.ef (EJ.cD C Tx._law_not (ok__law_not Tx) hr (by decide) FxOk.nil (AJ.cons (EF.tup (AJ.cons (EF.str) (AJ.cons (EF.ix (EF.var (i := 0)) (EF.int)) (AJ.nil)))) (AJ.nil)))))) (BJ.sq (SJ.for C (IJ.seq (EF.sl (EF.var (i := 0)) (OJ.some (EF.int)) (OJ.none))) (GJ.name (i := 2) C.nd) (BJ.one (SJ.set (i := 1) C.nd (EF.ej (EF.tup (AJ.cons (EF.str) (AJ.cons (EF.var (i := 1)) (AJ.cons (EJ.ef (EJ.cD C Tx._law_not (ok__law_not Tx) hr (by decide) FxOk.nil (AJ.cons (EF.tup (AJ.cons (EF.str) (AJ.cons (EF.var (i := 2)) (AJ.nil)))) (AJ.nil)))) (AJ.nil))))))))) (BJ.one (SJ.ret (EF.ej (EF.var (i := 1))) FxOk.nil))))
theorem sc__law_rest : FnScope ["out", "name"] ["out", "name"] (defScope s__law_rest) := ⟨rfl, rfl, rfl, by decide +kernel, rfl, by decide +kernel, by decide +kernel⟩
def f__law_rest (A : Ad) : List T → Out T := defF [.frz, .frz] .frz 0 (sRet (opL tupF (aCons (cst (.str "while")) (aCons (VS.cal0 (f__law_not A) (aCons (opL tupF (aCons (cst (.str "ends")) (aCons (rd 1) (aNil)))) (aNil))) (aCons (VS.cal0 (f__law_take_one A) (aCons (rd 0) (aCons (rd 1) (aNil)))) (aNil))))))
theorem ok__law_rest (Tx : Txt P K mg A) : DefOk P w K mg base 2 A.a__law_rest A.fd__law_rest ["out", "name"] [.frz, .frz] .frz (f__law_rest A) :=
  fnJ (lms := []) (msN := [.frz, .frz] ++ []) (msL := []) Tx._law_rest.F sc__law_rest rfl rfl .nil (fun cdv A0 outer s H E hr C => BJ.one (SJ.ret (EF.ej (EF.tup (AJ.cons (EF.str) (AJ.cons (EJ.ef (EJ.cD C Tx._law_not (ok__law_not Tx) hr (by decide) FxOk.nil (AJ.cons (EF.tup (AJ.cons (EF.str) (AJ.cons (EF.var (i := 1)) (AJ.nil)))) (AJ.nil)))) (AJ.cons (EJ.ef (EJ.cD C Tx._law_take_one (ok__law_take_one Tx) hr (by decide) FxOk.nil (AJ.cons (EF.var (i := 0)) (AJ.cons (EF.var (i := 1)) (AJ.nil))))) (AJ.nil)))))) FxOk.nil))
theorem sc__law_three : FnScope ["first", "second", "third"] ["first", "second", "third"] (defScope s__law_three) := ⟨rfl, rfl, rfl, by decide +kernel, rfl, by decide +kernel, by decide +kernel⟩
def f__law_three (A : Ad) : List T → Out T := defF [.frz, .frz, .frz] .frz 0 (sRet (opL tupF (aCons (cst (.str "if")) (aCons (opL tupF (aCons (cst (.str "below")) (aCons (cst (.str "a")) (aCons (cst (.str "b")) (aNil))))) (aCons (rd 0) (aCons (opL tupF (aCons (opL tupF (aCons (cst (.str "if")) (aCons (opL tupF (aCons (cst (.str "below")) (aCons (cst (.str "b")) (aCons (cst (.str "a")) (aNil))))) (aCons (rd 1) (aCons (rd 2) (aNil)))))) (aNil))) (aNil)))))))
theorem ok__law_three (Tx : Txt P K mg A) : DefOk P w K mg base 1 A.a__law_three A.fd__law_three ["first", "second", "third"] [.frz, .frz, .frz] .frz (f__law_three A) :=
  fnJ (lms := []) (msN := [.frz, .frz, .frz] ++ []) (msL := []) Tx._law_three.F sc__law_three rfl rfl .nil (fun cdv A0 outer s H E hr C => BJ.one (SJ.ret (EF.ej (EF.tup (AJ.cons (EF.str) (AJ.cons (EF.tup (AJ.cons (EF.str) (AJ.cons (EF.str) (AJ.cons (EF.str) (AJ.nil))))) (AJ.cons (EF.var (i := 0)) (AJ.cons (EF.tup (AJ.cons (EF.tup (AJ.cons (EF.str) (AJ.cons (EF.tup (AJ.cons (EF.str) (AJ.cons (EF.str) (AJ.cons (EF.str) (AJ.nil))))) (AJ.cons (EF.var (i := 1)) (AJ.cons (EF.var (i := 2)) (AJ.nil)))))) (AJ.nil))) (AJ.nil))))))) FxOk.nil))
theorem sc__law_family : FnScope ["number", "a", "b", "step", "new"] ["number"] (defScope s__law_family) := ⟨rfl, rfl, rfl, by decide +kernel, rfl, by decide +kernel, by decide +kernel⟩
def f__law_family (A : Ad) : List T → Out T := defF [.frz] .frz 4 (sSeq (sAsg (opL tupF (aCons (opL tupF (aCons (cst (.str "of")) (aCons (cst (.str "a")) (aNil)))) (aCons (opL tupF (aCons (cst (.str "of")) (aCons (cst (.str "b")) (aNil)))) (aNil)))) (gTu (gCo (gNm 1) (gCo (gNm 2) (gNl))) 2)) (sSeq (sIf (tst isBl (op2 eqT (rd 0) (cst (.int 0)))) (sSeq (sSet 3 (opL tupF (aCons (cst (.str "if")) (aCons (opL tupF (aCons (cst (.str "below")) (aCons (cst (.str "a")) (aCons (cst (.str "b")) (aNil))))) (aCons (VS.cal0 (f__law_take_one A) (aCons (cst (.str "o")) (aCons (cst (.str "a")) (aNil)))) (aCons (VS.cal0 (f__law_take_one A) (aCons (cst (.str "o")) (aCons (cst (.str "b")) (aNil)))) (aNil))))))) (sRet (opL tupF (aCons (opL tupF (aCons (opL tupF (aCons (cst (.str "while")) (aCons (VS.cal0 (f__law_both A) (aCons (cst (.str "ab")) (aNil))) (aCons (opL tupF (aCons (rd 3) (aNil))) (aNil))))) (aCons (VS.cal0 (f__law_rest A) (aCons (cst (.str "o")) (aCons (cst (.str "a")) (aNil)))) (aCons (VS.cal0 (f__law_rest A) (aCons (cst (.str "o")) (aCons (cst (.str "b")) (aNil)))) (aNil))))) (aCons (opL tupF (aNil)) (aCons (opL tupF (aNil)) (aCons (opL tupF (aCons (cst (.str "plus")) (aCons (rd 1) (aCons (rd 2) (aNil))))) (aNil)))))))) (sNil)) (sSeq (sIf (tst isBl (op2 eqT (rd 0) (cst (.int 1)))) (sSeq (sSet 3 (VS.cal0 (f__law_three A) (aCons (VS.cal0 (f__law_take_one A) (aCons (cst (.str "o")) (aCons (cst (.str "a")) (aNil)))) (aCons (VS.cal0 (f__law_take_one A) (aCons (cst (.str "o")) (aCons (cst (.str "b")) (aNil)))) (aCons (opL tupF (aCons (opL tupF (aCons (cst (.str "put")) (aCons (cst (.str "o")) (aCons (cst (.str "a")) (aNil))))) (aCons (opL tupF (aCons (cst (.str "skip")) (aCons (cst (.str "a")) (aNil)))) (aCons (opL tupF (aCons (cst (.str "skip")) (aCons (cst (.str "b")) (aNil)))) (aNil))))) (aNil)))))) (sRet (opL tupF (aCons (opL tupF (aCons (opL tupF (aCons (cst (.str "while")) (aCons (VS.cal0 (f__law_both A) (aCons (cst (.str "ab")) (aNil))) (aCons (opL tupF (aCons (rd 3) (aNil))) (aNil))))) (aCons (VS.cal0 (f__law_rest A) (aCons (cst (.str "o")) (aCons (cst (.str "a")) (aNil)))) (aCons (VS.cal0 (f__law_rest A) (aCons (cst (.str "o")) (aCons (cst (.str "b")) (aNil)))) (aNil))))) (aCons (opL tupF (aNil)) (aCons (opL tupF (aNil)) (aCons (opL tupF (aCons (cst (.str "greatest")) (aCons (rd 1) (aCons (rd 2) (aNil))))) (aNil)))))))) (sNil)) (sSeq (sIf (tst isBl (op2 eqT (rd 0) (cst (.int 2)))) (sSeq (sSet 3 (VS.cal0 (f__law_three A) (aCons (opL tupF (aCons (opL tupF (aCons (cst (.str "skip")) (aCons (cst (.str "a")) (aNil)))) (aNil))) (aCons (opL tupF (aCons (opL tupF (aCons (cst (.str "skip")) (aCons (cst (.str "b")) (aNil)))) (aNil))) (aCons (opL tupF (aCons (opL tupF (aCons (cst (.str "put")) (aCons (cst (.str "o")) (aCons (cst (.str "a")) (aNil))))) (aCons (opL tupF (aCons (cst (.str "skip")) (aCons (cst (.str "a")) (aNil)))) (aCons (opL tupF (aCons (cst (.str "skip")) (aCons (cst (.str "b")) (aNil)))) (aNil))))) (aNil)))))) (sRet (opL tupF (aCons (opL tupF (aCons (opL tupF (aCons (cst (.str "while")) (aCons (VS.cal0 (f__law_both A) (aCons (cst (.str "ab")) (aNil))) (aCons (opL tupF (aCons (rd 3) (aNil))) (aNil))))) (aNil))) (aCons (opL tupF (aNil)) (aCons (opL tupF (aNil)) (aCons (opL tupF (aCons (cst (.str "least")) (aCons (rd 1) (aCons (rd 2) (aNil))))) (aNil)))))))) (sNil)) (sSeq (sIf (tst isBl (op2 eqT (rd 0) (cst (.int 3)))) (sSeq (sSet 3 (VS.cal0 (f__law_three A) (aCons (VS.cal0 (f__law_take_one A) (aCons (cst (.str "o")) (aCons (cst (.str "a")) (aNil)))) (aCons (opL tupF (aCons (opL tupF (aCons (cst (.str "skip")) (aCons (cst (.str "b")) (aNil)))) (aNil))) (aCons (opL tupF (aCons (opL tupF (aCons (cst (.str "skip")) (aCons (cst (.str "a")) (aNil)))) (aCons (opL tupF (aCons (cst (.str "skip")) (aCons (cst (.str "b")) (aNil)))) (aNil)))) (aNil)))))) (sRet (opL tupF (aCons (opL tupF (aCons (opL tupF (aCons (cst (.str "while")) (aCons (VS.cal0 (f__law_both A) (aCons (cst (.str "ab")) (aNil))) (aCons (opL tupF (aCons (rd 3) (aNil))) (aNil))))) (aCons (VS.cal0 (f__law_rest A) (aCons (cst (.str "o")) (aCons (cst (.str "a")) (aNil)))) (aNil)))) (aCons (opL tupF (aNil)) (aCons (opL tupF (aNil)) (aCons (opL tupF (aCons (cst (.str "less")) (aCons (rd 1) (aCons (rd 2) (aNil))))) (aNil)))))))) (sNil)) (sSeq (sIf (tst isBl (op2 eqT (rd 0) (cst (.int 4)))) (sSeq (sSet 4 (opL tupF (aCons (cst (.str "if")) (aCons (opL tupF (aCons (cst (.str "or")) (aCons (opL tupF (aCons (cst (.str "empty")) (aCons (cst (.str "r")) (aNil)))) (aCons (VS.cal0 (f__law_not A) (aCons (opL tupF (aCons (cst (.str "same")) (aCons (cst (.str "r")) (aCons (cst (.str "a")) (aNil))))) (aNil))) (aNil))))) (aCons (opL tupF (aCons (opL tupF (aCons (cst (.str "put")) (aCons (cst (.str "o")) (aCons (cst (.str "a")) (aNil))))) (aCons (opL tupF (aCons (cst (.str "keep")) (aCons (cst (.str "r")) (aCons (cst (.str "a")) (aNil))))) (aNil)))) (aCons (opL tupF (aNil)) (aNil))))))) (sRet (opL tupF (aCons (opL tupF (aCons (opL tupF (aCons (cst (.str "while")) (aCons (VS.cal0 (f__law_not A) (aCons (opL tupF (aCons (cst (.str "ends")) (aCons (cst (.str "a")) (aNil)))) (aNil))) (aCons (opL tupF (aCons (rd 4) (aCons (opL tupF (aCons (cst (.str "skip")) (aCons (cst (.str "a")) (aNil)))) (aNil)))) (aNil))))) (aNil))) (aCons (opL tupF (aCons (cst (.str "r")) (aNil))) (aCons (opL tupF (aNil)) (aCons (opL tupF (aCons (cst (.str "least")) (aCons (rd 1) (aCons (opL tupF (aCons (cst (.str "number")) (aCons (cst (.int 1)) (aNil)))) (aNil))))) (aNil)))))))) (sNil)) (sSeq (sIf (tst isBl (op2 eqT (rd 0) (cst (.int 5)))) (sSeq (sSet 3 (VS.cal0 (f__law_three A) (aCons (opL tupF (aCons (opL tupF (aCons (cst (.str "skip")) (aCons (cst (.str "a")) (aNil)))) (aNil))) (aCons (opL tupF (aCons (opL tupF (aCons (cst (.str "skip")) (aCons (cst (.str "b")) (aNil)))) (aNil))) (aCons (VS.cal0 (f__law_take_one A) (aCons (cst (.str "o")) (aCons (cst (.str "a")) (aNil)))) (aNil)))))) (sRet (opL tupF (aCons (opL tupF (aCons (opL tupF (aCons (cst (.str "while")) (aCons (VS.cal0 (f__law_both A) (aCons (cst (.str "ab")) (aNil))) (aCons (opL tupF (aCons (rd 3) (aNil))) (aNil))))) (aNil))) (aCons (opL tupF (aNil)) (aCons (opL tupF (aNil)) (aCons (cst .non) (aNil)))))))) (sNil)) (sSeq (sIf (tst isBl (op2 eqT (rd 0) (cst (.int 6)))) (sSeq (sSet 3 (VS.cal0 (f__law_three A) (aCons (VS.cal0 (f__law_take_one A) (aCons (cst (.str "o")) (aCons (cst (.str "a")) (aNil)))) (aCons (opL tupF (aCons (opL tupF (aCons (cst (.str "skip")) (aCons (cst (.str "b")) (aNil)))) (aNil))) (aCons (opL tupF (aCons (opL tupF (aCons (cst (.str "skip")) (aCons (cst (.str "a")) (aNil)))) (aNil))) (aNil)))))) (sRet (opL tupF (aCons (opL tupF (aCons (opL tupF (aCons (cst (.str "while")) (aCons (VS.cal0 (f__law_both A) (aCons (cst (.str "ab")) (aNil))) (aCons (opL tupF (aCons (rd 3) (aNil))) (aNil))))) (aCons (VS.cal0 (f__law_rest A) (aCons (cst (.str "o")) (aCons (cst (.str "a")) (aNil)))) (aNil)))) (aCons (opL tupF (aNil)) (aCons (opL tupF (aNil)) (aCons (cst .non) (aNil)))))))) (sNil)) (sSeq (sIf (tst isBl (op2 eqT (rd 0) (cst (.int 7)))) (sSeq (sSet 3 (opL tupF (aCons (cst (.str "if")) (aCons (opL tupF (aCons (cst (.str "up")) (aCons (cst (.str "f")) (aNil)))) (aCons (opL tupF (aCons (opL tupF (aCons (cst (.str "put")) (aCons (cst (.str "o")) (aCons (cst (.str "a")) (aNil))))) (aCons (opL tupF (aCons (cst (.str "flag")) (aCons (cst (.str "f")) (aCons (cst (.int 0)) (aNil))))) (aNil)))) (aCons (opL tupF (aCons (opL tupF (aCons (cst (.str "flag")) (aCons (cst (.str "f")) (aCons (cst (.int 1)) (aNil))))) (aNil))) (aNil))))))) (sRet (opL tupF (aCons (opL tupF (aCons (opL tupF (aCons (cst (.str "while")) (aCons (VS.cal0 (f__law_not A) (aCons (opL tupF (aCons (cst (.str "ends")) (aCons (cst (.str "a")) (aNil)))) (aNil))) (aCons (opL tupF (aCons (rd 3) (aCons (opL tupF (aCons (cst (.str "skip")) (aCons (cst (.str "a")) (aNil)))) (aNil)))) (aNil))))) (aNil))) (aCons (opL tupF (aNil)) (aCons (opL tupF (aCons (cst (.str "f")) (aNil))) (aCons (cst .non) (aNil)))))))) (sNil)) (sSeq (sSet 3 (opL tupF (aCons (cst (.str "if")) (aCons (opL tupF (aCons (cst (.str "below")) (aCons (cst (.str "b")) (aCons (cst (.str "a")) (aNil))))) (aCons (opL tupF (aCons (opL tupF (aCons (cst (.str "skip")) (aCons (cst (.str "b")) (aNil)))) (aNil))) (aCons (VS.cal0 (f__law_take_one A) (aCons (cst (.str "o")) (aCons (cst (.str "a")) (aNil)))) (aNil))))))) (sRet (opL tupF (aCons (opL tupF (aCons (opL tupF (aCons (cst (.str "while")) (aCons (VS.cal0 (f__law_both A) (aCons (cst (.str "ab")) (aNil))) (aCons (opL tupF (aCons (rd 3) (aNil))) (aNil))))) (aCons (VS.cal0 (f__law_rest A) (aCons (cst (.str "o")) (aCons (cst (.str "a")) (aNil)))) (aNil)))) (aCons (opL tupF (aNil)) (aCons (opL tupF (aNil)) (aCons (rd 1) (aNil)))))))))))))))))
theorem ok__law_family (Tx : Txt P K mg A) : DefOk P w K mg base 3 A.a__law_family A.fd__law_family ["number"] [.frz] .frz (f__law_family A) :=
  fnJ (lms := [.frz, .frz, .frz, .frz]) (msN := [.frz] ++ [.frz, .frz, .frz, .frz]) (msL := []) Tx._law_family.F sc__law_family rfl rfl .nil (fun cdv A0 outer s H E hr C => BJ.sq (SJ.asg (EF.tup (AJ.cons (EF.tup (AJ.cons (EF.str) (AJ.cons (EF.str) (AJ.nil)))) (AJ.cons (EF.tup (AJ.cons (EF.str) (AJ.cons (EF.str) (AJ.nil)))) (AJ.nil)))) (GJ.tup C.calm (GsJ.cons (GJ.name (i := 1) C.nd) (GsJ.cons (GJ.name (i := 2) C.nd) (GsJ.nl))))) (BJ.sq (SJ.if (TJ.cmp (op_eqD C.u64) bin_eq (EF.var (i := 0)) (EF.int)) (BJ.sq (SJ.set (i := 3) C.nd (EF.ej (EF.tup (AJ.cons (EF.str) (AJ.cons (EF.tup (AJ.cons (EF.str) (AJ.cons (EF.str) (AJ.cons (EF.str) (AJ.nil))))) (AJ.cons (EJ.ef (EJ.cD C Tx._law_take_one (ok__law_take_one Tx) hr (by decide) FxOk.nil (AJ.cons (EF.str) (AJ.cons (EF.str) (AJ.nil))))) (AJ.cons (EJ.ef (EJ.cD C Tx._law_take_one (ok__law_take_one Tx) hr (by decide) FxOk.nil (AJ.cons (EF.str) (AJ.cons (EF.str) (AJ.nil))))) (AJ.nil)))))))) (BJ.one (SJ.ret (EF.ej (EF.tup (AJ.cons (EF.tup (AJ.cons (EF.tup (AJ.cons (EF.str) (AJ.cons (EJ.ef (EJ.cD C Tx._law_both (ok__law_both Tx) hr (by decide) FxOk.nil (AJ.cons (EF.str) (AJ.nil)))) (AJ.cons (EF.tup (AJ.cons (EF.var (i := 3)) (AJ.nil))) (AJ.nil))))) (AJ.cons (EJ.ef (EJ.cD C Tx._law_rest (ok__law_rest Tx) hr (by decide) FxOk.nil (AJ.cons (EF.str) (AJ.cons (EF.str) (AJ.nil))))) (AJ.cons (EJ.ef (EJ.cD C Tx._law_rest (ok__law_rest Tx) hr (by decide) FxOk.nil (AJ.cons (EF.str) (AJ.cons (EF.str) (AJ.nil))))) (AJ.nil))))) (AJ.cons (EF.tup (AJ.nil)) (AJ.cons (EF.tup (AJ.nil)) (AJ.cons (EF.tup (AJ.cons (EF.str) (AJ.cons (EF.var (i := 1)) (AJ.cons (EF.var (i := 2)) (AJ.nil))))) (AJ.nil))))))) FxOk.nil))) (BJ.nl)) (BJ.sq (SJ.if (TJ.cmp (op_eqD C.u64) bin_eq (EF.var (i := 0)) (EF.int)) (BJ.sq (SJ.set (i := 3) C.nd (EF.ej (EJ.ef (EJ.cD C Tx._law_three (ok__law_three Tx) hr (by decide) FxOk.nil (AJ.cons (EJ.ef (EJ.cD C Tx._law_take_one (ok__law_take_one Tx) hr (by decide) FxOk.nil (AJ.cons (EF.str) (AJ.cons (EF.str) (AJ.nil))))) (AJ.cons (EJ.ef (EJ.cD C Tx._law_take_one (ok__law_take_one Tx) hr (by decide) FxOk.nil (AJ.cons (EF.str) (AJ.cons (EF.str) (AJ.nil))))) (AJ.cons (EF.tup (AJ.cons (EF.tup (AJ.cons (EF.str) (AJ.cons (EF.str) (AJ.cons (EF.str) (AJ.nil))))) (AJ.cons (EF.tup (AJ.cons (EF.str) (AJ.cons (EF.str) (AJ.nil)))) (AJ.cons (EF.tup (AJ.cons (EF.str) (AJ.cons (EF.str) (AJ.nil)))) (AJ.nil))))) (AJ.nil)))))))) (BJ.one (SJ.ret (EF.ej (EF.tup (AJ.cons (EF.tup (AJ.cons (EF.tup (AJ.cons (EF.str) (AJ.cons (EJ.ef (EJ.cD C Tx._law_both (ok__law_both Tx) hr (by decide) FxOk.nil (AJ.cons (EF.str) (AJ.nil)))) (AJ.cons (EF.tup (AJ.cons (EF.var (i := 3)) (AJ.nil))) (AJ.nil))))) (AJ.cons (EJ.ef (EJ.cD C Tx._law_rest (ok__law_rest Tx) hr (by decide) FxOk.nil (AJ.cons (EF.str) (AJ.cons (EF.str) (AJ.nil))))) (AJ.cons (EJ.ef (EJ.cD C Tx._law_rest (ok__law_rest Tx) hr (by decide) FxOk.nil (AJ.cons (EF.str) (AJ.cons (EF.str) (AJ.nil))))) (AJ.nil))))) (AJ.cons (EF.tup (AJ.nil)) (AJ.cons (EF.tup (AJ.nil)) (AJ.cons (EF.tup (AJ.cons (EF.str) (AJ.cons (EF.var (i := 1)) (AJ.cons (EF.var (i := 2)) (AJ.nil))))) (AJ.nil))))))) FxOk.nil))) (BJ.nl)) (BJ.sq (SJ.if (TJ.cmp (op_eqD C.u64) bin_eq (EF.var (i := 0)) (EF.int)) (BJ.sq (SJ.set (i := 3) C.nd (EF.ej (EJ.ef (EJ.cD C Tx._law_three (ok__law_three Tx) hr (by decide) FxOk.nil (AJ.cons (EF.tup (AJ.cons (EF.tup (AJ.cons (EF.str) (AJ.cons (EF.str) (AJ.nil)))) (AJ.nil))) (AJ.cons (EF.tup (AJ.cons (EF.tup (AJ.cons (EF.str) (AJ.cons (EF.str) (AJ.nil)))) (AJ.nil))) (AJ.cons (EF.tup (AJ.cons (EF.tup (AJ.cons (EF.str) (AJ.cons (EF.str) (AJ.cons (EF.str) (AJ.nil))))) (AJ.cons (EF.tup (AJ.cons (EF.str) (AJ.cons (EF.str) (AJ.nil)))) (AJ.cons (EF.tup (AJ.cons (EF.str) (AJ.cons (EF.str) (AJ.nil)))) (AJ.nil))))) (AJ.nil)))))))) (BJ.one (SJ.ret (EF.ej (EF.tup (AJ.cons (EF.tup (AJ.cons (EF.tup (AJ.cons (EF.str) (AJ.cons (EJ.ef (EJ.cD C Tx._law_both (ok__law_both Tx) hr (by decide) FxOk.nil (AJ.cons (EF.str) (AJ.nil)))) (AJ.cons (EF.tup (AJ.cons (EF.var (i := 3)) (AJ.nil))) (AJ.nil))))) (AJ.nil))) (AJ.cons (EF.tup (AJ.nil)) (AJ.cons (EF.tup (AJ.nil)) (AJ.cons (EF.tup (AJ.cons (EF.str) (AJ.cons (EF.var (i := 1)) (AJ.cons (EF.var (i := 2)) (AJ.nil))))) (AJ.nil))))))) FxOk.nil))) (BJ.nl)) (BJ.sq (SJ.if (TJ.cmp (op_eqD C.u64) bin_eq (EF.var (i := 0)) (EF.int)) (BJ.sq (SJ.set (i := 3) C.nd (EF.ej (EJ.ef (EJ.cD C Tx._law_three (ok__law_three Tx) hr (by decide) FxOk.nil (AJ.cons (EJ.ef (EJ.cD C Tx._law_take_one (ok__law_take_one Tx) hr (by decide) FxOk.nil (AJ.cons (EF.str) (AJ.cons (EF.str) (AJ.nil))))) (AJ.cons (EF.tup (AJ.cons (EF.tup (AJ.cons (EF.str) (AJ.cons (EF.str) (AJ.nil)))) (AJ.nil))) (AJ.cons (EF.tup (AJ.cons (EF.tup (AJ.cons (EF.str) (AJ.cons (EF.str) (AJ.nil)))) (AJ.cons (EF.tup (AJ.cons (EF.str) (AJ.cons (EF.str) (AJ.nil)))) (AJ.nil)))) (AJ.nil)))))))) (BJ.one (SJ.ret (EF.ej (EF.tup (AJ.cons (EF.tup (AJ.cons (EF.tup (AJ.cons (EF.str) (AJ.cons (EJ.ef (EJ.cD C Tx._law_both (ok__law_both Tx) hr (by decide) FxOk.nil (AJ.cons (EF.str) (AJ.nil)))) (AJ.cons (EF.tup (AJ.cons (EF.var (i := 3)) (AJ.nil))) (AJ.nil))))) (AJ.cons (EJ.ef (EJ.cD C Tx._law_rest (ok__law_rest Tx) hr (by decide) FxOk.nil (AJ.cons (EF.str) (AJ.cons (EF.str) (AJ.nil))))) (AJ.nil)))) (AJ.cons (EF.tup (AJ.nil)) (AJ.cons (EF.tup (AJ.nil)) (AJ.cons (EF.tup (AJ.cons (EF.str) (AJ.cons (EF.var (i := 1)) (AJ.cons (EF.var (i := 2)) (AJ.nil))))) (AJ.nil))))))) FxOk.nil))) (BJ.nl)) (BJ.sq (SJ.if (TJ.cmp (op_eqD C.u64) bin_eq (EF.var (i := 0)) (EF.int)) (BJ.sq (SJ.set (i := 4) C.nd (EF.ej (EF.tup (AJ.cons (EF.str) (AJ.cons (EF.tup (AJ.cons (EF.str) (AJ.cons (EF.tup (AJ.cons (EF.str) (AJ.cons (EF.str) (AJ.nil)))) (AJ.cons (EJ.ef (EJ.cD C Tx._law_not (ok__law_not Tx) hr (by decide) FxOk.nil (AJ.cons (EF.tup (AJ.cons (EF.str) (AJ.cons (EF.str) (AJ.cons (EF.str) (AJ.nil))))) (AJ.nil)))) (AJ.nil))))) (AJ.cons (EF.tup (AJ.cons (EF.tup (AJ.cons (EF.str) (AJ.cons (EF.str) (AJ.cons (EF.str) (AJ.nil))))) (AJ.cons (EF.tup (AJ.cons (EF.str) (AJ.cons (EF.str) (AJ.cons (EF.str) (AJ.nil))))) (AJ.nil)))) (AJ.cons (EF.tup (AJ.nil)) (AJ.nil)))))))) (BJ.one (SJ.ret (EF.ej (EF.tup (AJ.cons (EF.tup (AJ.cons (EF.tup (AJ.cons (EF.str) (AJ.cons (EJ.ef (EJ.cD C Tx._law_not (ok__law_not Tx) hr (by decide) FxOk.nil (AJ.cons (EF.tup (AJ.cons (EF.str) (AJ.cons (EF.str) (AJ.nil)))) (AJ.nil)))) (AJ.cons (EF.tup (AJ.cons (EF.var (i := 4)) (AJ.cons (EF.tup (AJ.cons (EF.str) (AJ.cons (EF.str) (AJ.nil)))) (AJ.nil)))) (AJ.nil))))) (AJ.nil))) (AJ.cons (EF.tup (AJ.cons (EF.str) (AJ.nil))) (AJ.cons (EF.tup (AJ.nil)) (AJ.cons (EF.tup (AJ.cons (EF.str) (AJ.cons (EF.var (i := 1)) (AJ.cons (EF.tup (AJ.cons (EF.str) (AJ.cons (EF.int) (AJ.nil)))) (AJ.nil))))) (AJ.nil))))))) FxOk.nil))) (BJ.nl)) (BJ.sq (SJ.if (TJ.cmp (op_eqD C.u64) bin_eq (EF.var (i := 0)) (EF.int)) (BJ.sq (SJ.set (i := 3) C.nd (EF.ej (EJ.ef (EJ.cD C Tx._law_three (ok__law_three Tx) hr (by decide) FxOk.nil (AJ.cons (EF.tup (AJ.cons (EF.tup (AJ.cons (EF.str) (AJ.cons (EF.str) (AJ.nil)))) (AJ.nil))) (AJ.cons (EF.tup (AJ.cons (EF.tup (AJ.cons (EF.str) (AJ.cons (EF.str) (AJ.nil)))) (AJ.nil))) (AJ.cons (EJ.ef (EJ.cD C Tx._law_take_one (ok__law_take_one Tx) hr (by decide) FxOk.nil (AJ.cons (EF.str) (AJ.cons (EF.str) (AJ.nil))))) (AJ.nil)))))))) (BJ.one (SJ.ret (EF.ej (EF.tup (AJ.cons (EF.tup (AJ.cons (EF.tup (AJ.cons (EF.str) (AJ.cons (EJ.ef (EJ.cD C Tx._law_both (ok__law_both Tx) hr (by decide) FxOk.nil (AJ.cons (EF.str) (AJ.nil)))) (AJ.cons (EF.tup (AJ.cons (EF.var (i := 3)) (AJ.nil))) (AJ.nil))))) (AJ.nil))) (AJ.cons (EF.tup (AJ.nil)) (AJ.cons (EF.tup (AJ.nil)) (AJ.cons (EF.non) (AJ.nil))))))) FxOk.nil))) (BJ.nl)) (BJ.sq (SJ.if (TJ.cmp (op_eqD C.u64) bin_eq (EF.var (i := 0)) (EF.int)) (BJ.sq (SJ.set (i := 3) C.nd (EF.ej (EJ.ef (EJ.cD C Tx._law_three (ok__law_three Tx) hr (by decide) FxOk.nil (AJ.cons (EJ.ef (EJ.cD C Tx._law_take_one (ok__law_take_one Tx) hr (by decide) FxOk.nil (AJ.cons (EF.str) (AJ.cons (EF.str) (AJ.nil))))) (AJ.cons (EF.tup (AJ.cons (EF.tup (AJ.cons (EF.str) (AJ.cons (EF.str) (AJ.nil)))) (AJ.nil))) (AJ.cons (EF.tup (AJ.cons (EF.tup (AJ.cons (EF.str) (AJ.cons (EF.str) (AJ.nil)))) (AJ.nil))) (AJ.nil)))))))) (BJ.one (SJ.ret (EF.ej (EF.tup (AJ.cons (EF.tup (AJ.cons (EF.tup (AJ.cons (EF.str) (AJ.cons (EJ.ef (EJ.cD C Tx._law_both (ok__law_both Tx) hr (by decide) FxOk.nil (AJ.cons (EF.str) (AJ.nil)))) (AJ.cons (EF.tup (AJ.cons (EF.var (i := 3)) (AJ.nil))) (AJ.nil))))) (AJ.cons (EJ.ef (EJ.cD C Tx._law_rest (ok__law_rest Tx) hr (by decide) FxOk.nil (AJ.cons (EF.str) (AJ.cons (EF.str) (AJ.nil))))) (AJ.nil)))) (AJ.cons (EF.tup (AJ.nil)) (AJ.cons (EF.tup (AJ.nil)) (AJ.cons (EF.non) (AJ.nil))))))) FxOk.nil))) (BJ.nl)) (BJ.sq (SJ.if (TJ.cmp (op_eqD C.u64) bin_eq (EF.var (i := 0)) (EF.int)) (BJ.sq (SJ.set (i := 3) C.nd (EF.ej (EF.tup (AJ.cons (EF.str) (AJ.cons (EF.tup (AJ.cons (EF.str) (AJ.cons (EF.str) (AJ.nil)))) (AJ.cons (EF.tup (AJ.cons (EF.tup (AJ.cons (EF.str) (AJ.cons (EF.str) (AJ.cons (EF.str) (AJ.nil))))) (AJ.cons (EF.tup (AJ.cons (EF.str) (AJ.cons (EF.str) (AJ.cons (EF.int) (AJ.nil))))) (AJ.nil)))) (AJ.cons (EF.tup (AJ.cons (EF.tup (AJ.cons (EF.str) (AJ.cons (EF.str) (AJ.cons (EF.int) (AJ.nil))))) (AJ.nil))) (AJ.nil)))))))) (BJ.one (SJ.ret (EF.ej (EF.tup (AJ.cons (EF.tup (AJ.cons (EF.tup (AJ.cons (EF.str) (AJ.cons (EJ.ef (EJ.cD C Tx._law_not (ok__law_not Tx) hr (by decide) FxOk.nil (AJ.cons (EF.tup (AJ.cons (EF.str) (AJ.cons (EF.str) (AJ.nil)))) (AJ.nil)))) (AJ.cons (EF.tup (AJ.cons (EF.var (i := 3)) (AJ.cons (EF.tup (AJ.cons (EF.str) (AJ.cons (EF.str) (AJ.nil)))) (AJ.nil)))) (AJ.nil))))) (AJ.nil))) (AJ.cons (EF.tup (AJ.nil)) (AJ.cons (EF.tup (AJ.cons (EF.str) (AJ.nil))) (AJ.cons (EF.non) (AJ.nil))))))) FxOk.nil))) (BJ.nl)) (BJ.sq (SJ.set (i := 3) C.nd (EF.ej (EF.tup (AJ.cons (EF.str) (AJ.cons (EF.tup (AJ.cons (EF.str) (AJ.cons (EF.str) (AJ.cons (EF.str) (AJ.nil))))) (AJ.cons (EF.tup (AJ.cons (EF.tup (AJ.cons (EF.str) (AJ.cons (EF.str) (AJ.nil)))) (AJ.nil))) (AJ.cons (EJ.ef (EJ.cD C Tx._law_take_one (ok__law_take_one Tx) hr (by decide) FxOk.nil (AJ.cons (EF.str) (AJ.cons (EF.str) (AJ.nil))))) (AJ.nil)))))))) (BJ.one (SJ.ret (EF.ej (EF.tup (AJ.cons (EF.tup (AJ.cons (EF.tup (AJ.cons (EF.str) (AJ.cons (EJ.ef (EJ.cD C Tx._law_both (ok__law_both Tx) hr (by decide) FxOk.nil (AJ.cons (EF.str) (AJ.nil)))) (AJ.cons (EF.tup (AJ.cons (EF.var (i := 3)) (AJ.nil))) (AJ.nil))))) (AJ.cons (EJ.ef (EJ.cD C Tx._law_rest (ok__law_rest Tx) hr (by decide) FxOk.nil (AJ.cons (EF.str) (AJ.cons (EF.str) (AJ.nil))))) (AJ.nil)))) (AJ.cons (EF.tup (AJ.nil)) (AJ.cons (EF.tup (AJ.nil)) (AJ.cons (EF.var (i := 1)) (AJ.nil))))))) FxOk.nil))))))))))))
end
end K64
-- K64c
set_option Elab.async false
set_option linter.all false
set_option maxRecDepth 100000
set_option maxHeartbeats 0
namespace K64
open PySem L2 VS
section
variable {P : Program} {w : World} {K : PySem.W.Frag} {mg : Str → Option Value} {base : Heap} {A : Ad}
theorem sc__law_drawn_term : FnScope ["bag", "deep", "word"] ["bag", "deep"] (defScope s__law_drawn_term) := ⟨rfl, rfl, rfl, by decide +kernel, rfl, by decide +kernel, by decide +kernel⟩
def f__law_drawn_term (A : Ad) : Nat → List T → Out T
  | 0 => fun _ => .stk
  | n + 1 => let r := f__law_drawn_term A n; defF [.own .frz, .frz] .frz 1 (sSeq (sSet 2 (VS.cal1 (f__law_some A) 0 (aCons (VS.ife (tst isBl (op2 gtT (rd 1) (cst (.int 0)))) (opL lstF (aCons (cst (.str "of")) (aCons (cst (.str "of")) (aCons (cst (.str "of")) (aCons (cst (.str "number")) (aCons (cst (.str "plus")) (aCons (cst (.str "less")) (aCons (cst (.str "least")) (aCons (cst (.str "greatest")) (aCons (cst (.str "often")) (aNil))))))))))) (opL lstF (aCons (cst (.str "of")) (aCons (cst (.str "of")) (aCons (cst (.str "number")) (aNil)))))) (aNil)))) (sSeq (sIf (tst isBl (op2 eqT (rd 2) (cst (.str "of")))) (sRet (opL tupF (aCons (cst (.str "of")) (aCons (VS.cal1 (f__law_some A) 0 (aCons (opL lstF (aCons (cst (.str "a")) (aCons (cst (.str "b")) (aNil)))) (aNil))) (aNil))))) (sNil)) (sSeq (sIf (tst isBl (op2 eqT (rd 2) (cst (.str "number")))) (sRet (opL tupF (aCons (cst (.str "number")) (aCons (VS.cal1 (f__law_take A) 0 (aCons (cst (.int 3)) (aNil))) (aNil))))) (sNil)) (sSeq (sIf (tst isBl (op2 eqT (rd 2) (cst (.str "often")))) (sRet (opL tupF (aCons (cst (.str "often")) (aCons (VS.cal1 (f__law_take A) 0 (aCons (cst (.int 3)) (aNil))) (aCons (VS.cal1 r 0 (aCons (op2 subT (rd 1) (cst (.int 1))) (aNil))) (aNil)))))) (sNil)) (sRet (opL tupF (aCons (rd 2) (aCons (VS.cal1 r 0 (aCons (op2 subT (rd 1) (cst (.int 1))) (aNil))) (aCons (VS.cal1 r 0 (aCons (op2 subT (rd 1) (cst (.int 1))) (aNil))) (aNil))))))))))
theorem ok__law_drawn_term (Tx : Txt P K mg A) : ∀ n, DefOk P w K mg base (2 + n) A.a__law_drawn_term A.fd__law_drawn_term ["bag", "deep"] [.own .frz, .frz] .frz (f__law_drawn_term A n)
  | 0 => DefOk.none
  | n + 1 => by
    have ih := ok__law_drawn_term Tx n
    refine fnJ (k := 2 + n) (lms := [.frz]) (msN := [.own .frz, .frz] ++ [.frz]) (msL := []) Tx._law_drawn_term.F sc__law_drawn_term rfl rfl (.cons rfl .nil) (fun cdv A0 outer s H E hr C => BJ.sq (SJ.set (i := 2) C.nd (EF.ej (EJ.ef (EJ.cD1 (j := 0) C Tx._law_some (ok__law_some Tx) hr (by omega) (FxOk.cons rfl FxOk.nil) (AJ.cons (EF.ife (TJ.cmp op_gt bin_gt (EF.var (i := 1)) (EF.int)) (EJ.freeze (EJ.lst (AJ.cons (EF.str) (AJ.cons (EF.str) (AJ.cons (EF.str) (AJ.cons (EF.str) (AJ.cons (EF.str) (AJ.cons (EF.str) (AJ.cons (EF.str) (AJ.cons (EF.str) (AJ.cons (EF.str) (AJ.nil)))))))))))) (EJ.freeze (EJ.lst (AJ.cons (EF.str) (AJ.cons (EF.str) (AJ.cons (EF.str) (AJ.nil))))))) (AJ.nil)))))) (BJ.sq (SJ.if (TJ.cmp (op_eqD C.u64) bin_eq (EF.var (i := 2)) (EF.str)) (BJ.one (SJ.ret (EF.ej (EF.tup (AJ.cons (EF.str) (AJ.cons (EJ.ef (EJ.cD1 (j := 0) C Tx._law_some (ok__law_some Tx) hr (by omega) (FxOk.cons rfl FxOk.nil) (AJ.cons (EJ.freeze (EJ.lst (AJ.cons (EF.str) (AJ.cons (EF.str) (AJ.nil))))) (AJ.nil)))) (AJ.nil))))) (FxOk.cons rfl FxOk.nil))) (BJ.nl)) (BJ.sq (SJ.if (TJ.cmp (op_eqD C.u64) bin_eq (EF.var (i := 2)) (EF.str)) (BJ.one (SJ.ret (EF.ej (EF.tup (AJ.cons (EF.str) (AJ.cons (EJ.ef (EJ.cD1 (j := 0) C Tx._law_take (ok__law_take Tx) hr (by omega) (FxOk.cons rfl FxOk.nil) (AJ.cons (EF.int) (AJ.nil)))) (AJ.nil))))) (FxOk.cons rfl FxOk.nil))) (BJ.nl)) (BJ.sq (SJ.if (TJ.cmp (op_eqD C.u64) bin_eq (EF.var (i := 2)) (EF.str)) (BJ.one (SJ.ret (EF.ej (EF.tup (AJ.cons (EF.str) (AJ.cons (EJ.ef (EJ.cD1 (j := 0) C Tx._law_take (ok__law_take Tx) hr (by omega) (FxOk.cons rfl FxOk.nil) (AJ.cons (EF.int) (AJ.nil)))) (AJ.cons (EJ.ef (EJ.cD1 (j := 0) C Tx._law_drawn_term ih hr (by omega) (FxOk.cons rfl FxOk.nil) (AJ.cons (EJ.ef (EJ.opB op_sub bin_sub (EF.var (i := 1)) (EF.int))) (AJ.nil)))) (AJ.nil)))))) (FxOk.cons rfl FxOk.nil))) (BJ.nl)) (BJ.one (SJ.ret (EF.ej (EF.tup (AJ.cons (EF.var (i := 2)) (AJ.cons (EJ.ef (EJ.cD1 (j := 0) C Tx._law_drawn_term ih hr (by omega) (FxOk.cons rfl FxOk.nil) (AJ.cons (EJ.ef (EJ.opB op_sub bin_sub (EF.var (i := 1)) (EF.int))) (AJ.nil)))) (AJ.cons (EJ.ef (EJ.cD1 (j := 0) C Tx._law_drawn_term ih hr (by omega) (FxOk.cons rfl FxOk.nil) (AJ.cons (EJ.ef (EJ.opB op_sub bin_sub (EF.var (i := 1)) (EF.int))) (AJ.nil)))) (AJ.nil)))))) (FxOk.cons rfl FxOk.nil)))))))
theorem sc__law_statements : FnScope ["body", "path", "found", "at", "one", "part"] ["body", "path"] (defScope s__law_statements) := ⟨rfl, rfl, rfl, by decide +kernel, rfl, by decide +kernel, by decide +kernel⟩
def f__law_statements (A : Ad) : Nat → List T → Out T
  | 0 => fun _ => .stk
  | n + 1 => let r := f__law_statements A n; defF [.frz, .frz] .frz 4 (sSeq (sSet 2 (opL lstF (aNil))) (sSeq (sFor (iOpt enO (aCons (rd 0) (aNil))) (gTu (gCo (gNm 3) (gCo (gNm 4) (gNl))) 2) (sSeq (sEx (VS.mtO 2 apM (aCons (opL tupF (aCons (op2 addT (rd 1) (opL tupF (aCons (rd 3) (aNil)))) (aCons (rd 4) (aNil)))) (aNil)))) (sFor (iSeq (VS.ife (tst isBl (op2 eqT (op2 ixT (rd 4) (cst (.int 0))) (cst (.str "if")))) (opL lstF (aCons (cst (.int 2)) (aCons (cst (.int 3)) (aNil)))) (VS.ife (tst isBl (op2 eqT (op2 ixT (rd 4) (cst (.int 0))) (cst (.str "while")))) (opL lstF (aCons (cst (.int 2)) (aNil))) (opL lstF (aNil))))) (gNm 5) (sEx (VS.mtO 2 exM (aCons (VS.cal0 r (aCons (op2 ixT (rd 4) (rd 5)) (aCons (op2 addT (rd 1) (opL tupF (aCons (rd 3) (aCons (rd 5) (aNil))))) (aNil)))) (aNil))))))) (sRet (rd 2))))
theorem ok__law_statements (Tx : Txt P K mg A) : ∀ n, DefOk P w K mg base (0 + n) A.a__law_statements A.fd__law_statements ["body", "path"] [.frz, .frz] .frz (f__law_statements A n)
  | 0 => DefOk.none
  | n + 1 => by
    have ih := ok__law_statements Tx n
    refine fnJ (k := 0 + n) (lms := [.own .frz, .frz, .frz, .frz]) (msN := [.frz, .frz] ++ [.own .frz, .frz, .frz, .frz]) (msL := []) Tx._law_statements.F sc__law_statements rfl rfl .nil (fun cdv A0 outer s H E hr C => BJ.sq (SJ.set (i := 2) C.nd (EJ.lst (AJ.nil))) (BJ.sq (SJ.for C (IJ.enum (by rfl) Tx.z_enumerate (AJ.cons (EF.var (i := 0)) (AJ.nil))) (GJ.tup C.calm (GsJ.cons (GJ.name (i := 3) C.nd) (GsJ.cons (GJ.name (i := 4) C.nd) (GsJ.nl)))) (BJ.sq (SJ.expr (EF.ej (EF.mtO (j := 2) PySem.F.slot_list_append PySem.F.type_list_append mt_append mo_append (AJ.cons (EF.tup (AJ.cons (EJ.ef (EJ.opB op_addA bin_add (EF.var (i := 1)) (EF.tup (AJ.cons (EF.var (i := 3)) (AJ.nil))))) (AJ.cons (EF.var (i := 4)) (AJ.nil)))) (AJ.nil))))) (BJ.one (SJ.for C (IJ.seq (EF.ife (TJ.cmp (op_eqD C.u64) bin_eq (EF.ix (EF.var (i := 4)) (EF.int)) (EF.str)) (EJ.freeze (EJ.lst (AJ.cons (EF.int) (AJ.cons (EF.int) (AJ.nil))))) (EF.ife (TJ.cmp (op_eqD C.u64) bin_eq (EF.ix (EF.var (i := 4)) (EF.int)) (EF.str)) (EJ.freeze (EJ.lst (AJ.cons (EF.int) (AJ.nil)))) (EJ.freeze (EJ.lst (AJ.nil)))))) (GJ.name (i := 5) C.nd) (BJ.one (SJ.expr (EF.ej (EF.mtO (j := 2) PySem.F.slot_list_extend PySem.F.type_list_extend mt_extend mo_extend (AJ.cons (EJ.ef (EJ.cD C Tx._law_statements ih hr (by omega) FxOk.nil (AJ.cons (EF.ix (EF.var (i := 4)) (EF.var (i := 5))) (AJ.cons (EJ.ef (EJ.opB op_addA bin_add (EF.var (i := 1)) (EF.tup (AJ.cons (EF.var (i := 3)) (AJ.cons (EF.var (i := 5)) (AJ.nil)))))) (AJ.nil))))) (AJ.nil)))))))))) (BJ.fz 2 (BJ.one (SJ.ret (EF.ej (EF.var (i := 2))) FxOk.nil)))))
theorem sc__law_replaced : FnScope ["body", "path", "some", "at", "one", "inner"] ["body", "path", "some"] (defScope s__law_replaced) := ⟨rfl, rfl, rfl, by decide +kernel, rfl, by decide +kernel, by decide +kernel⟩
def f__law_replaced (A : Ad) : Nat → List T → Out T
  | 0 => fun _ => .stk
  | n + 1 => let r := f__law_replaced A n; defF [.frz, .frz, .frz] .frz 3 (sSeq (sSet 3 (op2 ixT (rd 1) (cst (.int 0)))) (sSeq (sIf (tst isBl (op2 eqT (opL lenO (aCons (rd 1) (aNil))) (cst (.int 1)))) (sRet (op2 addT (op2 addT (slE (rd 0) oNone (oSome (rd 3))) (rd 2)) (slE (rd 0) (oSome (op2 addT (rd 3) (cst (.int 1)))) oNone))) (sNil)) (sSeq (sSet 4 (op2 ixT (rd 0) (rd 3))) (sSeq (sSet 5 (VS.cal0 r (aCons (op2 ixT (rd 4) (op2 ixT (rd 1) (cst (.int 1)))) (aCons (slE (rd 1) (oSome (cst (.int 2))) oNone) (aCons (rd 2) (aNil)))))) (sRet (op2 addT (op2 addT (slE (rd 0) oNone (oSome (rd 3))) (opL tupF (aCons (op2 addT (op2 addT (slE (rd 4) oNone (oSome (op2 ixT (rd 1) (cst (.int 1))))) (opL tupF (aCons (rd 5) (aNil)))) (slE (rd 4) (oSome (op2 addT (op2 ixT (rd 1) (cst (.int 1))) (cst (.int 1)))) oNone)) (aNil)))) (slE (rd 0) (oSome (op2 addT (rd 3) (cst (.int 1)))) oNone)))))))
theorem ok__law_replaced (Tx : Txt P K mg A) : ∀ n, DefOk P w K mg base (0 + n) A.a__law_replaced A.fd__law_replaced ["body", "path", "some"] [.frz, .frz, .frz] .frz (f__law_replaced A n)
  | 0 => DefOk.none
  | n + 1 => by
    have ih := ok__law_replaced Tx n
    refine fnJ (k := 0 + n) (lms := [.frz, .frz, .frz]) (msN := [.frz, .frz, .frz] ++ [.frz, .frz, .frz]) (msL := []) Tx._law_replaced.F sc__law_replaced rfl rfl .nil (fun cdv A0 outer s H E hr C => BJ.sq (SJ.set (i := 3) C.nd (EF.ej (EF.ix (EF.var (i := 1)) (EF.int)))) (BJ.sq (SJ.if (TJ.cmp (op_eqD C.u64) bin_eq (EJ.ef (EJ.callB call_len cal_len (by rfl) Tx.z_len PySem.boot_len (AJ.cons (EF.var (i := 1)) (AJ.nil)))) (EF.int)) (BJ.one (SJ.ret (EF.ej (EJ.ef (EJ.opB op_addA bin_add (EJ.ef (EJ.opB op_addA bin_add (EF.sl (EF.var (i := 0)) (OJ.none) (OJ.some (EF.var (i := 3)))) (EF.var (i := 2)))) (EF.sl (EF.var (i := 0)) (OJ.some (EJ.ef (EJ.opB op_addA bin_add (EF.var (i := 3)) (EF.int)))) (OJ.none))))) FxOk.nil)) (BJ.nl)) (BJ.sq (SJ.set (i := 4) C.nd (EF.ej (EF.ix (EF.var (i := 0)) (EF.var (i := 3))))) (BJ.sq (SJ.set (i := 5) C.nd (EF.ej (EJ.ef (EJ.cD C Tx._law_replaced ih hr (by omega) FxOk.nil (AJ.cons (EF.ix (EF.var (i := 4)) (EF.ix (EF.var (i := 1)) (EF.int))) (AJ.cons (EF.sl (EF.var (i := 1)) (OJ.some (EF.int)) (OJ.none)) (AJ.cons (EF.var (i := 2)) (AJ.nil)))))))) (BJ.one (SJ.ret (EF.ej (EJ.ef (EJ.opB op_addA bin_add (EJ.ef (EJ.opB op_addA bin_add (EF.sl (EF.var (i := 0)) (OJ.none) (OJ.some (EF.var (i := 3)))) (EF.tup (AJ.cons (EJ.ef (EJ.opB op_addA bin_add (EJ.ef (EJ.opB op_addA bin_add (EF.sl (EF.var (i := 4)) (OJ.none) (OJ.some (EF.ix (EF.var (i := 1)) (EF.int)))) (EF.tup (AJ.cons (EF.var (i := 5)) (AJ.nil))))) (EF.sl (EF.var (i := 4)) (OJ.some (EJ.ef (EJ.opB op_addA bin_add (EF.ix (EF.var (i := 1)) (EF.int)) (EF.int)))) (OJ.none)))) (AJ.nil))))) (EF.sl (EF.var (i := 0)) (OJ.some (EJ.ef (EJ.opB op_addA bin_add (EF.var (i := 3)) (EF.int)))) (OJ.none))))) FxOk.nil))))))
theorem sc__law_turned_test : FnScope ["bag", "test", "at"] ["bag", "test"] (defScope s__law_turned_test) := ⟨rfl, rfl, rfl, by decide +kernel, rfl, by decide +kernel, by decide +kernel⟩
def f__law_turned_test (A : Ad) : Nat → List T → Out T
  | 0 => fun _ => .stk
  | n + 1 => let r := f__law_turned_test A n; defF [.own .frz, .frz] .frz 1 (sSeq (sIf (andT (tst isBl (op2 inT (op2 ixT (rd 1) (cst (.int 0))) (opL tupF (aCons (cst (.str "and")) (aCons (cst (.str "or")) (aCons (cst (.str "not")) (aNil))))))) (tst isBl (op2 gtT (VS.cal1 (f__law_take A) 0 (aCons (cst (.int 3)) (aNil))) (cst (.int 0))))) (sSeq (sSet 2 (op2 addT (cst (.int 1)) (VS.cal1 (f__law_take A) 0 (aCons (op2 subT (opL lenO (aCons (rd 1) (aNil))) (cst (.int 1))) (aNil))))) (sRet (op2 addT (op2 addT (slE (rd 1) oNone (oSome (rd 2))) (opL tupF (aCons (VS.cal1 r 0 (aCons (op2 ixT (rd 1) (rd 2)) (aNil))) (aNil)))) (slE (rd 1) (oSome (op2 addT (rd 2) (cst (.int 1)))) oNone)))) (sNil)) (sSeq (sIf (tst isBl (op2 inT (op2 ixT (rd 1) (cst (.int 0))) (opL tupF (aCons (cst (.str "and")) (aCons (cst (.str "or")) (aNil)))))) (sRet (VS.cal1 (f__law_some A) 0 (aCons (opL lstF (aCons (op2 addT (opL tupF (aCons (VS.ife (tst isBl (op2 eqT (op2 ixT (rd 1) (cst (.int 0))) (cst (.str "and")))) (cst (.str "or")) (cst (.str "and"))) (aNil))) (slE (rd 1) (oSome (cst (.int 1))) oNone)) (aCons (op2 ixT (rd 1) (cst (.int 1))) (aCons (opL tupF (aCons (op2 ixT (rd 1) (cst (.int 0))) (aCons (op2 ixT (rd 1) (cst (.int 2))) (aCons (op2 ixT (rd 1) (cst (.int 1))) (aNil))))) (aNil))))) (aNil)))) (sNil)) (sSeq (sIf (tst isBl (op2 inT (op2 ixT (rd 1) (cst (.int 0))) (opL tupF (aCons (cst (.str "below")) (aCons (cst (.str "same")) (aNil)))))) (sRet (VS.cal1 (f__law_some A) 0 (aCons (opL lstF (aCons (opL tupF (aCons (op2 ixT (rd 1) (cst (.int 0))) (aCons (op2 ixT (rd 1) (cst (.int 2))) (aCons (op2 ixT (rd 1) (cst (.int 1))) (aNil))))) (aCons (op2 addT (opL tupF (aCons (VS.ife (tst isBl (op2 eqT (op2 ixT (rd 1) (cst (.int 0))) (cst (.str "below")))) (cst (.str "same")) (cst (.str "below"))) (aNil))) (slE (rd 1) (oSome (cst (.int 1))) oNone)) (aCons (opL tupF (aCons (cst (.str "not")) (aCons (opL tupF (aCons (op2 ixT (rd 1) (cst (.int 0))) (aCons (op2 ixT (rd 1) (cst (.int 2))) (aCons (op2 ixT (rd 1) (cst (.int 1))) (aNil))))) (aNil)))) (aNil))))) (aNil)))) (sNil)) (sRet (opL tupF (aCons (cst (.str "not")) (aCons (rd 1) (aNil))))))))
theorem ok__law_turned_test (Tx : Txt P K mg A) : ∀ n, DefOk P w K mg base (2 + n) A.a__law_turned_test A.fd__law_turned_test ["bag", "test"] [.own .frz, .frz] .frz (f__law_turned_test A n)
  | 0 => DefOk.none
  | n + 1 => by
    have ih := ok__law_turned_test Tx n
    refine fnJ (k := 2 + n) (lms := [.frz]) (msN := [.own .frz, .frz] ++ [.frz]) (msL := []) Tx._law_turned_test.F sc__law_turned_test rfl rfl (.cons rfl .nil) (fun cdv A0 outer s H E hr C => BJ.sq (SJ.if (TW.tj (TW.and (TJ.cmp (op_inA C.u65) bin_in (EF.ix (EF.var (i := 1)) (EF.int)) (EF.tup (AJ.cons (EF.str) (AJ.cons (EF.str) (AJ.cons (EF.str) (AJ.nil)))))) (TW.and1 (TJ.cmp op_gt bin_gt (EJ.ef (EJ.cD1 (j := 0) C Tx._law_take (ok__law_take Tx) hr (by omega) (FxOk.cons rfl FxOk.nil) (AJ.cons (EF.int) (AJ.nil)))) (EF.int))))) (BJ.sq (SJ.set (i := 2) C.nd (EF.ej (EJ.ef (EJ.opB op_addA bin_add (EF.int) (EJ.ef (EJ.cD1 (j := 0) C Tx._law_take (ok__law_take Tx) hr (by omega) (FxOk.cons rfl FxOk.nil) (AJ.cons (EJ.ef (EJ.opB op_sub bin_sub (EJ.ef (EJ.callB call_len cal_len (by rfl) Tx.z_len PySem.boot_len (AJ.cons (EF.var (i := 1)) (AJ.nil)))) (EF.int))) (AJ.nil)))))))) (BJ.one (SJ.ret (EF.ej (EJ.ef (EJ.opB op_addA bin_add (EJ.ef (EJ.opB op_addA bin_add (EF.sl (EF.var (i := 1)) (OJ.none) (OJ.some (EF.var (i := 2)))) (EF.tup (AJ.cons (EJ.ef (EJ.cD1 (j := 0) C Tx._law_turned_test ih hr (by omega) (FxOk.cons rfl FxOk.nil) (AJ.cons (EF.ix (EF.var (i := 1)) (EF.var (i := 2))) (AJ.nil)))) (AJ.nil))))) (EF.sl (EF.var (i := 1)) (OJ.some (EJ.ef (EJ.opB op_addA bin_add (EF.var (i := 2)) (EF.int)))) (OJ.none))))) (FxOk.cons rfl FxOk.nil)))) (BJ.nl)) (BJ.sq (SJ.if (TJ.cmp (op_inA C.u65) bin_in (EF.ix (EF.var (i := 1)) (EF.int)) (EF.tup (AJ.cons (EF.str) (AJ.cons (EF.str) (AJ.nil))))) (BJ.one (SJ.ret (EF.ej (EJ.ef (EJ.cD1 (j := 0) C Tx._law_some (ok__law_some Tx) hr (by omega) (FxOk.cons rfl FxOk.nil) (AJ.cons (EJ.freeze (EJ.lst (AJ.cons (EJ.ef (EJ.opB op_addA bin_add (EF.tup (AJ.cons (EF.ife (TJ.cmp (op_eqD C.u64) bin_eq (EF.ix (EF.var (i := 1)) (EF.int)) (EF.str)) (EF.str) (EF.str)) (AJ.nil))) (EF.sl (EF.var (i := 1)) (OJ.some (EF.int)) (OJ.none)))) (AJ.cons (EF.ix (EF.var (i := 1)) (EF.int)) (AJ.cons (EF.tup (AJ.cons (EF.ix (EF.var (i := 1)) (EF.int)) (AJ.cons (EF.ix (EF.var (i := 1)) (EF.int)) (AJ.cons (EF.ix (EF.var (i := 1)) (EF.int)) (AJ.nil))))) (AJ.nil)))))) (AJ.nil))))) (FxOk.cons rfl FxOk.nil))) (BJ.nl)) (BJ.sq (SJ.if (TJ.cmp (op_inA C.u65) bin_in (EF.ix (EF.var (i := 1)) (EF.int)) (EF.tup (AJ.cons (EF.str) (AJ.cons (EF.str) (AJ.nil))))) (BJ.one (SJ.ret (EF.ej (EJ.ef (EJ.cD1 (j := 0) C Tx._law_some (ok__law_some Tx) hr (by omega) (FxOk.cons rfl FxOk.nil) (AJ.cons (EJ.freeze (EJ.lst (AJ.cons (EF.tup (AJ.cons (EF.ix (EF.var (i := 1)) (EF.int)) (AJ.cons (EF.ix (EF.var (i := 1)) (EF.int)) (AJ.cons (EF.ix (EF.var (i := 1)) (EF.int)) (AJ.nil))))) (AJ.cons (EJ.ef (EJ.opB op_addA bin_add (EF.tup (AJ.cons (EF.ife (TJ.cmp (op_eqD C.u64) bin_eq (EF.ix (EF.var (i := 1)) (EF.int)) (EF.str)) (EF.str) (EF.str)) (AJ.nil))) (EF.sl (EF.var (i := 1)) (OJ.some (EF.int)) (OJ.none)))) (AJ.cons (EF.tup (AJ.cons (EF.str) (AJ.cons (EF.tup (AJ.cons (EF.ix (EF.var (i := 1)) (EF.int)) (AJ.cons (EF.ix (EF.var (i := 1)) (EF.int)) (AJ.cons (EF.ix (EF.var (i := 1)) (EF.int)) (AJ.nil))))) (AJ.nil)))) (AJ.nil)))))) (AJ.nil))))) (FxOk.cons rfl FxOk.nil))) (BJ.nl)) (BJ.one (SJ.ret (EF.ej (EF.tup (AJ.cons (EF.str) (AJ.cons (EF.var (i := 1)) (AJ.nil))))) (FxOk.cons rfl FxOk.nil))))))
theorem sc__law_bent_statement : FnScope ["bag", "one", "way"] ["bag", "one"] (defScope s__law_bent_statement) := ⟨rfl, rfl, rfl, by decide +kernel, rfl, by decide +kernel, by decide +kernel⟩
def f__law_bent_statement (A : Ad) : List T → Out T := defF [.own .frz, .frz] .frz 1 (sSeq (sSet 2 (VS.cal1 (f__law_take A) 0 (aCons (cst (.int 5)) (aNil)))) (sSeq (sIf (andT (tst isBl (op2 inT (op2 ixT (rd 1) (cst (.int 0))) (opL tupF (aCons (cst (.str "if")) (aCons (cst (.str "while")) (aNil)))))) (tst isBl (op2 gtT (rd 2) (cst (.int 1))))) (sRet (opL tupF (aCons (op2 addT (opL tupF (aCons (op2 ixT (rd 1) (cst (.int 0))) (aCons (VS.cal1 (f__law_turned_test A 12) 0 (aCons (op2 ixT (rd 1) (cst (.int 1))) (aNil))) (aNil)))) (slE (rd 1) (oSome (cst (.int 2))) oNone)) (aNil)))) (sNil)) (sSeq (sIf (tst isBl (op2 eqT (rd 2) (cst (.int 0)))) (sRet (opL tupF (aNil))) (sNil)) (sSeq (sIf (orT (tst isBl (op2 eqT (rd 2) (cst (.int 1)))) (tst isBl (op2 inT (op2 ixT (rd 1) (cst (.int 0))) (opL tupF (aCons (cst (.str "drop")) (aCons (cst (.str "keep")) (aNil))))))) (sRet (opL tupF (aCons (rd 1) (aCons (rd 1) (aNil))))) (sNil)) (sSeq (sIf (tst isBl (op2 inT (op2 ixT (rd 1) (cst (.int 0))) (opL tupF (aCons (cst (.str "skip")) (aCons (cst (.str "put")) (aNil)))))) (sRet (opL tupF (aCons (op2 addT (slE (rd 1) oNone (oSome (op1 negT (cst (.int 1))))) (opL tupF (aCons (VS.ife (tst isBl (op2 eqT (op2 ixT (rd 1) (op1 negT (cst (.int 1)))) (cst (.str "a")))) (cst (.str "b")) (cst (.str "a"))) (aNil)))) (aNil)))) (sNil)) (sRet (VS.ife (tst isBl (op2 eqT (op2 ixT (rd 1) (cst (.int 0))) (cst (.str "flag")))) (opL tupF (aCons (op2 addT (slE (rd 1) oNone (oSome (cst (.int 2)))) (opL tupF (aCons (op2 subT (cst (.int 1)) (op2 ixT (rd 1) (cst (.int 2)))) (aNil)))) (aNil))) (opL tupF (aCons (rd 1) (aNil))))))))))
theorem ok__law_bent_statement (Tx : Txt P K mg A) : DefOk P w K mg base 15 A.a__law_bent_statement A.fd__law_bent_statement ["bag", "one"] [.own .frz, .frz] .frz (f__law_bent_statement A) :=
  fnJ (lms := [.frz]) (msN := [.own .frz, .frz] ++ [.frz]) (msL := []) Tx._law_bent_statement.F sc__law_bent_statement rfl rfl (.cons rfl .nil) (fun cdv A0 outer s H E hr C => BJ.sq (SJ.set (i := 2) C.nd (EF.ej (EJ.ef (EJ.cD1 (j := 0) C Tx._law_take (ok__law_take Tx) hr (by decide) (FxOk.cons rfl FxOk.nil) (AJ.cons (EF.int) (AJ.nil)))))) (BJ.sq (SJ.if (TW.tj (TW.and (TJ.cmp (op_inA C.u65) bin_in (EF.ix (EF.var (i := 1)) (EF.int)) (EF.tup (AJ.cons (EF.str) (AJ.cons (EF.str) (AJ.nil))))) (TW.and1 (TJ.cmp op_gt bin_gt (EF.var (i := 2)) (EF.int))))) (BJ.one (SJ.ret (EF.ej (EF.tup (AJ.cons (EJ.ef (EJ.opB op_addA bin_add (EF.tup (AJ.cons (EF.ix (EF.var (i := 1)) (EF.int)) (AJ.cons (EJ.ef (EJ.cD1 (j := 0) C Tx._law_turned_test (ok__law_turned_test Tx 12) hr (by decide) (FxOk.cons rfl FxOk.nil) (AJ.cons (EF.ix (EF.var (i := 1)) (EF.int)) (AJ.nil)))) (AJ.nil)))) (EF.sl (EF.var (i := 1)) (OJ.some (EF.int)) (OJ.none)))) (AJ.nil)))) (FxOk.cons rfl FxOk.nil))) (BJ.nl)) (BJ.sq (SJ.if (TJ.cmp (op_eqD C.u64) bin_eq (EF.var (i := 2)) (EF.int)) (BJ.one (SJ.ret (EF.ej (EF.tup (AJ.nil))) (FxOk.cons rfl FxOk.nil))) (BJ.nl)) (BJ.sq (SJ.if (TW.tj (TW.or (TJ.cmp (op_eqD C.u64) bin_eq (EF.var (i := 2)) (EF.int)) (TW.or1 (TJ.cmp (op_inA C.u65) bin_in (EF.ix (EF.var (i := 1)) (EF.int)) (EF.tup (AJ.cons (EF.str) (AJ.cons (EF.str) (AJ.nil)))))))) (BJ.one (SJ.ret (EF.ej (EF.tup (AJ.cons (EF.var (i := 1)) (AJ.cons (EF.var (i := 1)) (AJ.nil))))) (FxOk.cons rfl FxOk.nil))) (BJ.nl)) (BJ.sq (SJ.if (TJ.cmp (op_inA C.u65) bin_in (EF.ix (EF.var (i := 1)) (EF.int)) (EF.tup (AJ.cons (EF.str) (AJ.cons (EF.str) (AJ.nil))))) (BJ.one (SJ.ret (EF.ej (EF.tup (AJ.cons (EJ.ef (EJ.opB op_addA bin_add (EF.sl (EF.var (i := 1)) (OJ.none) (OJ.some (EF.neg (EF.int)))) (EF.tup (AJ.cons (EF.ife (TJ.cmp (op_eqD C.u64) bin_eq (EF.ix (EF.var (i := 1)) (EF.neg (EF.int))) (EF.str)) (EF.str) (EF.str)) (AJ.nil))))) (AJ.nil)))) (FxOk.cons rfl FxOk.nil))) (BJ.nl)) (BJ.one (SJ.ret (EF.ej (EF.ife (TJ.cmp (op_eqD C.u64) bin_eq (EF.ix (EF.var (i := 1)) (EF.int)) (EF.str)) (EF.tup (AJ.cons (EJ.ef (EJ.opB op_addA bin_add (EF.sl (EF.var (i := 1)) (OJ.none) (OJ.some (EF.int))) (EF.tup (AJ.cons (EJ.ef (EJ.opB op_sub bin_sub (EF.int) (EF.ix (EF.var (i := 1)) (EF.int)))) (AJ.nil))))) (AJ.nil))) (EF.tup (AJ.cons (EF.var (i := 1)) (AJ.nil))))) (FxOk.cons rfl FxOk.nil))))))))
theorem sc__law_bent : FnScope ["bag", "plan", "path", "one", "body"] ["bag", "plan"] (defScope s__law_bent) := ⟨rfl, rfl, rfl, by decide +kernel, rfl, by decide +kernel, by decide +kernel⟩
def f__law_bent (A : Ad) : List T → Out T := defF [.own .frz, .frz] .frz 3 (sSeq (sAsg (VS.cal1 (f__law_some A) 0 (aCons (VS.cal0 (f__law_statements A 10) (aCons (op2 ixT (rd 1) (cst (.int 4))) (aCons (opL tupF (aNil)) (aNil)))) (aNil))) (gTu (gCo (gNm 2) (gCo (gNm 3) (gNl))) 2)) (sSeq (sSet 4 (VS.cal0 (f__law_replaced A 10) (aCons (op2 ixT (rd 1) (cst (.int 4))) (aCons (rd 2) (aCons (VS.cal1 (f__law_bent_statement A) 0 (aCons (rd 3) (aNil))) (aNil)))))) (sRet (op2 addT (op2 addT (slE (rd 1) oNone (oSome (cst (.int 4)))) (opL tupF (aCons (rd 4) (aNil)))) (slE (rd 1) (oSome (cst (.int 5))) oNone)))))
theorem ok__law_bent (Tx : Txt P K mg A) : DefOk P w K mg base 16 A.a__law_bent A.fd__law_bent ["bag", "plan"] [.own .frz, .frz] .frz (f__law_bent A) :=
  fnJ (lms := [.frz, .frz, .frz]) (msN := [.own .frz, .frz] ++ [.frz, .frz, .frz]) (msL := []) Tx._law_bent.F sc__law_bent rfl rfl (.cons rfl .nil) (fun cdv A0 outer s H E hr C => BJ.sq (SJ.asg (EJ.ef (EJ.cD1 (j := 0) C Tx._law_some (ok__law_some Tx) hr (by decide) (FxOk.cons rfl FxOk.nil) (AJ.cons (EJ.ef (EJ.cD C Tx._law_statements (ok__law_statements Tx 10) hr (by decide) (FxOk.cons rfl FxOk.nil) (AJ.cons (EF.ix (EF.var (i := 1)) (EF.int)) (AJ.cons (EF.tup (AJ.nil)) (AJ.nil))))) (AJ.nil)))) (GJ.tup C.calm (GsJ.cons (GJ.name (i := 2) C.nd) (GsJ.cons (GJ.name (i := 3) C.nd) (GsJ.nl))))) (BJ.sq (SJ.set (i := 4) C.nd (EF.ej (EJ.ef (EJ.cD C Tx._law_replaced (ok__law_replaced Tx 10) hr (by decide) (FxOk.cons rfl FxOk.nil) (AJ.cons (EF.ix (EF.var (i := 1)) (EF.int)) (AJ.cons (EF.var (i := 2)) (AJ.cons (EJ.ef (EJ.cD1 (j := 0) C Tx._law_bent_statement (ok__law_bent_statement Tx) hr (by decide) (FxOk.cons rfl FxOk.nil) (AJ.cons (EF.var (i := 3)) (AJ.nil)))) (AJ.nil)))))))) (BJ.one (SJ.ret (EF.ej (EJ.ef (EJ.opB op_addA bin_add (EJ.ef (EJ.opB op_addA bin_add (EF.sl (EF.var (i := 1)) (OJ.none) (OJ.some (EF.int))) (EF.tup (AJ.cons (EF.var (i := 4)) (AJ.nil))))) (EF.sl (EF.var (i := 1)) (OJ.some (EF.int)) (OJ.none))))) (FxOk.cons rfl FxOk.nil)))))
theorem sc__law_drawn_plan : FnScope ["bag", "body", "keeps", "flags", "term", "claims", "plan", "lap"] ["bag"] (defScope s__law_drawn_plan) := ⟨rfl, rfl, rfl, by decide +kernel, rfl, by decide +kernel, by decide +kernel⟩
def f__law_drawn_plan (A : Ad) : List T → Out T := defF [.own .frz] .frz 7 (sSeq (sAsg (VS.cal0 (f__law_family A) (aCons (VS.cal1 (f__law_take A) 0 (aCons (cst (.int 9)) (aNil))) (aNil))) (gTu (gCo (gNm 1) (gCo (gNm 2) (gCo (gNm 3) (gCo (gNm 4) (gNl))))) 4)) (sSeq (sSet 5 (VS.ife (tst isBl (op2 eqT (VS.cal1 (f__law_take A) 0 (aCons (cst (.int 2)) (aNil))) (cst (.int 0)))) (opL lstF (aCons (opL tupF (aCons (cst (.str "ascends")) (aCons (cst (.str "o")) (aNil)))) (aNil))) (opL lstF (aNil)))) (sSeq (sIf (tst isBl (op2 gtT (VS.cal1 (f__law_take A) 0 (aCons (cst (.int 4)) (aNil))) (cst (.int 0)))) (sEx (VS.mtO 5 apM (aCons (opL tupF (aCons (cst (.str "times")) (aCons (cst (.str "o")) (aCons (VS.ife (andT (tst isBl (op2 notNoneT (rd 4) (cst .non))) (tst isBl (op2 gtT (VS.cal1 (f__law_take A) 0 (aCons (cst (.int 4)) (aNil))) (cst (.int 0))))) (rd 4) (VS.cal1 (f__law_drawn_term A 4) 0 (aCons (cst (.int 1)) (aNil)))) (aNil))))) (aNil)))) (sNil)) (sSeq (sIf (tst isBl (op2 eqT (VS.cal1 (f__law_take A) 0 (aCons (cst (.int 3)) (aNil))) (cst (.int 0)))) (sEx (VS.mtO 5 apM (aCons (opL tupF (aCons (cst (.str "compares")) (aCons (opL tupF (aCons (VS.cal1 (f__law_take A) 0 (aCons (cst (.int 3)) (aNil))) (aCons (opL tupF (aCons (opL tupF (aCons (cst (.str "a")) (aCons (op2 addT (cst (.int 1)) (VS.cal1 (f__law_take A) 0 (aCons (cst (.int 3)) (aNil)))) (aNil)))) (aCons (opL tupF (aCons (cst (.str "b")) (aCons (op2 addT (cst (.int 1)) (VS.cal1 (f__law_take A) 0 (aCons (cst (.int 3)) (aNil)))) (aNil)))) (aNil)))) (aNil)))) (aNil)))) (aNil)))) (sNil)) (sSeq (sSet 6 (opL tupF (aCons (opL tupF (aCons (cst (.str "a")) (aCons (cst (.str "b")) (aNil)))) (aCons (opL tupF (aCons (cst (.str "o")) (aNil))) (aCons (rd 2) (aCons (rd 3) (aCons (rd 1) (aCons (opL tupleO (aCons (rd 5) (aNil))) (aNil))))))))) (sSeq (sFor (iOpt rg1O (aCons (VS.cal1 (f__law_some A) 0 (aCons (opL lstF (aCons (cst (.int 0)) (aCons (cst (.int 0)) (aCons (cst (.int 1)) (aCons (cst (.int 1)) (aCons (cst (.int 2)) (aNil))))))) (aNil))) (aNil))) (gNm 7) (sSet 6 (VS.ife (tst isBl (op2 neT (op2 ixT (rd 6) (cst (.int 4))) (opL tupF (aNil)))) (VS.cal1 (f__law_bent A) 0 (aCons (rd 6) (aNil))) (rd 6)))) (sRet (rd 6))))))))
theorem ok__law_drawn_plan (Tx : Txt P K mg A) : DefOk P w K mg base 17 A.a__law_drawn_plan A.fd__law_drawn_plan ["bag"] [.own .frz] .frz (f__law_drawn_plan A) :=
  fnJ (lms := [.frz, .frz, .frz, .frz, .own .frz, .frz, .frz]) (msN := [.own .frz] ++ [.frz, .frz, .frz, .frz, .own .frz, .frz, .frz]) (msL := []) Tx._law_drawn_plan.F sc__law_drawn_plan rfl rfl (.cons rfl .nil) (fun cdv A0 outer s H E hr C => BJ.sq (SJ.asg (EJ.ef (EJ.cD C Tx._law_family (ok__law_family Tx) hr (by decide) (FxOk.cons rfl FxOk.nil) (AJ.cons (EJ.ef (EJ.cD1 (j := 0) C Tx._law_take (ok__law_take Tx) hr (by decide) (FxOk.cons rfl FxOk.nil) (AJ.cons (EF.int) (AJ.nil)))) (AJ.nil)))) (GJ.tup C.calm (GsJ.cons (GJ.name (i := 1) C.nd) (GsJ.cons (GJ.name (i := 2) C.nd) (GsJ.cons (GJ.name (i := 3) C.nd) (GsJ.cons (GJ.name (i := 4) C.nd) (GsJ.nl))))))) (BJ.sq (SJ.set (i := 5) C.nd (EJ.ife (TJ.cmp (op_eqD C.u64) bin_eq (EJ.ef (EJ.cD1 (j := 0) C Tx._law_take (ok__law_take Tx) hr (by decide) (FxOk.cons rfl FxOk.nil) (AJ.cons (EF.int) (AJ.nil)))) (EF.int)) (EJ.lst (AJ.cons (EF.tup (AJ.cons (EF.str) (AJ.cons (EF.str) (AJ.nil)))) (AJ.nil))) (EJ.lst (AJ.nil)))) (BJ.sq (SJ.if (TJ.cmp op_gt bin_gt (EJ.ef (EJ.cD1 (j := 0) C Tx._law_take (ok__law_take Tx) hr (by decide) (FxOk.cons rfl FxOk.nil) (AJ.cons (EF.int) (AJ.nil)))) (EF.int)) (BJ.one (SJ.expr (EF.ej (EF.mtO (j := 5) PySem.F.slot_list_append PySem.F.type_list_append mt_append mo_append (AJ.cons (EF.tup (AJ.cons (EF.str) (AJ.cons (EF.str) (AJ.cons (EF.ife (TW.tj (TW.and (TJ.cmp op_notN bin_notN (EF.var (i := 4)) (EF.non)) (TW.and1 (TJ.cmp op_gt bin_gt (EJ.ef (EJ.cD1 (j := 0) C Tx._law_take (ok__law_take Tx) hr (by decide) (FxOk.cons rfl FxOk.nil) (AJ.cons (EF.int) (AJ.nil)))) (EF.int))))) (EF.var (i := 4)) (EJ.ef (EJ.cD1 (j := 0) C Tx._law_drawn_term (ok__law_drawn_term Tx 4) hr (by decide) (FxOk.cons rfl FxOk.nil) (AJ.cons (EF.int) (AJ.nil))))) (AJ.nil))))) (AJ.nil)))))) (BJ.nl)) (BJ.sq (SJ.if (TJ.cmp (op_eqD C.u64) bin_eq (EJ.ef (EJ.cD1 (j := 0) C Tx._law_take (ok__law_take Tx) hr (by decide) (FxOk.cons rfl FxOk.nil) (AJ.cons (EF.int) (AJ.nil)))) (EF.int)) (BJ.one (SJ.expr (EF.ej (EF.mtO (j := 5) PySem.F.slot_list_append PySem.F.type_list_append mt_append mo_append (AJ.cons (EF.tup (AJ.cons (EF.str) (AJ.cons (EF.tup (AJ.cons (EJ.ef (EJ.cD1 (j := 0) C Tx._law_take (ok__law_take Tx) hr (by decide) (FxOk.cons rfl FxOk.nil) (AJ.cons (EF.int) (AJ.nil)))) (AJ.cons (EF.tup (AJ.cons (EF.tup (AJ.cons (EF.str) (AJ.cons (EJ.ef (EJ.opB op_addA bin_add (EF.int) (EJ.ef (EJ.cD1 (j := 0) C Tx._law_take (ok__law_take Tx) hr (by decide) (FxOk.cons rfl FxOk.nil) (AJ.cons (EF.int) (AJ.nil)))))) (AJ.nil)))) (AJ.cons (EF.tup (AJ.cons (EF.str) (AJ.cons (EJ.ef (EJ.opB op_addA bin_add (EF.int) (EJ.ef (EJ.cD1 (j := 0) C Tx._law_take (ok__law_take Tx) hr (by decide) (FxOk.cons rfl FxOk.nil) (AJ.cons (EF.int) (AJ.nil)))))) (AJ.nil)))) (AJ.nil)))) (AJ.nil)))) (AJ.nil)))) (AJ.nil)))))) (BJ.nl)) (BJ.fz 5 (BJ.sq (SJ.set (i := 6) C.nd (EF.ej (EF.tup (AJ.cons (EF.tup (AJ.cons (EF.str) (AJ.cons (EF.str) (AJ.nil)))) (AJ.cons (EF.tup (AJ.cons (EF.str) (AJ.nil))) (AJ.cons (EF.var (i := 2)) (AJ.cons (EF.var (i := 3)) (AJ.cons (EF.var (i := 1)) (AJ.cons (EJ.ef (EJ.callTy call_tuple_of cal_tuple (by rfl) Tx.z_tuple PyProof.Rows.boot_tuple (AJ.cons (EF.var (i := 5)) (AJ.nil)))) (AJ.nil)))))))))) (BJ.sq (SJ.for C (IJ.range1 (by rfl) Tx.z_range (AJ.cons (EJ.ef (EJ.cD1 (j := 0) C Tx._law_some (ok__law_some Tx) hr (by decide) (FxOk.cons rfl FxOk.nil) (AJ.cons (EJ.freeze (EJ.lst (AJ.cons (EF.int) (AJ.cons (EF.int) (AJ.cons (EF.int) (AJ.cons (EF.int) (AJ.cons (EF.int) (AJ.nil)))))))) (AJ.nil)))) (AJ.nil))) (GJ.name (i := 7) C.nd) (BJ.one (SJ.set (i := 6) C.nd (EF.ej (EF.ife (TJ.cmp (op_neD C.u64) bin_ne (EF.ix (EF.var (i := 6)) (EF.int)) (EF.tup (AJ.nil))) (EJ.ef (EJ.cD1 (j := 0) C Tx._law_bent (ok__law_bent Tx) hr (by decide) (FxOk.cons rfl FxOk.nil) (AJ.cons (EF.var (i := 6)) (AJ.nil)))) (EF.var (i := 6))))))) (BJ.one (SJ.ret (EF.ej (EF.var (i := 6))) (FxOk.cons rfl FxOk.nil))))))))))
end
end K64
-- K64d
set_option Elab.async false
set_option linter.all false
set_option maxRecDepth 100000
set_option maxHeartbeats 0
namespace K64
open PySem L2 VS
noncomputable section
variable {P : Program} {w : World} {K : PySem.W.Frag} {mg : Str → Option Value} {base : Heap} {A : Ad}
theorem sc_scanned : FnScope ["text", "found", "at", "line", "first", "word", "content", "end"] ["text"] (defScope s_scanned) := ⟨rfl, rfl, rfl, by decide +kernel, rfl, by decide +kernel, by decide +kernel⟩
def f_scanned (A : Ad) : List T → Out T := defF [.frz] .frz 7 (sSeq (sSet 1 (opL lstF (aNil))) (sSeq (sAsg (opL tupF (aCons (cst (.int 0)) (aCons (cst (.int 1)) (aCons (cst (.int 0)) (aNil))))) (gTu (gCo (gNm 2) (gCo (gNm 3) (gCo (gNm 4) (gNl)))) 3)) (sSeq (whL 20000 (tst isBl (op2 ltT (rd 2) (opL lenO (aCons (rd 0) (aNil))))) (sIf (tst isBl (op2 eqT (op2 ixT (rd 0) (rd 2)) (cst (.str " ")))) (sSet 2 (op2 addT (rd 2) (cst (.int 1)))) (sSeq (sAsg (VS.cal0 (f_token_at A) (aCons (rd 0) (aCons (rd 2) (aNil)))) (gTu (gCo (gNm 5) (gCo (gNm 6) (gCo (gNm 7) (gNl)))) 3)) (sSeq (sEx (VS.mtO 1 apM (aCons (opL tupF (aCons (rd 5) (aCons (rd 6) (aCons (rd 3) (aCons (op2 addT (op2 subT (rd 2) (rd 4)) (cst (.int 1))) (aNil)))))) (aNil)))) (sSeq (sIf (tst isBl (op2 eqT (rd 5) (cst (.str "bad")))) (sRet (opL tupleO (aCons (rd 1) (aNil)))) (sNil)) (sSeq (sSet 2 (rd 7)) (sIf (tst isBl (op2 eqT (rd 5) (cst (.str "line")))) (VS.par2 3 4 (aCons (op2 addT (rd 3) (cst (.int 1))) (aCons (rd 7) (aNil)))) (sNil)))))))) (sSeq (sEx (VS.mtO 1 apM (aCons (opL tupF (aCons (cst (.str "end")) (aCons (cst (.str "")) (aCons (rd 3) (aCons (op2 addT (op2 subT (rd 2) (rd 4)) (cst (.int 1))) (aNil)))))) (aNil)))) (sRet (opL tupleO (aCons (rd 1) (aNil))))))))
theorem ok_scanned (Tx : Txt P K mg A) : DefOk P w K mg base 4 A.a_scanned A.fd_scanned ["text"] [.frz] .frz (f_scanned A) :=
  fnJ (lms := [.own .frz, .frz, .frz, .frz, .frz, .frz, .frz]) (msN := [.frz] ++ [.own .frz, .frz, .frz, .frz, .frz, .frz, .frz]) (msL := []) Tx.scanned.F sc_scanned rfl rfl .nil (fun cdv A0 outer s H E hr C => BJ.sq (SJ.set (i := 1) C.nd (EJ.lst (AJ.nil))) (BJ.sq (SJ.asg (EF.tup (AJ.cons (EF.int) (AJ.cons (EF.int) (AJ.cons (EF.int) (AJ.nil))))) (GJ.tup C.calm (GsJ.cons (GJ.name (i := 2) C.nd) (GsJ.cons (GJ.name (i := 3) C.nd) (GsJ.cons (GJ.name (i := 4) C.nd) (GsJ.nl)))))) (BJ.sq (SJ.while C.toKok (TJ.cmp op_ltA bin_lt (EF.var (i := 2)) (EJ.ef (EJ.callB call_len cal_len (by rfl) Tx.z_len PySem.boot_len (AJ.cons (EF.var (i := 0)) (AJ.nil))))) (BJ.one (SJ.if (TJ.cmp (op_eqD C.u64) bin_eq (EF.ix (EF.var (i := 0)) (EF.var (i := 2))) (EF.str)) (BJ.one (SJ.set (i := 2) C.nd (EF.ej (EJ.ef (EJ.opB op_addA bin_add (EF.var (i := 2)) (EF.int)))))) (BJ.sq (SJ.asg (EJ.ef (EJ.cD C Tx.token_at (ok_token_at Tx) hr (by decide) FxOk.nil (AJ.cons (EF.var (i := 0)) (AJ.cons (EF.var (i := 2)) (AJ.nil))))) (GJ.tup C.calm (GsJ.cons (GJ.name (i := 5) C.nd) (GsJ.cons (GJ.name (i := 6) C.nd) (GsJ.cons (GJ.name (i := 7) C.nd) (GsJ.nl)))))) (BJ.sq (SJ.expr (EF.ej (EF.mtO (j := 1) PySem.F.slot_list_append PySem.F.type_list_append mt_append mo_append (AJ.cons (EF.tup (AJ.cons (EF.var (i := 5)) (AJ.cons (EF.var (i := 6)) (AJ.cons (EF.var (i := 3)) (AJ.cons (EJ.ef (EJ.opB op_addA bin_add (EJ.ef (EJ.opB op_sub bin_sub (EF.var (i := 2)) (EF.var (i := 4)))) (EF.int))) (AJ.nil)))))) (AJ.nil))))) (BJ.sq (SJ.if (TJ.cmp (op_eqD C.u64) bin_eq (EF.var (i := 5)) (EF.str)) (BJ.fz 1 (BJ.one (SJ.ret (EF.ej (EJ.ef (EJ.callTy call_tuple_of cal_tuple (by rfl) Tx.z_tuple PyProof.Rows.boot_tuple (AJ.cons (EF.var (i := 1)) (AJ.nil))))) FxOk.nil))) (BJ.nl)) (BJ.sq (SJ.set (i := 2) C.nd (EF.ej (EF.var (i := 7)))) (BJ.one (SJ.if (TJ.cmp (op_eqD C.u64) bin_eq (EF.var (i := 5)) (EF.str)) (BJ.one (SJ.par2 (i := 3) (j := 4) C (AJ.cons (EJ.ef (EJ.opB op_addA bin_add (EF.var (i := 3)) (EF.int))) (AJ.cons (EF.var (i := 7)) (AJ.nil))))) (BJ.nl)))))))))) (BJ.sq (SJ.expr (EF.ej (EF.mtO (j := 1) PySem.F.slot_list_append PySem.F.type_list_append mt_append mo_append (AJ.cons (EF.tup (AJ.cons (EF.str) (AJ.cons (EF.str) (AJ.cons (EF.var (i := 3)) (AJ.cons (EJ.ef (EJ.opB op_addA bin_add (EJ.ef (EJ.opB op_sub bin_sub (EF.var (i := 2)) (EF.var (i := 4)))) (EF.int))) (AJ.nil)))))) (AJ.nil))))) (BJ.fz 1 (BJ.one (SJ.ret (EF.ej (EJ.ef (EJ.callTy call_tuple_of cal_tuple (by rfl) Tx.z_tuple PyProof.Rows.boot_tuple (AJ.cons (EF.var (i := 1)) (AJ.nil))))) FxOk.nil)))))))
def fT_scanned (A : Ad) : List T → Out T := defF [.frz] .frz 7 (sSeq (sSet 1 (opL lstF (aNil))) (sSeq (sAsg (opL tupF (aCons (cst (.int 0)) (aCons (cst (.int 1)) (aCons (cst (.int 0)) (aNil))))) (gTu (gCo (gNm 2) (gCo (gNm 3) (gCo (gNm 4) (gNl)))) 3)) (sSeq (whL 20000 (tst isBl (op2 ltT (rd 2) (opL lenO (aCons (rd 0) (aNil))))) (sIf (tst isBl (op2 eqT (op2 ixT (rd 0) (rd 2)) (cst (.str " ")))) (sSet 2 (op2 addT (rd 2) (cst (.int 1)))) (sSeq (sNever) (sSeq (sNever) (sSeq (sNever) (sSeq (sNever) (sNever))))))) (sSeq (sEx (VS.mtO 1 apM (aCons (opL tupF (aCons (cst (.str "end")) (aCons (cst (.str "")) (aCons (rd 3) (aCons (op2 addT (op2 subT (rd 2) (rd 4)) (cst (.int 1))) (aNil)))))) (aNil)))) (sRet (opL tupleO (aCons (rd 1) (aNil))))))))
theorem okT_scanned (Tx : Txt P K mg A) : DefT P w K mg base 4 A.a_scanned A.fd_scanned ["text"] [.frz] .frz (fT_scanned A) :=
  fnT (lms := [.own .frz, .frz, .frz, .frz, .frz, .frz, .frz]) (msN := [.frz] ++ [.own .frz, .frz, .frz, .frz, .frz, .frz, .frz]) (msL := []) Tx.scanned.F sc_scanned rfl rfl .nil (fun cdv A0 outer s H E p hr C hot => BJ.sq (SJ.set (i := 1) C.nd (EJ.lst (AJ.nil))) (BJ.sq (SJ.asg (EF.tup (AJ.cons (EF.int) (AJ.cons (EF.int) (AJ.cons (EF.int) (AJ.nil))))) (GJ.tupH hot (GsJ.cons (GJ.name (i := 2) C.nd) (GsJ.cons (GJ.name (i := 3) C.nd) (GsJ.cons (GJ.name (i := 4) C.nd) (GsJ.nl)))))) (BJ.sq (SJ.while C (TJ.cmp op_ltA bin_lt (EF.var (i := 2)) (EJ.ef (EJ.callB call_len cal_len (by rfl) Tx.z_len PySem.boot_len (AJ.cons (EF.var (i := 0)) (AJ.nil))))) (BJ.one (SJ.if (TJ.cmp (op_eqD C.u64) bin_eq (EF.ix (EF.var (i := 0)) (EF.var (i := 2))) (EF.str)) (BJ.one (SJ.set (i := 2) C.nd (EF.ej (EJ.ef (EJ.opB op_addA bin_add (EF.var (i := 2)) (EF.int)))))) (BJ.sq (SJ.nvE) (BJ.sq (SJ.nvE) (BJ.sq (SJ.nvE) (BJ.sq (SJ.nvE) (BJ.one (SJ.nvE))))))))) (BJ.sq (SJ.expr (EF.ej (EF.mtO (j := 1) PySem.F.slot_list_append PySem.F.type_list_append mt_append mo_append (AJ.cons (EF.tup (AJ.cons (EF.str) (AJ.cons (EF.str) (AJ.cons (EF.var (i := 3)) (AJ.cons (EJ.ef (EJ.opB op_addA bin_add (EJ.ef (EJ.opB op_sub bin_sub (EF.var (i := 2)) (EF.var (i := 4)))) (EF.int))) (AJ.nil)))))) (AJ.nil))))) (BJ.fz 1 (BJ.one (SJ.ret (EF.ej (EJ.ef (EJ.callTy call_tuple_of cal_tuple (by rfl) Tx.z_tuple PyProof.Rows.boot_tuple (AJ.cons (EF.var (i := 1)) (AJ.nil))))) FxOk.nil)))))))
theorem sc_tokens : FnScope ["text"] ["text"] (defScope s_tokens) := ⟨rfl, rfl, rfl, by decide +kernel, rfl, by decide +kernel, by decide +kernel⟩
def f_tokens (A : Ad) : List T → Out T := defF [.frz] .frz 0 (sSeq (sIf (notT (tst isBl (opL isiO (aCons (rd 0) (aCons (cst (.ty "str")) (aNil)))))) (sRaise0 A.C_Nothing) (sNil)) (sSeq (sIf (tst isBl (op2 gtT (opL lenO (aCons (rd 0) (aNil))) (cst G_MOST_SIGNS))) (sRaiseE A.C_TooLarge ["what", "limit"] (aCons (cst (.str "signs")) (aCons (cst G_MOST_SIGNS) (aNil)))) (sNil)) (sRet (VS.cal0 (f_scanned A) (aCons (rd 0) (aNil))))))
theorem ok_tokens (Tx : Txt P K mg A) : DefOk P w K mg base 5 A.a_tokens A.fd_tokens ["text"] [.frz] .frz (f_tokens A) :=
  fnJ (lms := []) (msN := [.frz] ++ []) (msL := []) Tx.tokens.F sc_tokens rfl rfl .nil (fun cdv A0 outer s H E hr C => BJ.sq (SJ.if (TJ.not (TJ.val (EJ.ef (EJ.callB call_isi cal_isi (by rfl) Tx.z_isinstance PyProof.Rows.boot_isinstance (AJ.cons (EF.var (i := 0)) (AJ.cons (EF.tyN (by rfl) Tx.z_str PyProof.Rows.boot_str) (AJ.nil))))))) (BJ.one (SJ.raise0 C Tx.p_Nothing (by rfl) Tx.g_Nothing FxOk.nil)) (BJ.nl)) (BJ.sq (SJ.if (TJ.cmp op_gt bin_gt (EJ.ef (EJ.callB call_len cal_len (by rfl) Tx.z_len PySem.boot_len (AJ.cons (EF.var (i := 0)) (AJ.nil)))) (EF.gl Tx.MOST_SIGNS)) (BJ.one (SJ.raiseE C Tx.s_TooLarge iS_TooLarge (hr.mono (by decide)) (by rfl) Tx.g_TooLarge FxOk.nil (AJ.cons (EF.str) (AJ.cons (EF.gl Tx.MOST_SIGNS) (AJ.nil))))) (BJ.nl)) (BJ.one (SJ.ret (EF.ej (EJ.ef (EJ.cD C Tx.scanned (ok_scanned Tx) hr (by decide) FxOk.nil (AJ.cons (EF.var (i := 0)) (AJ.nil))))) FxOk.nil))))
def fT_tokens (A : Ad) : List T → Out T := defF [.frz] .frz 0 (sSeq (sIf (notT (tst isBl (opL isiO (aCons (rd 0) (aCons (cst (.ty "str")) (aNil)))))) (sNever) (sNil)) (sSeq (sIf (tst isBl (op2 gtT (opL lenO (aCons (rd 0) (aNil))) (cst G_MOST_SIGNS))) (sNever) (sNil)) (sRet (VS.cal0 (fT_scanned A) (aCons (rd 0) (aNil))))))
theorem okT_tokens (Tx : Txt P K mg A) : DefT P w K mg base 5 A.a_tokens A.fd_tokens ["text"] [.frz] .frz (fT_tokens A) :=
  fnT (lms := []) (msN := [.frz] ++ []) (msL := []) Tx.tokens.F sc_tokens rfl rfl .nil (fun cdv A0 outer s H E p hr C hot => BJ.sq (SJ.if (TJ.not (TJ.val (EJ.ef (EJ.callB call_isi cal_isi (by rfl) Tx.z_isinstance PyProof.Rows.boot_isinstance (AJ.cons (EF.var (i := 0)) (AJ.cons (EF.tyN (by rfl) Tx.z_str PyProof.Rows.boot_str) (AJ.nil))))))) (BJ.one (SJ.nvE)) (BJ.nl)) (BJ.sq (SJ.if (TJ.cmp op_gt bin_gt (EJ.ef (EJ.callB call_len cal_len (by rfl) Tx.z_len PySem.boot_len (AJ.cons (EF.var (i := 0)) (AJ.nil)))) (EF.gl Tx.MOST_SIGNS)) (BJ.one (SJ.nvE)) (BJ.nl)) (BJ.one (SJ.ret (EF.ej (EJ.ef (EJ.cT C hot Tx.scanned (okT_scanned Tx) hr (by decide) FxOk.nil (AJ.cons (EF.var (i := 0)) (AJ.nil))))) FxOk.nil))))
theorem sc__law_error : FnScope ["way", "data", "one", "other", "error"] ["way", "data"] (defScope s__law_error) := ⟨rfl, rfl, rfl, by decide +kernel, rfl, by decide +kernel, by decide +kernel⟩
def f__law_error (A : Ad) : List T → Out T := defF [.frz, .frz] .frz 3 (sSeq (sAsg (rd 1) (gLi (gCo (gNm 2) (gCo (gNm 3) (gNl))) 2)) (sSeq (sIf (tst isBl (op2 eqT (rd 0) (cst (.int 0)))) (sSeq (sSet 4 (opL (mkErr A.C_BadText ["line", "column"]) (aCons (rd 2) (aCons (rd 3) (aNil))))) (sRet (opL tupF (aCons (rd 4) (aCons (opL tupF (aCons (op1 (fldT A.Cs "line") (rd 4)) (aCons (op1 (fldT A.Cs "column") (rd 4)) (aNil)))) (aCons (opL tupF (aCons (rd 2) (aCons (rd 3) (aNil)))) (aCons (cst (.str "BadText")) (aNil)))))))) (sNil)) (sSeq (sIf (tst isBl (op2 eqT (rd 0) (cst (.int 1)))) (sSeq (sSet 4 (opL (mkErr A.C_BadKind ["where", "fault"]) (aCons (rd 2) (aCons (rd 3) (aNil))))) (sRet (opL tupF (aCons (rd 4) (aCons (opL tupF (aCons (op1 (fldT A.Cs "where") (rd 4)) (aCons (op1 (fldT A.Cs "fault") (rd 4)) (aNil)))) (aCons (opL tupF (aCons (rd 2) (aCons (rd 3) (aNil)))) (aCons (cst (.str "BadKind")) (aNil)))))))) (sNil)) (sSeq (sIf (tst isBl (op2 eqT (rd 0) (cst (.int 2)))) (sSeq (sSet 4 (opL (mkErr A.C_BadLists ["name", "fault"]) (aCons (rd 2) (aCons (rd 3) (aNil))))) (sRet (opL tupF (aCons (rd 4) (aCons (opL tupF (aCons (op1 (fldT A.Cs "name") (rd 4)) (aCons (op1 (fldT A.Cs "fault") (rd 4)) (aNil)))) (aCons (opL tupF (aCons (rd 2) (aCons (rd 3) (aNil)))) (aCons (cst (.str "BadLists")) (aNil)))))))) (sNil)) (sSeq (sIf (tst isBl (op2 eqT (rd 0) (cst (.int 3)))) (sSeq (sSet 4 (opL (mkErr A.C_NoCommand ["line"]) (aCons (rd 2) (aNil)))) (sRet (opL tupF (aCons (rd 4) (aCons (opL tupF (aCons (op1 (fldT A.Cs "line") (rd 4)) (aNil))) (aCons (opL tupF (aCons (rd 2) (aNil))) (aCons (cst (.str "NoCommand")) (aNil)))))))) (sNil)) (sSeq (sIf (tst isBl (op2 eqT (rd 0) (cst (.int 4)))) (sSeq (sSet 4 (opL (mkErr A.C_TooLarge ["what", "limit"]) (aCons (rd 2) (aCons (rd 3) (aNil))))) (sRet (opL tupF (aCons (rd 4) (aCons (opL tupF (aCons (op1 (fldT A.Cs "what") (rd 4)) (aCons (op1 (fldT A.Cs "limit") (rd 4)) (aNil)))) (aCons (opL tupF (aCons (rd 2) (aCons (rd 3) (aNil)))) (aCons (cst (.str "TooLarge")) (aNil)))))))) (sNil)) (sRet (opL tupF (aCons (VS.ife (tst isBl (op2 eqT (rd 0) (cst (.int 5)))) (cst (.ins A.C_Nothing [] [])) (cst (.ins A.C_MergeError [] []))) (aCons (opL tupF (aNil)) (aCons (opL tupF (aNil)) (aCons (VS.ife (tst isBl (op2 eqT (rd 0) (cst (.int 5)))) (cst (.str "Nothing")) (cst (.str "MergeError"))) (aNil)))))))))))))
theorem ok__law_error (Tx : Txt P K mg A) : DefOk P w K mg base 3 A.a__law_error A.fd__law_error ["way", "data"] [.frz, .frz] .frz (f__law_error A) :=
  fnJ (lms := [.frz, .frz, .frz]) (msN := [.frz, .frz] ++ [.frz, .frz, .frz]) (msL := []) Tx._law_error.F sc__law_error rfl rfl .nil (fun cdv A0 outer s H E hr C => BJ.sq (SJ.asg (EF.var (i := 1)) (GJ.lst C.calm (GsJ.cons (GJ.name (i := 2) C.nd) (GsJ.cons (GJ.name (i := 3) C.nd) (GsJ.nl))))) (BJ.sq (SJ.if (TJ.cmp (op_eqD C.u64) bin_eq (EF.var (i := 0)) (EF.int)) (BJ.sq (SJ.set (i := 4) C.nd (EF.ej (EF.mkE Tx.s_BadText iS_BadText (hr.mono (by decide)) (by rfl) Tx.g_BadText (AJ.cons (EF.var (i := 2)) (AJ.cons (EF.var (i := 3)) (AJ.nil)))))) (BJ.one (SJ.ret (EF.ej (EF.tup (AJ.cons (EF.var (i := 4)) (AJ.cons (EF.tup (AJ.cons (EF.fld (Tx.fld_line) (EF.var (i := 4))) (AJ.cons (EF.fld (Tx.fld_column) (EF.var (i := 4))) (AJ.nil)))) (AJ.cons (EF.tup (AJ.cons (EF.var (i := 2)) (AJ.cons (EF.var (i := 3)) (AJ.nil)))) (AJ.cons (EF.str) (AJ.nil))))))) FxOk.nil))) (BJ.nl)) (BJ.sq (SJ.if (TJ.cmp (op_eqD C.u64) bin_eq (EF.var (i := 0)) (EF.int)) (BJ.sq (SJ.set (i := 4) C.nd (EF.ej (EF.mkE Tx.s_BadKind iS_BadKind (hr.mono (by decide)) (by rfl) Tx.g_BadKind (AJ.cons (EF.var (i := 2)) (AJ.cons (EF.var (i := 3)) (AJ.nil)))))) (BJ.one (SJ.ret (EF.ej (EF.tup (AJ.cons (EF.var (i := 4)) (AJ.cons (EF.tup (AJ.cons (EF.fld (Tx.fld_where) (EF.var (i := 4))) (AJ.cons (EF.fld (Tx.fld_fault) (EF.var (i := 4))) (AJ.nil)))) (AJ.cons (EF.tup (AJ.cons (EF.var (i := 2)) (AJ.cons (EF.var (i := 3)) (AJ.nil)))) (AJ.cons (EF.str) (AJ.nil))))))) FxOk.nil))) (BJ.nl)) (BJ.sq (SJ.if (TJ.cmp (op_eqD C.u64) bin_eq (EF.var (i := 0)) (EF.int)) (BJ.sq (SJ.set (i := 4) C.nd (EF.ej (EF.mkE Tx.s_BadLists iS_BadLists (hr.mono (by decide)) (by rfl) Tx.g_BadLists (AJ.cons (EF.var (i := 2)) (AJ.cons (EF.var (i := 3)) (AJ.nil)))))) (BJ.one (SJ.ret (EF.ej (EF.tup (AJ.cons (EF.var (i := 4)) (AJ.cons (EF.tup (AJ.cons (EF.fld (Tx.fld_name) (EF.var (i := 4))) (AJ.cons (EF.fld (Tx.fld_fault) (EF.var (i := 4))) (AJ.nil)))) (AJ.cons (EF.tup (AJ.cons (EF.var (i := 2)) (AJ.cons (EF.var (i := 3)) (AJ.nil)))) (AJ.cons (EF.str) (AJ.nil))))))) FxOk.nil))) (BJ.nl)) (BJ.sq (SJ.if (TJ.cmp (op_eqD C.u64) bin_eq (EF.var (i := 0)) (EF.int)) (BJ.sq (SJ.set (i := 4) C.nd (EF.ej (EF.mkE Tx.s_NoCommand iS_NoCommand (hr.mono (by decide)) (by rfl) Tx.g_NoCommand (AJ.cons (EF.var (i := 2)) (AJ.nil))))) (BJ.one (SJ.ret (EF.ej (EF.tup (AJ.cons (EF.var (i := 4)) (AJ.cons (EF.tup (AJ.cons (EF.fld (Tx.fld_line) (EF.var (i := 4))) (AJ.nil))) (AJ.cons (EF.tup (AJ.cons (EF.var (i := 2)) (AJ.nil))) (AJ.cons (EF.str) (AJ.nil))))))) FxOk.nil))) (BJ.nl)) (BJ.sq (SJ.if (TJ.cmp (op_eqD C.u64) bin_eq (EF.var (i := 0)) (EF.int)) (BJ.sq (SJ.set (i := 4) C.nd (EF.ej (EF.mkE Tx.s_TooLarge iS_TooLarge (hr.mono (by decide)) (by rfl) Tx.g_TooLarge (AJ.cons (EF.var (i := 2)) (AJ.cons (EF.var (i := 3)) (AJ.nil)))))) (BJ.one (SJ.ret (EF.ej (EF.tup (AJ.cons (EF.var (i := 4)) (AJ.cons (EF.tup (AJ.cons (EF.fld (Tx.fld_what) (EF.var (i := 4))) (AJ.cons (EF.fld (Tx.fld_limit) (EF.var (i := 4))) (AJ.nil)))) (AJ.cons (EF.tup (AJ.cons (EF.var (i := 2)) (AJ.cons (EF.var (i := 3)) (AJ.nil)))) (AJ.cons (EF.str) (AJ.nil))))))) FxOk.nil))) (BJ.nl)) (BJ.one (SJ.ret (EF.ej (EF.tup (AJ.cons (EF.ife (TJ.cmp (op_eqD C.u64) bin_eq (EF.var (i := 0)) (EF.int)) (EF.mk0 Tx.p_Nothing (by rfl) Tx.g_Nothing) (EF.mk0 Tx.p_MergeError (by rfl) Tx.g_MergeError)) (AJ.cons (EF.tup (AJ.nil)) (AJ.cons (EF.tup (AJ.nil)) (AJ.cons (EF.ife (TJ.cmp (op_eqD C.u64) bin_eq (EF.var (i := 0)) (EF.int)) (EF.str) (EF.str)) (AJ.nil))))))) FxOk.nil))))))))
theorem sc__law_raised : FnScope ["way", "data", "one", "other", "its"] ["way", "data"] (defScope s__law_raised) := ⟨rfl, rfl, rfl, by decide +kernel, rfl, by decide +kernel, by decide +kernel⟩
def f__law_raised (A : Ad) : List T → Out T := defF [.frz, .frz] .frz 3 (sSeq (sAsg (rd 1) (gLi (gCo (gNm 2) (gCo (gNm 3) (gNl))) 2)) (sTryAs 4 (mtIn A.M_MergeError) (sSeq (sIf (tst isBl (op2 eqT (rd 0) (cst (.int 0)))) (sRaiseE A.C_BadText ["line", "column"] (aCons (rd 2) (aCons (rd 3) (aNil)))) (sNil)) (sSeq (sIf (tst isBl (op2 eqT (rd 0) (cst (.int 1)))) (sRaiseE A.C_BadKind ["where", "fault"] (aCons (rd 2) (aCons (rd 3) (aNil)))) (sNil)) (sSeq (sIf (tst isBl (op2 eqT (rd 0) (cst (.int 2)))) (sRaiseE A.C_BadLists ["name", "fault"] (aCons (rd 2) (aCons (rd 3) (aNil)))) (sNil)) (sSeq (sIf (tst isBl (op2 eqT (rd 0) (cst (.int 3)))) (sRaiseE A.C_NoCommand ["line"] (aCons (rd 2) (aNil))) (sNil)) (sSeq (sIf (tst isBl (op2 eqT (rd 0) (cst (.int 4)))) (sRaiseE A.C_TooLarge ["what", "limit"] (aCons (rd 2) (aCons (rd 3) (aNil)))) (sNil)) (sRaise0 A.C_Nothing)))))) (fun x a dd => sRet (VS.cnS x 4 a dd A.nmOf))))
theorem ok__law_raised (Tx : Txt P K mg A) : DefOk P w K mg base 3 A.a__law_raised A.fd__law_raised ["way", "data"] [.frz, .frz] .frz (f__law_raised A) :=
  fnJ (lms := [.frz, .frz, .frz]) (msN := [.frz, .frz] ++ [.frz, .frz, .frz]) (msL := []) Tx._law_raised.F sc__law_raised rfl rfl .nil (fun cdv A0 outer s H E hr C => BJ.sq (SJ.asg (EF.var (i := 1)) (GJ.lst C.calm (GsJ.cons (GJ.name (i := 2) C.nd) (GsJ.cons (GJ.name (i := 3) C.nd) (GsJ.nl))))) (BJ.one (SJ.tryAs (i := 4) C rfl rfl rfl rfl ⟨by rfl, by decide, .inl Tx.g_MergeError⟩ Tx.mt_MergeError (fun _ _ _ C' => BJ.sq (SJ.if (TJ.cmp (op_eqD C'.u64) bin_eq (EF.var (i := 0)) (EF.int)) (BJ.one (SJ.raiseE C' Tx.s_BadText iS_BadText (hr.mono (by decide)) (by rfl) Tx.g_BadText FxOk.nil (AJ.cons (EF.var (i := 2)) (AJ.cons (EF.var (i := 3)) (AJ.nil))))) (BJ.nl)) (BJ.sq (SJ.if (TJ.cmp (op_eqD C'.u64) bin_eq (EF.var (i := 0)) (EF.int)) (BJ.one (SJ.raiseE C' Tx.s_BadKind iS_BadKind (hr.mono (by decide)) (by rfl) Tx.g_BadKind FxOk.nil (AJ.cons (EF.var (i := 2)) (AJ.cons (EF.var (i := 3)) (AJ.nil))))) (BJ.nl)) (BJ.sq (SJ.if (TJ.cmp (op_eqD C'.u64) bin_eq (EF.var (i := 0)) (EF.int)) (BJ.one (SJ.raiseE C' Tx.s_BadLists iS_BadLists (hr.mono (by decide)) (by rfl) Tx.g_BadLists FxOk.nil (AJ.cons (EF.var (i := 2)) (AJ.cons (EF.var (i := 3)) (AJ.nil))))) (BJ.nl)) (BJ.sq (SJ.if (TJ.cmp (op_eqD C'.u64) bin_eq (EF.var (i := 0)) (EF.int)) (BJ.one (SJ.raiseE C' Tx.s_NoCommand iS_NoCommand (hr.mono (by decide)) (by rfl) Tx.g_NoCommand FxOk.nil (AJ.cons (EF.var (i := 2)) (AJ.nil)))) (BJ.nl)) (BJ.sq (SJ.if (TJ.cmp (op_eqD C'.u64) bin_eq (EF.var (i := 0)) (EF.int)) (BJ.one (SJ.raiseE C' Tx.s_TooLarge iS_TooLarge (hr.mono (by decide)) (by rfl) Tx.g_TooLarge FxOk.nil (AJ.cons (EF.var (i := 2)) (AJ.cons (EF.var (i := 3)) (AJ.nil))))) (BJ.nl)) (BJ.one (SJ.raise0 C' Tx.p_Nothing (by rfl) Tx.g_Nothing FxOk.nil))))))) (fun x a dd oe pn hm hz hf Kk hot => BJ.one (SJ.ret (EF.ej (EF.cnS (i := 4) (fun nm h => Tx.cn_of _ nm h) Tx.cnC (by have := hr.rm.dp; omega) hz hf rfl rfl (Or.inl rfl))) FxOk.nil)))))
theorem sc__law_runs : FnScope ["text", "words", "signs", "found", "line", "first", "at", "turn", "sign", "end", "place", "more", "run", "is_figure", "one", "is_name_v"] ["text"] (defScope s__law_runs) := ⟨rfl, rfl, rfl, by decide +kernel, rfl, by decide +kernel, by decide +kernel⟩
def f__law_runs (A : Ad) : List T → Out T := defF [.frz] .frz 15 (sSeq (sSet 1 (cst (.str "and ascends below claim compares down drop else empty end ends flag greatest if in is keep least less not or out plus put same skip up while"))) (sSeq (sParO [2, 3, 4, 5, 6] (aCons (cst (.str "abcdefghijklmnopqrstuvwxyz0123456789")) (aCons (opL lstF (aNil)) (aCons (cst (.int 1)) (aCons (cst (.int 0)) (aCons (cst (.int 0)) (aNil))))))) (sSeq (sFor (iOpt rg1O (aCons (opL lenO (aCons (rd 0) (aNil))) (aNil))) (gNm 7) (sSeq (sIf (tst isBl (op2 geT (rd 6) (opL lenO (aCons (rd 0) (aNil))))) (sCnt) (sNil)) (sSeq (VS.par3 8 9 10 (aCons (op2 ixT (rd 0) (rd 6)) (aCons (op2 addT (rd 6) (cst (.int 1))) (aCons (opL tupF (aCons (rd 4) (aCons (op2 addT (op2 subT (rd 6) (rd 5)) (cst (.int 1))) (aNil)))) (aNil))))) (sSeq (sIf (tst isBl (op2 eqT (rd 8) (cst (.str "\n")))) (sSeq (sEx (VS.mtO 3 apM (aCons (op2 addT (opL tupF (aCons (cst (.str "line")) (aCons (cst (.str "")) (aNil)))) (rd 10)) (aNil)))) (VS.par2 4 5 (aCons (op2 addT (rd 4) (cst (.int 1))) (aCons (op2 addT (rd 6) (cst (.int 1))) (aNil))))) (sIf (tst isBl (op2 inT (rd 8) (cst (.str "()")))) (sEx (VS.mtO 3 apM (aCons (op2 addT (opL tupF (aCons (cst (.str "mark")) (aCons (rd 8) (aNil)))) (rd 10)) (aNil)))) (sIf (tst isBl (op2 neT (rd 8) (cst (.str " ")))) (sSeq (sFor (iOpt rg2O (aCons (rd 6) (aCons (opL min2O (aCons (opL lenO (aCons (rd 0) (aNil))) (aCons (op2 addT (rd 6) (cst (.int 50))) (aNil)))) (aNil)))) (gNm 11) (sSet 9 (VS.ife (andT (tst isBl (op2 leT (rd 11) (opL max2O (aCons (rd 9) (aCons (rd 6) (aNil)))))) (tst isBl (op2 inT (op2 ixT (rd 0) (rd 11)) (rd 2)))) (op2 addT (rd 11) (cst (.int 1))) (rd 9)))) (sSeq (sSet 12 (slE (rd 0) (oSome (rd 6)) (oSome (rd 9)))) (sSeq (sSet 13 (andV (op2 eqT (eLc [14] (iSeq (rd 12)) (gNm 14) (tst isBl (op2 notInT (rd 14) (slE (rd 2) (oSome (cst (.int 26))) oNone))) (rd 14)) (opL lstF (aNil))) (andV (orV (op2 eqT (rd 12) (cst (.str "0"))) (op2 neT (op2 ixT (rd 12) (cst (.int 0))) (cst (.str "0")))) (op2 leT (opL lenO (aCons (rd 12) (aNil))) (cst (.int 2)))))) (sSeq (sSet 15 (andV (op2 leT (opL lenO (aCons (rd 12) (aNil))) (cst (.int 8))) (andV (op2 inT (op2 ixT (rd 12) (cst (.int 0))) (slE (rd 2) oNone (oSome (cst (.int 26))))) (op2 eqT (eLc [14] (iSeq (rd 12)) (gNm 14) (tst isBl (op2 notInT (rd 14) (rd 2))) (rd 14)) (opL lstF (aNil)))))) (sSeq (sEx (VS.mtO 3 apM (aCons (op2 addT (VS.ife (tst isBl (op2 inT (rd 12) (VS.mS splitT (rd 1) (aCons (cst (.str " ")) (aNil))))) (opL tupF (aCons (cst (.str "key")) (aCons (rd 12) (aNil)))) (VS.ife (tst isBl (rd 15)) (opL tupF (aCons (cst (.str "name")) (aCons (rd 12) (aNil)))) (VS.ife (tst isBl (rd 13)) (opL tupF (aCons (cst (.str "number")) (aCons (opL intO (aCons (rd 12) (aNil))) (aNil)))) (opL tupF (aCons (cst (.str "bad")) (aCons (cst (.str "")) (aNil))))))) (rd 10)) (aNil)))) (sIf (tst isBl (op2 eqT (op2 ixT (VS.ixO 3 (op1 negT (cst (.int 1)))) (cst (.int 0))) (cst (.str "bad")))) (sRet (rd 3)) (sNil))))))) (sNil)))) (sSet 6 (rd 9)))))) (sRet (op2 addT (rd 3) (opL lstF (aCons (opL tupF (aCons (cst (.str "end")) (aCons (cst (.str "")) (aCons (rd 4) (aCons (op2 addT (op2 subT (opL lenO (aCons (rd 0) (aNil))) (rd 5)) (cst (.int 1))) (aNil)))))) (aNil))))))))
theorem ok__law_runs (Tx : Txt P K mg A) : DefOk P w K mg base 1 A.a__law_runs A.fd__law_runs ["text"] [.frz] .frz (f__law_runs A) :=
  fnJ (lms := [.frz, .frz, .own .frz, .frz, .frz, .frz, .frz, .frz, .frz, .frz, .frz, .frz, .frz, .frz, .frz]) (msN := [.frz] ++ [.frz, .frz, .own .frz, .frz, .frz, .frz, .frz, .frz, .frz, .frz, .frz, .frz, .frz, .frz, .frz]) (msL := []) Tx._law_runs.F sc__law_runs rfl rfl .nil (fun cdv A0 outer s H E hr C => BJ.sq (SJ.set (i := 1) C.nd (EF.ej (EF.str))) (BJ.sq (SJ.parO C (ArJ.cons (EF.ej (EF.str)) (ArJ.cons (EJ.lst (AJ.nil)) (ArJ.cons (EF.ej (EF.int)) (ArJ.cons (EF.ej (EF.int)) (ArJ.cons (EF.ej (EF.int)) (ArJ.nil)))))) (GoJ.cons (j := 2) C.nd (GoJ.cons (j := 3) C.nd (GoJ.cons (j := 4) C.nd (GoJ.cons (j := 5) C.nd (GoJ.cons (j := 6) C.nd (GoJ.nil))))))) (BJ.sq (SJ.for C (IJ.range1 (by rfl) Tx.z_range (AJ.cons (EJ.ef (EJ.callB call_len cal_len (by rfl) Tx.z_len PySem.boot_len (AJ.cons (EF.var (i := 0)) (AJ.nil)))) (AJ.nil))) (GJ.name (i := 7) C.nd) (BJ.sq (SJ.if (TJ.cmp op_ge bin_ge (EF.var (i := 6)) (EJ.ef (EJ.callB call_len cal_len (by rfl) Tx.z_len PySem.boot_len (AJ.cons (EF.var (i := 0)) (AJ.nil))))) (BJ.one (SJ.ct)) (BJ.nl)) (BJ.sq (SJ.par3 (i := 8) (j := 9) (l := 10) C (AJ.cons (EF.ix (EF.var (i := 0)) (EF.var (i := 6))) (AJ.cons (EJ.ef (EJ.opB op_addA bin_add (EF.var (i := 6)) (EF.int))) (AJ.cons (EF.tup (AJ.cons (EF.var (i := 4)) (AJ.cons (EJ.ef (EJ.opB op_addA bin_add (EJ.ef (EJ.opB op_sub bin_sub (EF.var (i := 6)) (EF.var (i := 5)))) (EF.int))) (AJ.nil)))) (AJ.nil))))) (BJ.sq (SJ.if (TJ.cmp (op_eqD C.u64) bin_eq (EF.var (i := 8)) (EF.str)) (BJ.sq (SJ.expr (EF.ej (EF.mtO (j := 3) PySem.F.slot_list_append PySem.F.type_list_append mt_append mo_append (AJ.cons (EJ.ef (EJ.opB op_addA bin_add (EF.tup (AJ.cons (EF.str) (AJ.cons (EF.str) (AJ.nil)))) (EF.var (i := 10)))) (AJ.nil))))) (BJ.one (SJ.par2 (i := 4) (j := 5) C (AJ.cons (EJ.ef (EJ.opB op_addA bin_add (EF.var (i := 4)) (EF.int))) (AJ.cons (EJ.ef (EJ.opB op_addA bin_add (EF.var (i := 6)) (EF.int))) (AJ.nil)))))) (BJ.one (SJ.if (TJ.cmp (op_inA C.u65) bin_in (EF.var (i := 8)) (EF.str)) (BJ.one (SJ.expr (EF.ej (EF.mtO (j := 3) PySem.F.slot_list_append PySem.F.type_list_append mt_append mo_append (AJ.cons (EJ.ef (EJ.opB op_addA bin_add (EF.tup (AJ.cons (EF.str) (AJ.cons (EF.var (i := 8)) (AJ.nil)))) (EF.var (i := 10)))) (AJ.nil)))))) (BJ.one (SJ.if (TJ.cmp (op_neD C.u64) bin_ne (EF.var (i := 8)) (EF.str)) (BJ.sq (SJ.for C (IJ.range2 (by rfl) Tx.z_range (AJ.cons (EF.var (i := 6)) (AJ.cons (EJ.ef (EJ.callB (call_min2 C.calm) cal_min2 (by rfl) Tx.z_min PyProof.Rows.boot_min (AJ.cons (EJ.ef (EJ.callB call_len cal_len (by rfl) Tx.z_len PySem.boot_len (AJ.cons (EF.var (i := 0)) (AJ.nil)))) (AJ.cons (EJ.ef (EJ.opB op_addA bin_add (EF.var (i := 6)) (EF.int))) (AJ.nil))))) (AJ.nil)))) (GJ.name (i := 11) C.nd) (BJ.one (SJ.set (i := 9) C.nd (EF.ej (EF.ife (TW.tj (TW.and (TJ.cmp op_le bin_le (EF.var (i := 11)) (EJ.ef (EJ.callB (call_max2 C.calm) cal_max2 (by rfl) Tx.z_max PyProof.Rows.boot_max (AJ.cons (EF.var (i := 9)) (AJ.cons (EF.var (i := 6)) (AJ.nil)))))) (TW.and1 (TJ.cmp (op_inA C.u65) bin_in (EF.ix (EF.var (i := 0)) (EF.var (i := 11))) (EF.var (i := 2)))))) (EJ.ef (EJ.opB op_addA bin_add (EF.var (i := 11)) (EF.int))) (EF.var (i := 9))))))) (BJ.sq (SJ.set (i := 12) C.nd (EF.ej (EF.sl (EF.var (i := 0)) (OJ.some (EF.var (i := 6))) (OJ.some (EF.var (i := 9)))))) (BJ.sq (SJ.set (i := 13) C.nd (EF.ej (EF.and (EJ.ef (EJ.cmp (op_eqD C.u64) bin_eq (EJ.freeze (EJ.lc (own := [("one", 14)]) (tv := [14]) C (IJ.seq (EF.var (i := 12))) (by rfl) (by decide) (fr_all (by rfl)) (by decide) (fun _ _ _ _ _ => GJ.name (i := 14) (cok_blk C).nd) (fun _ _ _ _ _ => TsJ.one (TJ.cmp (op_notInA (cok_blk C).u65) bin_notIn (EF.var (i := 14)) (EF.sl (EF.var (i := 2)) (OJ.some (EF.int)) (OJ.none)))) (fun _ _ _ _ _ => EF.var (i := 14)))) (EJ.freeze (EJ.lst (AJ.nil))))) (EF.and (EF.or (EJ.ef (EJ.cmp (op_eqD C.u64) bin_eq (EF.var (i := 12)) (EF.str))) (EF.one (EJ.ef (EJ.cmp (op_neD C.u64) bin_ne (EF.ix (EF.var (i := 12)) (EF.int)) (EF.str))))) (EF.one (EJ.ef (EJ.cmp op_le bin_le (EJ.ef (EJ.callB call_len cal_len (by rfl) Tx.z_len PySem.boot_len (AJ.cons (EF.var (i := 12)) (AJ.nil)))) (EF.int)))))))) (BJ.sq (SJ.set (i := 15) C.nd (EF.ej (EF.and (EJ.ef (EJ.cmp op_le bin_le (EJ.ef (EJ.callB call_len cal_len (by rfl) Tx.z_len PySem.boot_len (AJ.cons (EF.var (i := 12)) (AJ.nil)))) (EF.int))) (EF.and (EJ.ef (EJ.cmp (op_inA C.u65) bin_in (EF.ix (EF.var (i := 12)) (EF.int)) (EF.sl (EF.var (i := 2)) (OJ.none) (OJ.some (EF.int))))) (EF.one (EJ.ef (EJ.cmp (op_eqD C.u64) bin_eq (EJ.freeze (EJ.lc (own := [("one", 14)]) (tv := [14]) C (IJ.seq (EF.var (i := 12))) (by rfl) (by decide) (fr_all (by rfl)) (by decide) (fun _ _ _ _ _ => GJ.name (i := 14) (cok_blk C).nd) (fun _ _ _ _ _ => TsJ.one (TJ.cmp (op_notInA (cok_blk C).u65) bin_notIn (EF.var (i := 14)) (EF.var (i := 2)))) (fun _ _ _ _ _ => EF.var (i := 14)))) (EJ.freeze (EJ.lst (AJ.nil)))))))))) (BJ.sq (SJ.expr (EF.ej (EF.mtO (j := 3) PySem.F.slot_list_append PySem.F.type_list_append mt_append mo_append (AJ.cons (EJ.ef (EJ.opB op_addA bin_add (EF.ife (TJ.cmp (op_inA C.u65) bin_in (EF.var (i := 12)) (EJ.ef (EJ.mS PySem.F.slot_str_split PySem.F.type_str_split mt_split mt_splitT (EF.var (i := 1)) (AJ.cons (EF.str) (AJ.nil))))) (EF.tup (AJ.cons (EF.str) (AJ.cons (EF.var (i := 12)) (AJ.nil)))) (EF.ife (TJ.val (EF.var (i := 15))) (EF.tup (AJ.cons (EF.str) (AJ.cons (EF.var (i := 12)) (AJ.nil)))) (EF.ife (TJ.val (EF.var (i := 13))) (EF.tup (AJ.cons (EF.str) (AJ.cons (EJ.ef (EJ.callTy call_intA cal_int (by rfl) Tx.z_int PyProof.Rows.boot_int (AJ.cons (EF.var (i := 12)) (AJ.nil)))) (AJ.nil)))) (EF.tup (AJ.cons (EF.str) (AJ.cons (EF.str) (AJ.nil))))))) (EF.var (i := 10)))) (AJ.nil))))) (BJ.one (SJ.if (TJ.cmp (op_eqD C.u64) bin_eq (EF.ix (EF.ixO (j := 3) rfl (EF.neg (EF.int))) (EF.int)) (EF.str)) (BJ.fz 3 (BJ.one (SJ.ret (EF.ej (EF.var (i := 3))) FxOk.nil))) (BJ.nl)))))))) (BJ.nl)))))) (BJ.one (SJ.set (i := 6) C.nd (EF.ej (EF.var (i := 9))))))))) (BJ.fz 3 (BJ.one (SJ.ret (EF.ej (EJ.ef (EJ.opB op_addA bin_add (EF.var (i := 3)) (EJ.freeze (EJ.lst (AJ.cons (EF.tup (AJ.cons (EF.str) (AJ.cons (EF.str) (AJ.cons (EF.var (i := 4)) (AJ.cons (EJ.ef (EJ.opB op_addA bin_add (EJ.ef (EJ.opB op_sub bin_sub (EJ.ef (EJ.callB call_len cal_len (by rfl) Tx.z_len PySem.boot_len (AJ.cons (EF.var (i := 0)) (AJ.nil)))) (EF.var (i := 5)))) (EF.int))) (AJ.nil)))))) (AJ.nil))))))) FxOk.nil))))))
end
end K64
-- K64e
set_option Elab.async false
set_option linter.all false
set_option maxRecDepth 100000
set_option maxHeartbeats 0
namespace K64
open PySem L2 VS
noncomputable section
variable {P : Program} {w : World} {K : PySem.W.Frag} {mg : Str → Option Value} {base : Heap} {A : Ad}
theorem sc_law : FnScope ["script", "bag", "way", "data", "turn", "made", "kept", "due", "word", "text", "again", "at", "odd", "error"] ["script"] (defScope s_law) := ⟨rfl, rfl, rfl, by decide +kernel, rfl, by decide +kernel, by decide +kernel⟩
def f_law (A : Ad) : List T → Out T := defF [.frz] .frz 13 (sSeq (sSet 1 (VS.cal0 (f__law_bag A) (aCons (rd 0) (aNil)))) (sSeq (sFor (iOpt rg1O (aCons (cst (.int 7)) (aNil))) (gNm 2) (sSeq (sSet 3 (eLc [4] (iOpt rg1O (aCons (cst (.int 2)) (aNil))) (gNm 4) (tYesF) (VS.cal1 (f__law_some A) 1 (aCons (opL lstF (aCons (cst (.int 0)) (aCons (cst (.int 7)) (aCons (cst (.str "x")) (aCons (cst .non) (aCons (opL tupF (aCons (cst (.str "line")) (aCons (cst (.int 3)) (aNil)))) (aNil))))))) (aNil))))) (sSeq (sAsg (VS.cal0 (f__law_error A) (aCons (rd 2) (aCons (rd 3) (aNil)))) (gTu (gCo (gNm 5) (gCo (gNm 6) (gCo (gNm 7) (gCo (gNm 8) (gNl))))) 4)) (sSeq (sIf (orT (notT (tst isBl (opL (isiEO A.Cs (.ref A.C_MergeError)) (aCons (rd 5) (aCons (cst (.ref A.C_MergeError)) (aNil)))))) (orT (notT (tst isBl (opL (isiEO A.Cs (.ty "ValueError")) (aCons (rd 5) (aCons (cst (.ty "ValueError")) (aNil)))))) (notT (tst isBl (VS.cal0 (f__law_alike A) (aCons (rd 6) (aCons (rd 7) (aNil)))))))) (sRet (cst (.bl false))) (sNil)) (sIf (orT (tst isBl (op2 neT (op1 (cnT A.nmOf) (rd 5)) (rd 8))) (tst isBl (op2 neT (VS.cal0 (f__law_raised A) (aCons (rd 2) (aCons (rd 3) (aNil)))) (VS.ife (tst isBl (op2 ltT (rd 2) (cst (.int 6)))) (rd 8) (cst (.str "Nothing")))))) (sRet (cst (.bl false))) (sNil)))))) (sSeq (sFor (iOpt rg1O (aCons (cst (.int 8)) (aNil))) (gNm 4) (sSeq (sSet 9 (VS.cal0 (f__law_plan_text A) (aCons (VS.cal1 (f__law_drawn_plan A) 1 (aNil)) (aNil)))) (sSeq (sFor (iOpt rg1O (aCons (VS.cal1 (f__law_take A) 1 (aCons (cst (.int 3)) (aNil))) (aNil))) (gNm 10) (sSeq (sSet 11 (VS.cal1 (f__law_take A) 1 (aCons (op2 addT (opL lenO (aCons (rd 9) (aNil))) (cst (.int 1))) (aNil)))) (sSet 9 (op2 addT (op2 addT (slE (rd 9) oNone (oSome (rd 11))) (VS.cal1 (f__law_some A) 1 (aCons (opL lstF (aCons (cst (.str "")) (aCons (cst (.str " ")) (aCons (cst (.str "\n")) (aCons (cst (.str "(")) (aCons (cst (.str "-")) (aCons (cst (.str "07")) (aCons (cst (.str "99")) (aCons (cst (.str "100")) (aCons (cst (.str "A")) (aCons (op2 mulST (cst (.str "a")) (cst (.int 9))) (aCons (cst (.str "0a")) (aCons (cst (.str "?")) (aCons (cst (.str "9 9")) (aCons (cst (.str "\t")) (aCons (cst (.str "x1")) (aNil))))))))))))))))) (aNil)))) (slE (rd 9) (oSome (rd 11)) oNone))))) (sIf (notT (tst isBl (VS.cal0 (f__law_alike A) (aCons (VS.cal0 (f_tokens A) (aCons (rd 9) (aNil))) (aCons (opL tupleO (aCons (VS.cal0 (f__law_runs A) (aCons (rd 9) (aNil))) (aNil))) (aNil)))))) (sRet (cst (.bl false))) (sNil))))) (sSeq (sFor (iSeq (opL tupF (aCons (cst .non) (aCons (cst (.int 7)) (aCons (opL lstF (aCons (cst (.str "a")) (aNil))) (aNil)))))) (gNm 12) (sTryO (mtIn A.M_Nothing) (sSeq (sEx (VS.cal0 (f_tokens A) (aCons (rd 12) (aNil)))) (sRet (cst (.bl false)))) (fun x => sCnt))) (sTryAs 13 (mtIn A.M_TooLarge) (sSeq (sEx (VS.cal0 (f_tokens A) (aCons (op2 mulST (cst (.str " ")) (cst (.int 6001))) (aNil)))) (sRet (cst (.bl false)))) (fun x a dd => sRet (andV (op2 eqT (opL tupF (aCons (VS.xfS x 13 a dd "what") (aCons (VS.xfS x 13 a dd "limit") (aNil)))) (opL tupF (aCons (cst (.str "signs")) (aCons (cst (.int 6000)) (aNil))))) (VS.cal0 (fT__law_alike A) (aCons (VS.cal0 (fT_tokens A) (aCons (op2 mulST (cst (.str " ")) (cst (.int 6000))) (aNil))) (aCons (opL tupF (aCons (opL tupF (aCons (cst (.str "end")) (aCons (cst (.str "")) (aCons (cst (.int 1)) (aCons (cst (.int 6001)) (aNil)))))) (aNil))) (aNil)))))))))))
theorem ok_law (Tx : Txt P K mg A) : DefOk P w K mg base 30 A.a_law A.fd_law ["script"] [.frz] .frz (f_law A) :=
  fnJ (lms := [.own .frz, .frz, .frz, .frz, .frz, .frz, .frz, .frz, .frz, .frz, .frz, .frz, .frz]) (msN := [.frz] ++ [.own .frz, .frz, .frz, .frz, .frz, .frz, .frz, .frz, .frz, .frz, .frz, .frz, .frz]) (msL := []) Tx.law.F sc_law rfl rfl .nil (fun cdv A0 outer s H E hr C => BJ.sq (SJ.set (i := 1) C.nd (EJ.cD C Tx._law_bag (ok__law_bag Tx) hr (by decide) FxOk.nil (AJ.cons (EF.var (i := 0)) (AJ.nil)))) (BJ.sq (SJ.for C (IJ.range1 (by rfl) Tx.z_range (AJ.cons (EF.int) (AJ.nil))) (GJ.name (i := 2) C.nd) (BJ.sq (SJ.setLc (i := 3) (own := [("turn", 4)]) (tv := [4]) C (IJ.range1 (by rfl) Tx.z_range (AJ.cons (EF.int) (AJ.nil))) (by rfl) (by decide) (fr_all (by rfl)) (by decide) (fun _ _ _ _ _ => GJ.name (i := 4) (cok_blk C).nd) (fun _ _ _ _ _ => TsJ.nil) (fun _ _ _ _ _ => EJ.ef (EJ.cD1 (j := 1) (cok_blk C) Tx._law_some (ok__law_some Tx) hr (by decide) FxOk.nil (AJ.cons (EJ.freeze (EJ.lst (AJ.cons (EF.int) (AJ.cons (EF.int) (AJ.cons (EF.str) (AJ.cons (EF.non) (AJ.cons (EF.tup (AJ.cons (EF.str) (AJ.cons (EF.int) (AJ.nil)))) (AJ.nil)))))))) (AJ.nil)))) rfl rfl (by rfl)) (BJ.fz 3 (BJ.sq (SJ.asg (EJ.ef (EJ.cD C Tx._law_error (ok__law_error Tx) hr (by decide) FxOk.nil (AJ.cons (EF.var (i := 2)) (AJ.cons (EF.var (i := 3)) (AJ.nil))))) (GJ.tup C.calm (GsJ.cons (GJ.name (i := 5) C.nd) (GsJ.cons (GJ.name (i := 6) C.nd) (GsJ.cons (GJ.name (i := 7) C.nd) (GsJ.cons (GJ.name (i := 8) C.nd) (GsJ.nl))))))) (BJ.sq (SJ.if (TW.tj (TW.or (TJ.not (TJ.val (EJ.ef (EJ.callB call_isiE (cal_isiE (.inl ⟨_, rfl, rfl⟩) Tx.ik_MergeError) (by rfl) Tx.z_isinstance PyProof.Rows.boot_isinstance (AJ.cons (EF.var (i := 5)) (AJ.cons (EF.glob (v := .ref A.C_MergeError) (by rfl) Tx.g_MergeError rfl (fun _ => .ref _)) (AJ.nil))))))) (TW.or (TJ.not (TJ.val (EJ.ef (EJ.callB call_isiE (cal_isiE (.inr ⟨_, rfl, rfl⟩) Tx.ik_ValueError) (by rfl) Tx.z_isinstance PyProof.Rows.boot_isinstance (AJ.cons (EF.var (i := 5)) (AJ.cons (EF.tyN (by rfl) Tx.z_ValueError L2.boot_ValueError) (AJ.nil))))))) (TW.or1 (TJ.not (TJ.val (EJ.ef (EJ.cD C Tx._law_alike (ok__law_alike Tx) hr (by decide) FxOk.nil (AJ.cons (EF.var (i := 6)) (AJ.cons (EF.var (i := 7)) (AJ.nil))))))))))) (BJ.one (SJ.ret (EF.ej (EF.bl)) FxOk.nil)) (BJ.nl)) (BJ.one (SJ.if (TW.tj (TW.or (TJ.cmp (op_neD C.u64) bin_ne (EF.cnm Tx.cn_of Tx.cnC (by have := hr.rm.dp; omega) (EF.var (i := 5))) (EF.var (i := 8))) (TW.or1 (TJ.cmp (op_neD C.u64) bin_ne (EJ.ef (EJ.cD C Tx._law_raised (ok__law_raised Tx) hr (by decide) FxOk.nil (AJ.cons (EF.var (i := 2)) (AJ.cons (EF.var (i := 3)) (AJ.nil))))) (EF.ife (TJ.cmp op_ltA bin_lt (EF.var (i := 2)) (EF.int)) (EF.var (i := 8)) (EF.str)))))) (BJ.one (SJ.ret (EF.ej (EF.bl)) FxOk.nil)) (BJ.nl)))))))) (BJ.sq (SJ.for C (IJ.range1 (by rfl) Tx.z_range (AJ.cons (EF.int) (AJ.nil))) (GJ.name (i := 4) C.nd) (BJ.sq (SJ.set (i := 9) C.nd (EF.ej (EJ.ef (EJ.cD C Tx._law_plan_text (ok__law_plan_text Tx) hr (by decide) FxOk.nil (AJ.cons (EJ.ef (EJ.cD1 (j := 1) C Tx._law_drawn_plan (ok__law_drawn_plan Tx) hr (by decide) FxOk.nil (AJ.nil))) (AJ.nil)))))) (BJ.sq (SJ.for C (IJ.range1 (by rfl) Tx.z_range (AJ.cons (EJ.ef (EJ.cD1 (j := 1) C Tx._law_take (ok__law_take Tx) hr (by decide) FxOk.nil (AJ.cons (EF.int) (AJ.nil)))) (AJ.nil))) (GJ.name (i := 10) C.nd) (BJ.sq (SJ.set (i := 11) C.nd (EF.ej (EJ.ef (EJ.cD1 (j := 1) C Tx._law_take (ok__law_take Tx) hr (by decide) FxOk.nil (AJ.cons (EJ.ef (EJ.opB op_addA bin_add (EJ.ef (EJ.callB call_len cal_len (by rfl) Tx.z_len PySem.boot_len (AJ.cons (EF.var (i := 9)) (AJ.nil)))) (EF.int))) (AJ.nil)))))) (BJ.one (SJ.set (i := 9) C.nd (EF.ej (EJ.ef (EJ.opB op_addA bin_add (EJ.ef (EJ.opB op_addA bin_add (EF.sl (EF.var (i := 9)) (OJ.none) (OJ.some (EF.var (i := 11)))) (EJ.ef (EJ.cD1 (j := 1) C Tx._law_some (ok__law_some Tx) hr (by decide) FxOk.nil (AJ.cons (EJ.freeze (EJ.lst (AJ.cons (EF.str) (AJ.cons (EF.str) (AJ.cons (EF.str) (AJ.cons (EF.str) (AJ.cons (EF.str) (AJ.cons (EF.str) (AJ.cons (EF.str) (AJ.cons (EF.str) (AJ.cons (EF.str) (AJ.cons (EJ.ef (EJ.opB op_mulAS bin_mulS (EF.str) (EF.int))) (AJ.cons (EF.str) (AJ.cons (EF.str) (AJ.cons (EF.str) (AJ.cons (EF.str) (AJ.cons (EF.str) (AJ.nil)))))))))))))))))) (AJ.nil)))))) (EF.sl (EF.var (i := 9)) (OJ.some (EF.var (i := 11))) (OJ.none))))))))) (BJ.one (SJ.if (TJ.not (TJ.val (EJ.ef (EJ.cD C Tx._law_alike (ok__law_alike Tx) hr (by decide) FxOk.nil (AJ.cons (EJ.ef (EJ.cD C Tx.tokens (ok_tokens Tx) hr (by decide) FxOk.nil (AJ.cons (EF.var (i := 9)) (AJ.nil)))) (AJ.cons (EJ.ef (EJ.callTy call_tuple_of cal_tuple (by rfl) Tx.z_tuple PyProof.Rows.boot_tuple (AJ.cons (EJ.ef (EJ.cD C Tx._law_runs (ok__law_runs Tx) hr (by decide) FxOk.nil (AJ.cons (EF.var (i := 9)) (AJ.nil)))) (AJ.nil)))) (AJ.nil))))))) (BJ.one (SJ.ret (EF.ej (EF.bl)) FxOk.nil)) (BJ.nl)))))) (BJ.fz 1 (BJ.sq (SJ.for C (IJ.seq (EF.tup (AJ.cons (EF.non) (AJ.cons (EF.int) (AJ.cons (EJ.freeze (EJ.lst (AJ.cons (EF.str) (AJ.nil)))) (AJ.nil)))))) (GJ.name (i := 12) C.nd) (BJ.one (SJ.tryO C rfl rfl ⟨by rfl, by decide, .inl Tx.g_Nothing⟩ Tx.mt_Nothing (fun _ _ _ C' => BJ.sq (SJ.expr (EF.ej (EJ.ef (EJ.cD C' Tx.tokens (ok_tokens Tx) hr (by decide) FxOk.nil (AJ.cons (EF.var (i := 12)) (AJ.nil)))))) (BJ.one (SJ.ret (EF.ej (EF.bl)) FxOk.nil))) (fun x a dd oe pn hm hz hf Kk hot => BJ.one (SJ.ct))))) (BJ.one (SJ.tryAs (i := 13) C rfl rfl rfl rfl ⟨by rfl, by decide, .inl Tx.g_TooLarge⟩ Tx.mt_TooLarge (fun _ _ _ C' => BJ.sq (SJ.expr (EF.ej (EJ.ef (EJ.cD C' Tx.tokens (ok_tokens Tx) hr (by decide) FxOk.nil (AJ.cons (EJ.ef (EJ.opB op_mulAS bin_mulS (EF.str) (EF.int))) (AJ.nil)))))) (BJ.one (SJ.ret (EF.ej (EF.bl)) FxOk.nil))) (fun x a dd oe pn hm hz hf Kk hot => BJ.one (SJ.ret (EF.ej (EF.and (EJ.ef (EJ.cmp (op_eqD Kk.u64) bin_eq (EF.tup (AJ.cons (EF.xfS (i := 13) (Tx.fld_what x.C (sub_TooLarge hm)).1 (Tx.fld_what x.C (sub_TooLarge hm)).2 hz hf rfl rfl (Or.inl rfl)) (AJ.cons (EF.xfS (i := 13) (Tx.fld_limit x.C (sub_TooLarge hm)).1 (Tx.fld_limit x.C (sub_TooLarge hm)).2 hz hf rfl rfl (Or.inl rfl)) (AJ.nil)))) (EF.tup (AJ.cons (EF.str) (AJ.cons (EF.int) (AJ.nil)))))) (EF.one (EJ.ef (EJ.cT Kk hot Tx._law_alike (okT__law_alike Tx) (hr.mark _) (by decide) FxOk.nil (AJ.cons (EJ.ef (EJ.cT Kk hot Tx.tokens (okT_tokens Tx) (hr.mark _) (by decide) FxOk.nil (AJ.cons (EJ.ef (EJ.opB op_mulAS bin_mulS (EF.str) (EF.int))) (AJ.nil)))) (AJ.cons (EF.tup (AJ.cons (EF.tup (AJ.cons (EF.str) (AJ.cons (EF.str) (AJ.cons (EF.int) (AJ.cons (EF.int) (AJ.nil)))))) (AJ.nil))) (AJ.nil)))))))) FxOk.nil)))))))))
end
end K64
-- K64l
set_option Elab.async false
set_option linter.all false
set_option maxRecDepth 100000
set_option maxHeartbeats 2000000
namespace K64
open PySem L2 VS
def bagT (b0 b1 b2 : Int) (cells : List Int) : T := .lst [.int b0, .int b1, .int b2, .lst (cells.map .int)]
/-- a bag of numbers -/
def Bag (t : T) : Prop := ∃ (b0 b1 : Int) (b2 : Nat) (cells : List Int), t = bagT b0 b1 b2 cells ∧ 0 ≤ b0 ∧ 0 ≤ b1 ∧ b1 < 2147483647 ∧ cells.length ≤ 63 ∧ ∀ c ∈ cells, 0 ≤ c
theorem mulOk_l {i j : Int} (h0 : 0 ≤ i) (h : i < 18446744073709551616) : mulOk i j = true := by
  unfold mulOk
  simp only [Bool.or_eq_true, decide_eq_true_eq]
  left
  omega
theorem mulOk_r {i j : Int} (h0 : 0 ≤ j) (h : j < 18446744073709551616) : mulOk i j = true := by
  unfold mulOk
  simp only [Bool.or_eq_true, decide_eq_true_eq]
  right
  omega
theorem cell_at {cells : List Int} {b2 : Nat} (hc : ∀ c ∈ cells, 0 ≤ c) : ∃ c : Int, 0 ≤ c ∧ atI (List.drop b2 (List.map T.int cells) ++ [T.int 0]) 0 = some (T.int c) := by
  rw [← List.map_drop]
  cases h : cells.drop b2 with
  | nil => exact ⟨0, Int.le_refl _, by simp⟩
  | cons c r => exact ⟨c, hc c (List.mem_of_mem_drop (by rw [h]; exact List.mem_cons_self)), by simp⟩
theorem take_ok (A : Ad) {t : T} (B : Bag t) {many : Int} (hm : 0 < many) (hm2 : many < 1073741824) :
    ∃ (d : Int) (t' : T), f__law_take A [t, .int many] = .ok (.int d) [some t', none] ∧ 0 ≤ d ∧ d < many ∧ Bag t' := by
  obtain ⟨b0, b1, b2, cells, rfl, h0, h1, h1', hl, hc⟩ := B
  have m0 : ∀ x : Int, 0 ≤ x % many := fun x => Int.emod_nonneg _ (by omega)
  have m1 : ∀ x : Int, x % many < many := fun x => Int.emod_lt_of_pos _ hm
  have hz : cells.length - b2 + 1 ≤ sizeLine := by
    have : sizeLine = 16777216 := rfl
    omega
  unfold f__law_take bagT defF
  by_cases hb : b0 = 0
  · subst hb
    obtain ⟨c, c0, ec⟩ := cell_at (b2 := b2) hc
    by_cases hbig : (1000000000000000000 : Int) ≤ c
    · have c1 : 0 < c := by omega
      simp only [List.length_cons, List.length_nil]
      simp [atI_pos, ixN, ec, hbig, c1, mulOk_l, mulOk_r, hz, hm, hm2]
      exact ⟨_, _, ⟨rfl, rfl⟩, m0 _, m1 _, _, _, b2 + 1, cells, rfl, Int.ediv_nonneg c0 (by omega), Int.emod_nonneg _ (by decide), Int.emod_lt_of_pos _ (by decide), hl, hc⟩
    · have q : mulOk (((b1 * 48271 + c % 2147483647 + 7919 * (↑b2 + 1)) % 2147483647 + 1) * 39373 % 1000000007) (((b1 * 48271 + c % 2147483647 + 7919 * (↑b2 + 1)) % 2147483647 + 1) * 39373 % 1000000007) = true := mulOk_l (by omega) (by omega)
      simp [atI_pos, ixN, ec, hbig, mulOk_l, mulOk_r, hz, hm, hm2, q]
      exact ⟨_, _, ⟨rfl, rfl⟩, m0 _, m1 _, _, _, b2 + 1, cells, rfl, Int.le_refl _, Int.emod_nonneg _ (by decide), Int.emod_lt_of_pos _ (by decide), hl, hc⟩
  · have hb' : 0 < b0 := by omega
    simp [atI_pos, ixN, hb, hb', hm, hm2]
    exact ⟨_, _, ⟨rfl, rfl⟩, m0 _, m1 _, _, _, b2, cells, rfl, Int.ediv_nonneg h0 (by omega), h1, h1', hl, hc⟩
theorem some_ok (A : Ad) {t : T} (B : Bag t) {xs : List T} (h0 : xs ≠ []) (h1 : xs.length < 1000000) :
    ∃ (x t' : T), f__law_some A [t, .lst xs] = .ok x [some t', none] ∧ x ∈ xs ∧ Bag t' := by
  have hp : 0 < xs.length := List.length_pos_iff.mpr h0
  obtain ⟨d, t', e, d0, d1, B'⟩ := take_ok A B (many := (xs.length : Int)) (by omega) (by omega)
  obtain ⟨n, rfl⟩ := Int.eq_ofNat_of_zero_le d0
  have hn : n < xs.length := by omega
  refine ⟨xs[n], t', ?_, List.getElem_mem _, B'⟩
  unfold f__law_some defF
  simp [e, hn]
end K64
-- VPlain3
set_option Elab.async false
set_option linter.all false
set_option maxRecDepth 100000
set_option maxHeartbeats 1000000
/-! VPlain3: plain texts, plain data of small depth, comprehensions that map, joins. -/
namespace VS
open PySem L2
theorem hSz : sizeLine = 16777216 := rfl
theorem addT_str_ok {a b : Str} (h : a.length + b.length ≤ sizeLine) : addT (.str a) (.str b) = some (.str (a ++ b)) := by simp [h]
theorem addT_tup_ok {a b : List T} (h : a.length + b.length ≤ sizeLine) : addT (.tup a) (.tup b) = some (.tup (a ++ b)) := by simp [h]
theorem addT_lst_ok {a b : List T} (h : a.length + b.length ≤ sizeLine) : addT (.lst a) (.lst b) = some (.lst (a ++ b)) := by simp [h]
/-- plain signs alone -/
def Asc (s : Str) : Bool := s.cps.toList.all (· < 128)
theorem asc_ok {s : Str} (h : Asc s = true) : PyData.strOk s = true := by
  unfold PyData.strOk
  unfold Asc at h
  rw [← Array.all_toList]
  rw [List.all_eq_true] at h ⊢
  intro c hc
  have := h c hc
  simp at this ⊢
  omega
theorem asc_app {a b : Str} (h : Asc a = true) (k : Asc b = true) : Asc (a ++ b) = true := by
  unfold Asc at *
  rw [Str.cps_append, Array.toList_append, List.all_append, h, k]
  rfl
/-- a text of at most n plain signs -/
structure Tx (s : Str) (n : Nat) : Prop where
  len : s.length ≤ n
  asc : Asc s = true
theorem Tx.add {a b : Str} {n m : Nat} (h : Tx a n) (k : Tx b m) : Tx (a ++ b) (n + m) := ⟨by rw [Str.length_append]; have := h.len; have := k.len; omega, asc_app h.asc k.asc⟩
theorem Tx.mono {a : Str} {n m : Nat} (h : Tx a n) (k : n ≤ m) : Tx a m := ⟨Nat.le_trans h.len k, h.asc⟩
theorem Tx.ok {a : Str} {n : Nat} (h : Tx a n) : PyData.strOk a = true := asc_ok h.asc
theorem Tx.join {sep : Str} {n : Nat} (hs : Tx sep n) : ∀ {ss : List Str}, (∀ s ∈ ss, Asc s = true) → Tx (Txt.join sep ss) ((ss.map (·.length)).sum + ss.length * n) := fun {ss} h => by
  have e : Txt.join sep ss = Str.join sep ss := StrLaws.glued_eq_join sep ss
  rw [e]
  refine ⟨?_, ?_⟩
  · have h1 := StrLaws.join_length_le sep ss
    have h2 : ss.length * sep.length ≤ ss.length * n := Nat.mul_le_mul_left _ hs.len
    omega
  · induction ss with
    | nil => rfl
    | cons x r ih =>
      cases r with
      | nil => exact h x (by simp)
      | cons y r =>
        show Asc (x ++ sep ++ Str.join sep (y :: r)) = true
        exact asc_app (asc_app (h x (by simp)) hs.asc) (ih (fun s hs => h s (by simp [hs])) (StrLaws.glued_eq_join sep _))
theorem cutT_lo {α : Type} {xs : List α} {i : Int} (h : 0 ≤ i) : cutT xs (some i) none = xs.drop i.toNat := by
  obtain ⟨n, rfl⟩ := Int.eq_ofNat_of_zero_le h
  exact cutT_from
theorem cutT_hi {α : Type} {xs : List α} {i : Int} (h : 0 ≤ i) : cutT xs none (some i) = xs.take i.toNat := by
  obtain ⟨n, rfl⟩ := Int.eq_ofNat_of_zero_le h
  exact cutT_to
theorem forL_nil {b : T → Env → SOut} {env : Env} : forL [] b env = .nxt env := rfl
theorem forL_cons {x : T} {xs : List T} {b : T → Env → SOut} {env : Env} : forL (x :: xs) b env = (match b x env with
    | .nxt e => forL xs b e
    | .cnt e => forL xs b e
    | .brk e => .nxt e
    | .ret v e => .ret v e
    | .exc x e => .exc x e
    | .stk => .stk) := rfl
/-! ### plain data -/
def Dd (k : Nat) (t : T) : Prop := ∃ d, toD t = some d ∧ d.canLay0 = true ∧ d.depth ≤ k
def DdL (k : Nat) (ts : List T) : Prop := ∃ ds, toDs ts = some ds ∧ PyData.canLayAll0 ds = true ∧ PyData.depthAll ds ≤ k
theorem Dd.mono {k m : Nat} {t : T} (h : Dd k t) (hk : k ≤ m) : Dd m t := let ⟨d, a, b, c⟩ := h; ⟨d, a, b, Nat.le_trans c hk⟩
theorem Dd.str {k : Nat} {s : Str} (h : PyData.strOk s = true) : Dd k (.str s) := ⟨.str s, by simp [toD], by simpa [PyData.canLay0] using h, by simp [PyData.depth]⟩
theorem Dd.int {k : Nat} {i : Int} : Dd k (.int i) := ⟨.int i, by simp [toD], by simp [PyData.canLay0], by simp [PyData.depth]⟩
theorem Dd.bl {k : Nat} {i : Bool} : Dd k (.bl i) := ⟨.bool i, by simp [toD], by simp [PyData.canLay0], by simp [PyData.depth]⟩
theorem Dd.non {k : Nat} : Dd k .non := ⟨.none, by simp [toD], by simp [PyData.canLay0], by simp [PyData.depth]⟩
theorem DdL.nil {k : Nat} : DdL k [] := ⟨[], by simp [toDs], by simp [PyData.canLayAll0], by simp [PyData.depthAll]⟩
theorem DdL.cons {k : Nat} {t : T} {ts : List T} (h : Dd k t) (r : DdL k ts) : DdL k (t :: ts) := by
  obtain ⟨d, a, b, c⟩ := h
  obtain ⟨ds, a2, b2, c2⟩ := r
  exact ⟨d :: ds, by simp [toDs, a, a2], by simp [PyData.canLayAll0, b, b2], by simp only [PyData.depthAll]; omega⟩
theorem DdL.all {k : Nat} : ∀ {ts : List T}, (∀ t ∈ ts, Dd k t) → DdL k ts
  | [], _ => .nil
  | _ :: _, h => .cons (h _ (by simp)) (DdL.all fun t ht => h t (by simp [ht]))
theorem Dd.tup {k : Nat} {ts : List T} (h : DdL k ts) : Dd (k + 1) (.tup ts) := by
  obtain ⟨ds, a, b, c⟩ := h
  exact ⟨.tuple ds, by simp [toD, a], by simpa [PyData.canLay0] using b, by simp only [PyData.depth]; omega⟩
theorem Dd.lst {k : Nat} {ts : List T} (h : DdL k ts) : Dd (k + 1) (.lst ts) := by
  obtain ⟨ds, a, b, c⟩ := h
  exact ⟨.list ds, by simp [toD, a], by simpa [PyData.canLay0] using b, by simp only [PyData.depth]; omega⟩
theorem shaped_of {d : PyData} (a : d.canLay0 = true) (b : d.depth ≤ 64) : SeqAt.shaped d = true := by simp [SeqAt.shaped, a, b]
theorem eqO_self {t : T} (h : Dd 64 t) : eqO t t = some true := by
  obtain ⟨d, a, b, c⟩ := h
  simp [eqO, a, shaped_of b c, SeqAt.eqv_refl d b]
theorem eqT_self {t : T} (h : Dd 64 t) : eqT t t = some (.bl true) := by simp [eqT, eqO_self h]
theorem eqO_tup_nil {xs : List T} (h : Dd 64 (.tup xs)) : eqO (.tup xs) (.tup []) = some xs.isEmpty := by
  obtain ⟨d, a, b, c⟩ := h
  obtain ⟨d0, a0, b0, c0⟩ : Dd 64 (.tup []) := Dd.tup (k := 63) .nil
  simp only [eqO, a, a0, shaped_of b c, shaped_of b0 c0]
  cases xs with
  | nil =>
    rw [a] at a0; cases a0
    simp [SeqAt.eqv_refl d b]
  | cons x r =>
    simp only [toD, toDs] at a a0
    simp at a0
    subst a0
    cases e1 : toD x with
    | none => simp [e1] at a
    | some dx =>
      cases e2 : toDs r with
      | none => simp [e1, e2] at a
      | some dr =>
        simp [e1, e2] at a
        subst a
        simp [PyData.eqv, PyData.eqvAll]
theorem neT_tup_nil {xs : List T} (h : Dd 64 (.tup xs)) : neT (.tup xs) (.tup []) = some (.bl (!xs.isEmpty)) := by simp [neT, eqO_tup_nil h]
theorem eqO_lst_nil {xs : List T} (h : Dd 64 (.lst xs)) : eqO (.lst xs) (.lst []) = some xs.isEmpty := by
  obtain ⟨d, a, b, c⟩ := h
  obtain ⟨d0, a0, b0, c0⟩ : Dd 64 (.lst []) := Dd.lst (k := 63) .nil
  simp only [eqO, a, a0, shaped_of b c, shaped_of b0 c0]
  cases xs with
  | nil =>
    rw [a] at a0; cases a0
    simp [SeqAt.eqv_refl d b]
  | cons x r =>
    simp only [toD, toDs] at a a0
    simp at a0
    subst a0
    cases e1 : toD x with
    | none => simp [e1] at a
    | some dx =>
      cases e2 : toDs r with
      | none => simp [e1, e2] at a
      | some dr =>
        simp [e1, e2] at a
        subst a
        simp [PyData.eqv, PyData.eqvAll]
theorem eqT_lst_nil {xs : List T} (h : Dd 64 (.lst xs)) : eqT (.lst xs) (.lst []) = some (.bl xs.isEmpty) := by simp [eqT, eqO_lst_nil h]
/-! ### comprehensions that map: one name, no test -/
theorem lc_go {i : Nat} {te : FE} {F : T → T} {e1 : Env} : ∀ (xs acc : List T), i < e1.length → (∀ x ∈ xs, te (e1.set i (some x)) = .ok (F x) (e1.set i (some x))) →
    lcL (lcB [i] (gNm i) tYesF te) xs acc (e1.set i none) = .ok (acc ++ xs.map F) (e1.set i none)
  | [], acc, _, _ => by simp [lcL]
  | x :: xs, acc, hi, h => by
    have h1 := h x (by simp)
    have eb : lcB [i] (gNm i) tYesF te x (e1.set i none) = .ok (some (F x)) (e1.set i none) := by
      simp [lcB, gNm, hi, h1, wipeE, tYesF]
    show (match lcB [i] (gNm i) tYesF te x (e1.set i none) with
      | .ok (some y) env' => lcL (lcB [i] (gNm i) tYesF te) xs (acc ++ [y]) env'
      | .ok none env' => lcL (lcB [i] (gNm i) tYesF te) xs acc env'
      | _ => .stk) = _
    rw [eb]
    show lcL _ xs (acc ++ [F x]) _ = _
    rw [lc_go xs (acc ++ [F x]) hi fun y hy => h y (by simp [hy])]
    simp
theorem q_lcMap {i : Nat} {f : FA} {te : FE} {F : T → T} {e0 e1 : Env} {items : List T} (hf : f e0 = .ok items e1) (hi : i < e1.length) (hl : items.length ≤ 10000000) (h : ∀ x ∈ items, te (e1.set i (some x)) = .ok (F x) (e1.set i (some x))) :
    eLc [i] f (gNm i) tYesF te e0 = .ok (.lst (items.map F)) e1 := by
  have hw : wipeE e1 [i] = e1.set i none := rfl
  simp only [eLc, hf, q_bind_ok, if_pos hl, hw, lc_go items [] hi h]
  have e : (e1.set i none).set i (e1[i]?.getD none) = e1 := by
    rw [List.set_set]
    exact set_same (by simp [hi])
  simp [restE, e]
theorem strsO_map {ss : List Str} : strsO (ss.map .str) = some ss := by
  induction ss with
  | nil => rfl
  | cons s r ih => simp [strsO, ih]
theorem joinT_lst {a : Str} {ss : List Str} (h : (ss.map (·.length)).sum + ss.length * a.length ≤ 16777216) : joinT (.str a) [.lst (ss.map .str)] = some (.str (Txt.join a ss)) := by
  simp only [joinT, itemsO, strsO_map, if_pos h]
end VS
-- VRun
set_option Elab.async false
set_option linter.all false
set_option maxRecDepth 100000
set_option maxHeartbeats 1000000
/-! VRun (printed by genrun.py): running from the head, by simp's pre-lemmas. -/
namespace VS
open PySem L2
def wP (e : Env) (i : Nat) (o : Option T) (Q : Env → Prop) : Prop := i < e.length ∧ Q (e.set i o)
def wH (e : Env) (i : Nat) (P : Prop) : Prop := hasO e i = true ∧ P
def isNonB : T → Bool
  | .non => true
  | _ => false
@[simp] theorem isNonB_non : isNonB .non = true := rfl
@[simp] theorem isNonB_tup {xs : List T} : isNonB (.tup xs) = false := rfl
@[simp] theorem isNonB_lst {xs : List T} : isNonB (.lst xs) = false := rfl
@[simp] theorem isNonB_int {i : Int} : isNonB (.int i) = false := rfl
@[simp] theorem isNonB_str {i : Str} : isNonB (.str i) = false := rfl
@[simp] theorem isNonB_bl {i : Bool} : isNonB (.bl i) = false := rfl
def wAt (xs : List T) (i : Int) (Q : T → Prop) : Prop := wO (atI xs i) Q
theorem wO_eq {α : Type} {o : Option α} {x : α} (h : o = some x) (Q : α → Prop) : wO o Q = Q x := by subst h; rfl
theorem wE_eq {α : Type} {o : Out α} {x : α} {e : Env} (h : o = .ok x e) (Q : α → Env → Prop) : wE o Q = Q x e := by subst h; rfl
theorem wE_out {α : Type} {o : Out α} {x : α} {e : Env} (h : wE o fun y f => y = x ∧ f = e) : o = .ok x e := by
  cases o with
  | ok y f => obtain ⟨rfl, rfl⟩ := h; rfl
  | exc _ _ => exact h.elim
  | stk => exact h.elim
theorem wE_ex {o : Out T} {Q : T → Env → Prop} (h : wE o Q) : ∃ v e, o = .ok v e ∧ Q v e := wE_get h

@[simp ↓] theorem r_wI0 {t : T} {e : Env} {Q : T → Prop} : wI (some t :: e) 0 Q = Q t := rfl
@[simp ↓] theorem r_wP0 {y o : Option T} {e : Env} {Q : Env → Prop} : wP (y :: e) 0 o Q = Q (o :: e) := by simp [wP]
@[simp ↓] theorem r_wI1 {x0 : Option T} {t : T} {e : Env} {Q : T → Prop} : wI (x0 :: some t :: e) 1 Q = Q t := rfl
@[simp ↓] theorem r_wP1 {x0 : Option T} {y o : Option T} {e : Env} {Q : Env → Prop} : wP (x0 :: y :: e) 1 o Q = Q (x0 :: o :: e) := by simp [wP]
@[simp ↓] theorem r_wI2 {x0 x1 : Option T} {t : T} {e : Env} {Q : T → Prop} : wI (x0 :: x1 :: some t :: e) 2 Q = Q t := rfl
@[simp ↓] theorem r_wP2 {x0 x1 : Option T} {y o : Option T} {e : Env} {Q : Env → Prop} : wP (x0 :: x1 :: y :: e) 2 o Q = Q (x0 :: x1 :: o :: e) := by simp [wP]
@[simp ↓] theorem r_wI3 {x0 x1 x2 : Option T} {t : T} {e : Env} {Q : T → Prop} : wI (x0 :: x1 :: x2 :: some t :: e) 3 Q = Q t := rfl
@[simp ↓] theorem r_wP3 {x0 x1 x2 : Option T} {y o : Option T} {e : Env} {Q : Env → Prop} : wP (x0 :: x1 :: x2 :: y :: e) 3 o Q = Q (x0 :: x1 :: x2 :: o :: e) := by simp [wP]
@[simp ↓] theorem r_wI4 {x0 x1 x2 x3 : Option T} {t : T} {e : Env} {Q : T → Prop} : wI (x0 :: x1 :: x2 :: x3 :: some t :: e) 4 Q = Q t := rfl
@[simp ↓] theorem r_wP4 {x0 x1 x2 x3 : Option T} {y o : Option T} {e : Env} {Q : Env → Prop} : wP (x0 :: x1 :: x2 :: x3 :: y :: e) 4 o Q = Q (x0 :: x1 :: x2 :: x3 :: o :: e) := by simp [wP]
@[simp ↓] theorem r_wI5 {x0 x1 x2 x3 x4 : Option T} {t : T} {e : Env} {Q : T → Prop} : wI (x0 :: x1 :: x2 :: x3 :: x4 :: some t :: e) 5 Q = Q t := rfl
@[simp ↓] theorem r_wP5 {x0 x1 x2 x3 x4 : Option T} {y o : Option T} {e : Env} {Q : Env → Prop} : wP (x0 :: x1 :: x2 :: x3 :: x4 :: y :: e) 5 o Q = Q (x0 :: x1 :: x2 :: x3 :: x4 :: o :: e) := by simp [wP]
@[simp ↓] theorem r_wI6 {x0 x1 x2 x3 x4 x5 : Option T} {t : T} {e : Env} {Q : T → Prop} : wI (x0 :: x1 :: x2 :: x3 :: x4 :: x5 :: some t :: e) 6 Q = Q t := rfl
@[simp ↓] theorem r_wP6 {x0 x1 x2 x3 x4 x5 : Option T} {y o : Option T} {e : Env} {Q : Env → Prop} : wP (x0 :: x1 :: x2 :: x3 :: x4 :: x5 :: y :: e) 6 o Q = Q (x0 :: x1 :: x2 :: x3 :: x4 :: x5 :: o :: e) := by simp [wP]
@[simp ↓] theorem r_wI7 {x0 x1 x2 x3 x4 x5 x6 : Option T} {t : T} {e : Env} {Q : T → Prop} : wI (x0 :: x1 :: x2 :: x3 :: x4 :: x5 :: x6 :: some t :: e) 7 Q = Q t := rfl
@[simp ↓] theorem r_wP7 {x0 x1 x2 x3 x4 x5 x6 : Option T} {y o : Option T} {e : Env} {Q : Env → Prop} : wP (x0 :: x1 :: x2 :: x3 :: x4 :: x5 :: x6 :: y :: e) 7 o Q = Q (x0 :: x1 :: x2 :: x3 :: x4 :: x5 :: x6 :: o :: e) := by simp [wP]
@[simp ↓] theorem r_wI8 {x0 x1 x2 x3 x4 x5 x6 x7 : Option T} {t : T} {e : Env} {Q : T → Prop} : wI (x0 :: x1 :: x2 :: x3 :: x4 :: x5 :: x6 :: x7 :: some t :: e) 8 Q = Q t := rfl
@[simp ↓] theorem r_wP8 {x0 x1 x2 x3 x4 x5 x6 x7 : Option T} {y o : Option T} {e : Env} {Q : Env → Prop} : wP (x0 :: x1 :: x2 :: x3 :: x4 :: x5 :: x6 :: x7 :: y :: e) 8 o Q = Q (x0 :: x1 :: x2 :: x3 :: x4 :: x5 :: x6 :: x7 :: o :: e) := by simp [wP]
@[simp ↓] theorem r_wI9 {x0 x1 x2 x3 x4 x5 x6 x7 x8 : Option T} {t : T} {e : Env} {Q : T → Prop} : wI (x0 :: x1 :: x2 :: x3 :: x4 :: x5 :: x6 :: x7 :: x8 :: some t :: e) 9 Q = Q t := rfl
@[simp ↓] theorem r_wP9 {x0 x1 x2 x3 x4 x5 x6 x7 x8 : Option T} {y o : Option T} {e : Env} {Q : Env → Prop} : wP (x0 :: x1 :: x2 :: x3 :: x4 :: x5 :: x6 :: x7 :: x8 :: y :: e) 9 o Q = Q (x0 :: x1 :: x2 :: x3 :: x4 :: x5 :: x6 :: x7 :: x8 :: o :: e) := by simp [wP]
@[simp ↓] theorem r_wI10 {x0 x1 x2 x3 x4 x5 x6 x7 x8 x9 : Option T} {t : T} {e : Env} {Q : T → Prop} : wI (x0 :: x1 :: x2 :: x3 :: x4 :: x5 :: x6 :: x7 :: x8 :: x9 :: some t :: e) 10 Q = Q t := rfl
@[simp ↓] theorem r_wP10 {x0 x1 x2 x3 x4 x5 x6 x7 x8 x9 : Option T} {y o : Option T} {e : Env} {Q : Env → Prop} : wP (x0 :: x1 :: x2 :: x3 :: x4 :: x5 :: x6 :: x7 :: x8 :: x9 :: y :: e) 10 o Q = Q (x0 :: x1 :: x2 :: x3 :: x4 :: x5 :: x6 :: x7 :: x8 :: x9 :: o :: e) := by simp [wP]
@[simp ↓] theorem r_wI11 {x0 x1 x2 x3 x4 x5 x6 x7 x8 x9 x10 : Option T} {t : T} {e : Env} {Q : T → Prop} : wI (x0 :: x1 :: x2 :: x3 :: x4 :: x5 :: x6 :: x7 :: x8 :: x9 :: x10 :: some t :: e) 11 Q = Q t := rfl
@[simp ↓] theorem r_wP11 {x0 x1 x2 x3 x4 x5 x6 x7 x8 x9 x10 : Option T} {y o : Option T} {e : Env} {Q : Env → Prop} : wP (x0 :: x1 :: x2 :: x3 :: x4 :: x5 :: x6 :: x7 :: x8 :: x9 :: x10 :: y :: e) 11 o Q = Q (x0 :: x1 :: x2 :: x3 :: x4 :: x5 :: x6 :: x7 :: x8 :: x9 :: x10 :: o :: e) := by simp [wP]
@[simp ↓] theorem r_wI12 {x0 x1 x2 x3 x4 x5 x6 x7 x8 x9 x10 x11 : Option T} {t : T} {e : Env} {Q : T → Prop} : wI (x0 :: x1 :: x2 :: x3 :: x4 :: x5 :: x6 :: x7 :: x8 :: x9 :: x10 :: x11 :: some t :: e) 12 Q = Q t := rfl
@[simp ↓] theorem r_wP12 {x0 x1 x2 x3 x4 x5 x6 x7 x8 x9 x10 x11 : Option T} {y o : Option T} {e : Env} {Q : Env → Prop} : wP (x0 :: x1 :: x2 :: x3 :: x4 :: x5 :: x6 :: x7 :: x8 :: x9 :: x10 :: x11 :: y :: e) 12 o Q = Q (x0 :: x1 :: x2 :: x3 :: x4 :: x5 :: x6 :: x7 :: x8 :: x9 :: x10 :: x11 :: o :: e) := by simp [wP]
@[simp ↓] theorem r_wI13 {x0 x1 x2 x3 x4 x5 x6 x7 x8 x9 x10 x11 x12 : Option T} {t : T} {e : Env} {Q : T → Prop} : wI (x0 :: x1 :: x2 :: x3 :: x4 :: x5 :: x6 :: x7 :: x8 :: x9 :: x10 :: x11 :: x12 :: some t :: e) 13 Q = Q t := rfl
@[simp ↓] theorem r_wP13 {x0 x1 x2 x3 x4 x5 x6 x7 x8 x9 x10 x11 x12 : Option T} {y o : Option T} {e : Env} {Q : Env → Prop} : wP (x0 :: x1 :: x2 :: x3 :: x4 :: x5 :: x6 :: x7 :: x8 :: x9 :: x10 :: x11 :: x12 :: y :: e) 13 o Q = Q (x0 :: x1 :: x2 :: x3 :: x4 :: x5 :: x6 :: x7 :: x8 :: x9 :: x10 :: x11 :: x12 :: o :: e) := by simp [wP]
@[simp ↓] theorem r_wI14 {x0 x1 x2 x3 x4 x5 x6 x7 x8 x9 x10 x11 x12 x13 : Option T} {t : T} {e : Env} {Q : T → Prop} : wI (x0 :: x1 :: x2 :: x3 :: x4 :: x5 :: x6 :: x7 :: x8 :: x9 :: x10 :: x11 :: x12 :: x13 :: some t :: e) 14 Q = Q t := rfl
@[simp ↓] theorem r_wP14 {x0 x1 x2 x3 x4 x5 x6 x7 x8 x9 x10 x11 x12 x13 : Option T} {y o : Option T} {e : Env} {Q : Env → Prop} : wP (x0 :: x1 :: x2 :: x3 :: x4 :: x5 :: x6 :: x7 :: x8 :: x9 :: x10 :: x11 :: x12 :: x13 :: y :: e) 14 o Q = Q (x0 :: x1 :: x2 :: x3 :: x4 :: x5 :: x6 :: x7 :: x8 :: x9 :: x10 :: x11 :: x12 :: x13 :: o :: e) := by simp [wP]
@[simp ↓] theorem r_wI15 {x0 x1 x2 x3 x4 x5 x6 x7 x8 x9 x10 x11 x12 x13 x14 : Option T} {t : T} {e : Env} {Q : T → Prop} : wI (x0 :: x1 :: x2 :: x3 :: x4 :: x5 :: x6 :: x7 :: x8 :: x9 :: x10 :: x11 :: x12 :: x13 :: x14 :: some t :: e) 15 Q = Q t := rfl
@[simp ↓] theorem r_wP15 {x0 x1 x2 x3 x4 x5 x6 x7 x8 x9 x10 x11 x12 x13 x14 : Option T} {y o : Option T} {e : Env} {Q : Env → Prop} : wP (x0 :: x1 :: x2 :: x3 :: x4 :: x5 :: x6 :: x7 :: x8 :: x9 :: x10 :: x11 :: x12 :: x13 :: x14 :: y :: e) 15 o Q = Q (x0 :: x1 :: x2 :: x3 :: x4 :: x5 :: x6 :: x7 :: x8 :: x9 :: x10 :: x11 :: x12 :: x13 :: x14 :: o :: e) := by simp [wP]
@[simp ↓] theorem r_wI16 {x0 x1 x2 x3 x4 x5 x6 x7 x8 x9 x10 x11 x12 x13 x14 x15 : Option T} {t : T} {e : Env} {Q : T → Prop} : wI (x0 :: x1 :: x2 :: x3 :: x4 :: x5 :: x6 :: x7 :: x8 :: x9 :: x10 :: x11 :: x12 :: x13 :: x14 :: x15 :: some t :: e) 16 Q = Q t := rfl
@[simp ↓] theorem r_wP16 {x0 x1 x2 x3 x4 x5 x6 x7 x8 x9 x10 x11 x12 x13 x14 x15 : Option T} {y o : Option T} {e : Env} {Q : Env → Prop} : wP (x0 :: x1 :: x2 :: x3 :: x4 :: x5 :: x6 :: x7 :: x8 :: x9 :: x10 :: x11 :: x12 :: x13 :: x14 :: x15 :: y :: e) 16 o Q = Q (x0 :: x1 :: x2 :: x3 :: x4 :: x5 :: x6 :: x7 :: x8 :: x9 :: x10 :: x11 :: x12 :: x13 :: x14 :: x15 :: o :: e) := by simp [wP]
@[simp ↓] theorem r_wI17 {x0 x1 x2 x3 x4 x5 x6 x7 x8 x9 x10 x11 x12 x13 x14 x15 x16 : Option T} {t : T} {e : Env} {Q : T → Prop} : wI (x0 :: x1 :: x2 :: x3 :: x4 :: x5 :: x6 :: x7 :: x8 :: x9 :: x10 :: x11 :: x12 :: x13 :: x14 :: x15 :: x16 :: some t :: e) 17 Q = Q t := rfl
@[simp ↓] theorem r_wP17 {x0 x1 x2 x3 x4 x5 x6 x7 x8 x9 x10 x11 x12 x13 x14 x15 x16 : Option T} {y o : Option T} {e : Env} {Q : Env → Prop} : wP (x0 :: x1 :: x2 :: x3 :: x4 :: x5 :: x6 :: x7 :: x8 :: x9 :: x10 :: x11 :: x12 :: x13 :: x14 :: x15 :: x16 :: y :: e) 17 o Q = Q (x0 :: x1 :: x2 :: x3 :: x4 :: x5 :: x6 :: x7 :: x8 :: x9 :: x10 :: x11 :: x12 :: x13 :: x14 :: x15 :: x16 :: o :: e) := by simp [wP]
@[simp ↓] theorem r_wI18 {x0 x1 x2 x3 x4 x5 x6 x7 x8 x9 x10 x11 x12 x13 x14 x15 x16 x17 : Option T} {t : T} {e : Env} {Q : T → Prop} : wI (x0 :: x1 :: x2 :: x3 :: x4 :: x5 :: x6 :: x7 :: x8 :: x9 :: x10 :: x11 :: x12 :: x13 :: x14 :: x15 :: x16 :: x17 :: some t :: e) 18 Q = Q t := rfl
@[simp ↓] theorem r_wP18 {x0 x1 x2 x3 x4 x5 x6 x7 x8 x9 x10 x11 x12 x13 x14 x15 x16 x17 : Option T} {y o : Option T} {e : Env} {Q : Env → Prop} : wP (x0 :: x1 :: x2 :: x3 :: x4 :: x5 :: x6 :: x7 :: x8 :: x9 :: x10 :: x11 :: x12 :: x13 :: x14 :: x15 :: x16 :: x17 :: y :: e) 18 o Q = Q (x0 :: x1 :: x2 :: x3 :: x4 :: x5 :: x6 :: x7 :: x8 :: x9 :: x10 :: x11 :: x12 :: x13 :: x14 :: x15 :: x16 :: x17 :: o :: e) := by simp [wP]
@[simp ↓] theorem r_wI19 {x0 x1 x2 x3 x4 x5 x6 x7 x8 x9 x10 x11 x12 x13 x14 x15 x16 x17 x18 : Option T} {t : T} {e : Env} {Q : T → Prop} : wI (x0 :: x1 :: x2 :: x3 :: x4 :: x5 :: x6 :: x7 :: x8 :: x9 :: x10 :: x11 :: x12 :: x13 :: x14 :: x15 :: x16 :: x17 :: x18 :: some t :: e) 19 Q = Q t := rfl
@[simp ↓] theorem r_wP19 {x0 x1 x2 x3 x4 x5 x6 x7 x8 x9 x10 x11 x12 x13 x14 x15 x16 x17 x18 : Option T} {y o : Option T} {e : Env} {Q : Env → Prop} : wP (x0 :: x1 :: x2 :: x3 :: x4 :: x5 :: x6 :: x7 :: x8 :: x9 :: x10 :: x11 :: x12 :: x13 :: x14 :: x15 :: x16 :: x17 :: x18 :: y :: e) 19 o Q = Q (x0 :: x1 :: x2 :: x3 :: x4 :: x5 :: x6 :: x7 :: x8 :: x9 :: x10 :: x11 :: x12 :: x13 :: x14 :: x15 :: x16 :: x17 :: x18 :: o :: e) := by simp [wP]
@[simp ↓] theorem r_wI20 {x0 x1 x2 x3 x4 x5 x6 x7 x8 x9 x10 x11 x12 x13 x14 x15 x16 x17 x18 x19 : Option T} {t : T} {e : Env} {Q : T → Prop} : wI (x0 :: x1 :: x2 :: x3 :: x4 :: x5 :: x6 :: x7 :: x8 :: x9 :: x10 :: x11 :: x12 :: x13 :: x14 :: x15 :: x16 :: x17 :: x18 :: x19 :: some t :: e) 20 Q = Q t := rfl
@[simp ↓] theorem r_wP20 {x0 x1 x2 x3 x4 x5 x6 x7 x8 x9 x10 x11 x12 x13 x14 x15 x16 x17 x18 x19 : Option T} {y o : Option T} {e : Env} {Q : Env → Prop} : wP (x0 :: x1 :: x2 :: x3 :: x4 :: x5 :: x6 :: x7 :: x8 :: x9 :: x10 :: x11 :: x12 :: x13 :: x14 :: x15 :: x16 :: x17 :: x18 :: x19 :: y :: e) 20 o Q = Q (x0 :: x1 :: x2 :: x3 :: x4 :: x5 :: x6 :: x7 :: x8 :: x9 :: x10 :: x11 :: x12 :: x13 :: x14 :: x15 :: x16 :: x17 :: x18 :: x19 :: o :: e) := by simp [wP]
@[simp ↓] theorem r_wI21 {x0 x1 x2 x3 x4 x5 x6 x7 x8 x9 x10 x11 x12 x13 x14 x15 x16 x17 x18 x19 x20 : Option T} {t : T} {e : Env} {Q : T → Prop} : wI (x0 :: x1 :: x2 :: x3 :: x4 :: x5 :: x6 :: x7 :: x8 :: x9 :: x10 :: x11 :: x12 :: x13 :: x14 :: x15 :: x16 :: x17 :: x18 :: x19 :: x20 :: some t :: e) 21 Q = Q t := rfl
@[simp ↓] theorem r_wP21 {x0 x1 x2 x3 x4 x5 x6 x7 x8 x9 x10 x11 x12 x13 x14 x15 x16 x17 x18 x19 x20 : Option T} {y o : Option T} {e : Env} {Q : Env → Prop} : wP (x0 :: x1 :: x2 :: x3 :: x4 :: x5 :: x6 :: x7 :: x8 :: x9 :: x10 :: x11 :: x12 :: x13 :: x14 :: x15 :: x16 :: x17 :: x18 :: x19 :: x20 :: y :: e) 21 o Q = Q (x0 :: x1 :: x2 :: x3 :: x4 :: x5 :: x6 :: x7 :: x8 :: x9 :: x10 :: x11 :: x12 :: x13 :: x14 :: x15 :: x16 :: x17 :: x18 :: x19 :: x20 :: o :: e) := by simp [wP]
@[simp ↓] theorem r_wI22 {x0 x1 x2 x3 x4 x5 x6 x7 x8 x9 x10 x11 x12 x13 x14 x15 x16 x17 x18 x19 x20 x21 : Option T} {t : T} {e : Env} {Q : T → Prop} : wI (x0 :: x1 :: x2 :: x3 :: x4 :: x5 :: x6 :: x7 :: x8 :: x9 :: x10 :: x11 :: x12 :: x13 :: x14 :: x15 :: x16 :: x17 :: x18 :: x19 :: x20 :: x21 :: some t :: e) 22 Q = Q t := rfl
@[simp ↓] theorem r_wP22 {x0 x1 x2 x3 x4 x5 x6 x7 x8 x9 x10 x11 x12 x13 x14 x15 x16 x17 x18 x19 x20 x21 : Option T} {y o : Option T} {e : Env} {Q : Env → Prop} : wP (x0 :: x1 :: x2 :: x3 :: x4 :: x5 :: x6 :: x7 :: x8 :: x9 :: x10 :: x11 :: x12 :: x13 :: x14 :: x15 :: x16 :: x17 :: x18 :: x19 :: x20 :: x21 :: y :: e) 22 o Q = Q (x0 :: x1 :: x2 :: x3 :: x4 :: x5 :: x6 :: x7 :: x8 :: x9 :: x10 :: x11 :: x12 :: x13 :: x14 :: x15 :: x16 :: x17 :: x18 :: x19 :: x20 :: x21 :: o :: e) := by simp [wP]
@[simp ↓] theorem r_wI23 {x0 x1 x2 x3 x4 x5 x6 x7 x8 x9 x10 x11 x12 x13 x14 x15 x16 x17 x18 x19 x20 x21 x22 : Option T} {t : T} {e : Env} {Q : T → Prop} : wI (x0 :: x1 :: x2 :: x3 :: x4 :: x5 :: x6 :: x7 :: x8 :: x9 :: x10 :: x11 :: x12 :: x13 :: x14 :: x15 :: x16 :: x17 :: x18 :: x19 :: x20 :: x21 :: x22 :: some t :: e) 23 Q = Q t := rfl
@[simp ↓] theorem r_wP23 {x0 x1 x2 x3 x4 x5 x6 x7 x8 x9 x10 x11 x12 x13 x14 x15 x16 x17 x18 x19 x20 x21 x22 : Option T} {y o : Option T} {e : Env} {Q : Env → Prop} : wP (x0 :: x1 :: x2 :: x3 :: x4 :: x5 :: x6 :: x7 :: x8 :: x9 :: x10 :: x11 :: x12 :: x13 :: x14 :: x15 :: x16 :: x17 :: x18 :: x19 :: x20 :: x21 :: x22 :: y :: e) 23 o Q = Q (x0 :: x1 :: x2 :: x3 :: x4 :: x5 :: x6 :: x7 :: x8 :: x9 :: x10 :: x11 :: x12 :: x13 :: x14 :: x15 :: x16 :: x17 :: x18 :: x19 :: x20 :: x21 :: x22 :: o :: e) := by simp [wP]
@[simp ↓] theorem r_wI24 {x0 x1 x2 x3 x4 x5 x6 x7 x8 x9 x10 x11 x12 x13 x14 x15 x16 x17 x18 x19 x20 x21 x22 x23 : Option T} {t : T} {e : Env} {Q : T → Prop} : wI (x0 :: x1 :: x2 :: x3 :: x4 :: x5 :: x6 :: x7 :: x8 :: x9 :: x10 :: x11 :: x12 :: x13 :: x14 :: x15 :: x16 :: x17 :: x18 :: x19 :: x20 :: x21 :: x22 :: x23 :: some t :: e) 24 Q = Q t := rfl
@[simp ↓] theorem r_wP24 {x0 x1 x2 x3 x4 x5 x6 x7 x8 x9 x10 x11 x12 x13 x14 x15 x16 x17 x18 x19 x20 x21 x22 x23 : Option T} {y o : Option T} {e : Env} {Q : Env → Prop} : wP (x0 :: x1 :: x2 :: x3 :: x4 :: x5 :: x6 :: x7 :: x8 :: x9 :: x10 :: x11 :: x12 :: x13 :: x14 :: x15 :: x16 :: x17 :: x18 :: x19 :: x20 :: x21 :: x22 :: x23 :: y :: e) 24 o Q = Q (x0 :: x1 :: x2 :: x3 :: x4 :: x5 :: x6 :: x7 :: x8 :: x9 :: x10 :: x11 :: x12 :: x13 :: x14 :: x15 :: x16 :: x17 :: x18 :: x19 :: x20 :: x21 :: x22 :: x23 :: o :: e) := by simp [wP]
@[simp ↓] theorem r_wI25 {x0 x1 x2 x3 x4 x5 x6 x7 x8 x9 x10 x11 x12 x13 x14 x15 x16 x17 x18 x19 x20 x21 x22 x23 x24 : Option T} {t : T} {e : Env} {Q : T → Prop} : wI (x0 :: x1 :: x2 :: x3 :: x4 :: x5 :: x6 :: x7 :: x8 :: x9 :: x10 :: x11 :: x12 :: x13 :: x14 :: x15 :: x16 :: x17 :: x18 :: x19 :: x20 :: x21 :: x22 :: x23 :: x24 :: some t :: e) 25 Q = Q t := rfl
@[simp ↓] theorem r_wP25 {x0 x1 x2 x3 x4 x5 x6 x7 x8 x9 x10 x11 x12 x13 x14 x15 x16 x17 x18 x19 x20 x21 x22 x23 x24 : Option T} {y o : Option T} {e : Env} {Q : Env → Prop} : wP (x0 :: x1 :: x2 :: x3 :: x4 :: x5 :: x6 :: x7 :: x8 :: x9 :: x10 :: x11 :: x12 :: x13 :: x14 :: x15 :: x16 :: x17 :: x18 :: x19 :: x20 :: x21 :: x22 :: x23 :: x24 :: y :: e) 25 o Q = Q (x0 :: x1 :: x2 :: x3 :: x4 :: x5 :: x6 :: x7 :: x8 :: x9 :: x10 :: x11 :: x12 :: x13 :: x14 :: x15 :: x16 :: x17 :: x18 :: x19 :: x20 :: x21 :: x22 :: x23 :: x24 :: o :: e) := by simp [wP]
@[simp ↓] theorem r_wX0 {ts : List T} {e : Env} {Q : List T → Prop} : wX (some (.lst ts) :: e) 0 Q = Q ts := rfl
@[simp ↓] theorem r_wH0 {t : T} {e : Env} {P : Prop} : wH (some t :: e) 0 P = P := by simp [wH, hasO]
@[simp ↓] theorem r_wX1 {x0 : Option T} {ts : List T} {e : Env} {Q : List T → Prop} : wX (x0 :: some (.lst ts) :: e) 1 Q = Q ts := rfl
@[simp ↓] theorem r_wH1 {x0 : Option T} {t : T} {e : Env} {P : Prop} : wH (x0 :: some t :: e) 1 P = P := by simp [wH, hasO]
@[simp ↓] theorem r_wX2 {x0 x1 : Option T} {ts : List T} {e : Env} {Q : List T → Prop} : wX (x0 :: x1 :: some (.lst ts) :: e) 2 Q = Q ts := rfl
@[simp ↓] theorem r_wH2 {x0 x1 : Option T} {t : T} {e : Env} {P : Prop} : wH (x0 :: x1 :: some t :: e) 2 P = P := by simp [wH, hasO]
@[simp ↓] theorem r_wX3 {x0 x1 x2 : Option T} {ts : List T} {e : Env} {Q : List T → Prop} : wX (x0 :: x1 :: x2 :: some (.lst ts) :: e) 3 Q = Q ts := rfl
@[simp ↓] theorem r_wH3 {x0 x1 x2 : Option T} {t : T} {e : Env} {P : Prop} : wH (x0 :: x1 :: x2 :: some t :: e) 3 P = P := by simp [wH, hasO]
@[simp ↓] theorem r_wX4 {x0 x1 x2 x3 : Option T} {ts : List T} {e : Env} {Q : List T → Prop} : wX (x0 :: x1 :: x2 :: x3 :: some (.lst ts) :: e) 4 Q = Q ts := rfl
@[simp ↓] theorem r_wH4 {x0 x1 x2 x3 : Option T} {t : T} {e : Env} {P : Prop} : wH (x0 :: x1 :: x2 :: x3 :: some t :: e) 4 P = P := by simp [wH, hasO]
@[simp ↓] theorem r_wX5 {x0 x1 x2 x3 x4 : Option T} {ts : List T} {e : Env} {Q : List T → Prop} : wX (x0 :: x1 :: x2 :: x3 :: x4 :: some (.lst ts) :: e) 5 Q = Q ts := rfl
@[simp ↓] theorem r_wH5 {x0 x1 x2 x3 x4 : Option T} {t : T} {e : Env} {P : Prop} : wH (x0 :: x1 :: x2 :: x3 :: x4 :: some t :: e) 5 P = P := by simp [wH, hasO]
@[simp ↓] theorem r_wX6 {x0 x1 x2 x3 x4 x5 : Option T} {ts : List T} {e : Env} {Q : List T → Prop} : wX (x0 :: x1 :: x2 :: x3 :: x4 :: x5 :: some (.lst ts) :: e) 6 Q = Q ts := rfl
@[simp ↓] theorem r_wH6 {x0 x1 x2 x3 x4 x5 : Option T} {t : T} {e : Env} {P : Prop} : wH (x0 :: x1 :: x2 :: x3 :: x4 :: x5 :: some t :: e) 6 P = P := by simp [wH, hasO]
@[simp ↓] theorem r_wX7 {x0 x1 x2 x3 x4 x5 x6 : Option T} {ts : List T} {e : Env} {Q : List T → Prop} : wX (x0 :: x1 :: x2 :: x3 :: x4 :: x5 :: x6 :: some (.lst ts) :: e) 7 Q = Q ts := rfl
@[simp ↓] theorem r_wH7 {x0 x1 x2 x3 x4 x5 x6 : Option T} {t : T} {e : Env} {P : Prop} : wH (x0 :: x1 :: x2 :: x3 :: x4 :: x5 :: x6 :: some t :: e) 7 P = P := by simp [wH, hasO]
@[simp ↓] theorem r_wX8 {x0 x1 x2 x3 x4 x5 x6 x7 : Option T} {ts : List T} {e : Env} {Q : List T → Prop} : wX (x0 :: x1 :: x2 :: x3 :: x4 :: x5 :: x6 :: x7 :: some (.lst ts) :: e) 8 Q = Q ts := rfl
@[simp ↓] theorem r_wH8 {x0 x1 x2 x3 x4 x5 x6 x7 : Option T} {t : T} {e : Env} {P : Prop} : wH (x0 :: x1 :: x2 :: x3 :: x4 :: x5 :: x6 :: x7 :: some t :: e) 8 P = P := by simp [wH, hasO]
@[simp ↓] theorem r_wX9 {x0 x1 x2 x3 x4 x5 x6 x7 x8 : Option T} {ts : List T} {e : Env} {Q : List T → Prop} : wX (x0 :: x1 :: x2 :: x3 :: x4 :: x5 :: x6 :: x7 :: x8 :: some (.lst ts) :: e) 9 Q = Q ts := rfl
@[simp ↓] theorem r_wH9 {x0 x1 x2 x3 x4 x5 x6 x7 x8 : Option T} {t : T} {e : Env} {P : Prop} : wH (x0 :: x1 :: x2 :: x3 :: x4 :: x5 :: x6 :: x7 :: x8 :: some t :: e) 9 P = P := by simp [wH, hasO]
@[simp ↓] theorem r_wX10 {x0 x1 x2 x3 x4 x5 x6 x7 x8 x9 : Option T} {ts : List T} {e : Env} {Q : List T → Prop} : wX (x0 :: x1 :: x2 :: x3 :: x4 :: x5 :: x6 :: x7 :: x8 :: x9 :: some (.lst ts) :: e) 10 Q = Q ts := rfl
@[simp ↓] theorem r_wH10 {x0 x1 x2 x3 x4 x5 x6 x7 x8 x9 : Option T} {t : T} {e : Env} {P : Prop} : wH (x0 :: x1 :: x2 :: x3 :: x4 :: x5 :: x6 :: x7 :: x8 :: x9 :: some t :: e) 10 P = P := by simp [wH, hasO]
@[simp ↓] theorem r_wX11 {x0 x1 x2 x3 x4 x5 x6 x7 x8 x9 x10 : Option T} {ts : List T} {e : Env} {Q : List T → Prop} : wX (x0 :: x1 :: x2 :: x3 :: x4 :: x5 :: x6 :: x7 :: x8 :: x9 :: x10 :: some (.lst ts) :: e) 11 Q = Q ts := rfl
@[simp ↓] theorem r_wH11 {x0 x1 x2 x3 x4 x5 x6 x7 x8 x9 x10 : Option T} {t : T} {e : Env} {P : Prop} : wH (x0 :: x1 :: x2 :: x3 :: x4 :: x5 :: x6 :: x7 :: x8 :: x9 :: x10 :: some t :: e) 11 P = P := by simp [wH, hasO]
@[simp ↓] theorem r_wX12 {x0 x1 x2 x3 x4 x5 x6 x7 x8 x9 x10 x11 : Option T} {ts : List T} {e : Env} {Q : List T → Prop} : wX (x0 :: x1 :: x2 :: x3 :: x4 :: x5 :: x6 :: x7 :: x8 :: x9 :: x10 :: x11 :: some (.lst ts) :: e) 12 Q = Q ts := rfl
@[simp ↓] theorem r_wH12 {x0 x1 x2 x3 x4 x5 x6 x7 x8 x9 x10 x11 : Option T} {t : T} {e : Env} {P : Prop} : wH (x0 :: x1 :: x2 :: x3 :: x4 :: x5 :: x6 :: x7 :: x8 :: x9 :: x10 :: x11 :: some t :: e) 12 P = P := by simp [wH, hasO]
@[simp ↓] theorem r_wX13 {x0 x1 x2 x3 x4 x5 x6 x7 x8 x9 x10 x11 x12 : Option T} {ts : List T} {e : Env} {Q : List T → Prop} : wX (x0 :: x1 :: x2 :: x3 :: x4 :: x5 :: x6 :: x7 :: x8 :: x9 :: x10 :: x11 :: x12 :: some (.lst ts) :: e) 13 Q = Q ts := rfl
@[simp ↓] theorem r_wH13 {x0 x1 x2 x3 x4 x5 x6 x7 x8 x9 x10 x11 x12 : Option T} {t : T} {e : Env} {P : Prop} : wH (x0 :: x1 :: x2 :: x3 :: x4 :: x5 :: x6 :: x7 :: x8 :: x9 :: x10 :: x11 :: x12 :: some t :: e) 13 P = P := by simp [wH, hasO]
@[simp ↓] theorem r_wX14 {x0 x1 x2 x3 x4 x5 x6 x7 x8 x9 x10 x11 x12 x13 : Option T} {ts : List T} {e : Env} {Q : List T → Prop} : wX (x0 :: x1 :: x2 :: x3 :: x4 :: x5 :: x6 :: x7 :: x8 :: x9 :: x10 :: x11 :: x12 :: x13 :: some (.lst ts) :: e) 14 Q = Q ts := rfl
@[simp ↓] theorem r_wH14 {x0 x1 x2 x3 x4 x5 x6 x7 x8 x9 x10 x11 x12 x13 : Option T} {t : T} {e : Env} {P : Prop} : wH (x0 :: x1 :: x2 :: x3 :: x4 :: x5 :: x6 :: x7 :: x8 :: x9 :: x10 :: x11 :: x12 :: x13 :: some t :: e) 14 P = P := by simp [wH, hasO]
@[simp ↓] theorem r_wX15 {x0 x1 x2 x3 x4 x5 x6 x7 x8 x9 x10 x11 x12 x13 x14 : Option T} {ts : List T} {e : Env} {Q : List T → Prop} : wX (x0 :: x1 :: x2 :: x3 :: x4 :: x5 :: x6 :: x7 :: x8 :: x9 :: x10 :: x11 :: x12 :: x13 :: x14 :: some (.lst ts) :: e) 15 Q = Q ts := rfl
@[simp ↓] theorem r_wH15 {x0 x1 x2 x3 x4 x5 x6 x7 x8 x9 x10 x11 x12 x13 x14 : Option T} {t : T} {e : Env} {P : Prop} : wH (x0 :: x1 :: x2 :: x3 :: x4 :: x5 :: x6 :: x7 :: x8 :: x9 :: x10 :: x11 :: x12 :: x13 :: x14 :: some t :: e) 15 P = P := by simp [wH, hasO]
@[simp ↓] theorem r_wX16 {x0 x1 x2 x3 x4 x5 x6 x7 x8 x9 x10 x11 x12 x13 x14 x15 : Option T} {ts : List T} {e : Env} {Q : List T → Prop} : wX (x0 :: x1 :: x2 :: x3 :: x4 :: x5 :: x6 :: x7 :: x8 :: x9 :: x10 :: x11 :: x12 :: x13 :: x14 :: x15 :: some (.lst ts) :: e) 16 Q = Q ts := rfl
@[simp ↓] theorem r_wH16 {x0 x1 x2 x3 x4 x5 x6 x7 x8 x9 x10 x11 x12 x13 x14 x15 : Option T} {t : T} {e : Env} {P : Prop} : wH (x0 :: x1 :: x2 :: x3 :: x4 :: x5 :: x6 :: x7 :: x8 :: x9 :: x10 :: x11 :: x12 :: x13 :: x14 :: x15 :: some t :: e) 16 P = P := by simp [wH, hasO]
@[simp ↓] theorem r_wX17 {x0 x1 x2 x3 x4 x5 x6 x7 x8 x9 x10 x11 x12 x13 x14 x15 x16 : Option T} {ts : List T} {e : Env} {Q : List T → Prop} : wX (x0 :: x1 :: x2 :: x3 :: x4 :: x5 :: x6 :: x7 :: x8 :: x9 :: x10 :: x11 :: x12 :: x13 :: x14 :: x15 :: x16 :: some (.lst ts) :: e) 17 Q = Q ts := rfl
@[simp ↓] theorem r_wH17 {x0 x1 x2 x3 x4 x5 x6 x7 x8 x9 x10 x11 x12 x13 x14 x15 x16 : Option T} {t : T} {e : Env} {P : Prop} : wH (x0 :: x1 :: x2 :: x3 :: x4 :: x5 :: x6 :: x7 :: x8 :: x9 :: x10 :: x11 :: x12 :: x13 :: x14 :: x15 :: x16 :: some t :: e) 17 P = P := by simp [wH, hasO]
@[simp ↓] theorem r_wAt0 {t : T} {ts : List T} {Q : T → Prop} : wAt (t :: ts) 0 Q = Q t := by
  show wO (atI _ ((0 : Nat) : Int)) Q = Q t
  rw [atI_nat]
  rfl
@[simp ↓] theorem r_wAt1 {x0 : T} {t : T} {ts : List T} {Q : T → Prop} : wAt (x0 :: t :: ts) 1 Q = Q t := by
  show wO (atI _ ((1 : Nat) : Int)) Q = Q t
  rw [atI_nat]
  rfl
@[simp ↓] theorem r_wAt2 {x0 x1 : T} {t : T} {ts : List T} {Q : T → Prop} : wAt (x0 :: x1 :: t :: ts) 2 Q = Q t := by
  show wO (atI _ ((2 : Nat) : Int)) Q = Q t
  rw [atI_nat]
  rfl
@[simp ↓] theorem r_wAt3 {x0 x1 x2 : T} {t : T} {ts : List T} {Q : T → Prop} : wAt (x0 :: x1 :: x2 :: t :: ts) 3 Q = Q t := by
  show wO (atI _ ((3 : Nat) : Int)) Q = Q t
  rw [atI_nat]
  rfl
@[simp ↓] theorem r_wAt4 {x0 x1 x2 x3 : T} {t : T} {ts : List T} {Q : T → Prop} : wAt (x0 :: x1 :: x2 :: x3 :: t :: ts) 4 Q = Q t := by
  show wO (atI _ ((4 : Nat) : Int)) Q = Q t
  rw [atI_nat]
  rfl
@[simp ↓] theorem r_wAt5 {x0 x1 x2 x3 x4 : T} {t : T} {ts : List T} {Q : T → Prop} : wAt (x0 :: x1 :: x2 :: x3 :: x4 :: t :: ts) 5 Q = Q t := by
  show wO (atI _ ((5 : Nat) : Int)) Q = Q t
  rw [atI_nat]
  rfl
@[simp ↓] theorem r_wAt6 {x0 x1 x2 x3 x4 x5 : T} {t : T} {ts : List T} {Q : T → Prop} : wAt (x0 :: x1 :: x2 :: x3 :: x4 :: x5 :: t :: ts) 6 Q = Q t := by
  show wO (atI _ ((6 : Nat) : Int)) Q = Q t
  rw [atI_nat]
  rfl
@[simp ↓] theorem r_wAt7 {x0 x1 x2 x3 x4 x5 x6 : T} {t : T} {ts : List T} {Q : T → Prop} : wAt (x0 :: x1 :: x2 :: x3 :: x4 :: x5 :: x6 :: t :: ts) 7 Q = Q t := by
  show wO (atI _ ((7 : Nat) : Int)) Q = Q t
  rw [atI_nat]
  rfl
@[simp ↓] theorem r_wAt8 {x0 x1 x2 x3 x4 x5 x6 x7 : T} {t : T} {ts : List T} {Q : T → Prop} : wAt (x0 :: x1 :: x2 :: x3 :: x4 :: x5 :: x6 :: x7 :: t :: ts) 8 Q = Q t := by
  show wO (atI _ ((8 : Nat) : Int)) Q = Q t
  rw [atI_nat]
  rfl
@[simp ↓] theorem r_wAt9 {x0 x1 x2 x3 x4 x5 x6 x7 x8 : T} {t : T} {ts : List T} {Q : T → Prop} : wAt (x0 :: x1 :: x2 :: x3 :: x4 :: x5 :: x6 :: x7 :: x8 :: t :: ts) 9 Q = Q t := by
  show wO (atI _ ((9 : Nat) : Int)) Q = Q t
  rw [atI_nat]
  rfl
@[simp ↓] theorem r_wAtm0 {t : T} {Q : T → Prop} : wAt [t] (-1) Q = Q t := rfl
@[simp ↓] theorem r_wAtm1 {x0 : T} {t : T} {Q : T → Prop} : wAt [x0, t] (-1) Q = Q t := rfl
@[simp ↓] theorem r_wAtm2 {x0 x1 : T} {t : T} {Q : T → Prop} : wAt [x0, x1, t] (-1) Q = Q t := rfl
@[simp ↓] theorem r_wAtm3 {x0 x1 x2 : T} {t : T} {Q : T → Prop} : wAt [x0, x1, x2, t] (-1) Q = Q t := rfl
@[simp ↓] theorem r_wAtm4 {x0 x1 x2 x3 : T} {t : T} {Q : T → Prop} : wAt [x0, x1, x2, x3, t] (-1) Q = Q t := rfl
@[simp ↓] theorem r_wAtm5 {x0 x1 x2 x3 x4 : T} {t : T} {Q : T → Prop} : wAt [x0, x1, x2, x3, x4, t] (-1) Q = Q t := rfl
@[simp ↓] theorem r_lstF0 {Q : T → Prop} : wO (lstF []) Q = Q (.lst []) := rfl
@[simp ↓] theorem r_tupF0 {Q : T → Prop} : wO (tupF []) Q = Q (.tup []) := rfl
@[simp ↓] theorem r_lstF1 {x0 : T} {Q : T → Prop} : wO (lstF [x0]) Q = Q (.lst [x0]) := rfl
@[simp ↓] theorem r_tupF1 {x0 : T} {Q : T → Prop} : wO (tupF [x0]) Q = Q (.tup [x0]) := rfl
@[simp ↓] theorem r_lstF2 {x0 x1 : T} {Q : T → Prop} : wO (lstF [x0, x1]) Q = Q (.lst [x0, x1]) := rfl
@[simp ↓] theorem r_tupF2 {x0 x1 : T} {Q : T → Prop} : wO (tupF [x0, x1]) Q = Q (.tup [x0, x1]) := rfl
@[simp ↓] theorem r_lstF3 {x0 x1 x2 : T} {Q : T → Prop} : wO (lstF [x0, x1, x2]) Q = Q (.lst [x0, x1, x2]) := rfl
@[simp ↓] theorem r_tupF3 {x0 x1 x2 : T} {Q : T → Prop} : wO (tupF [x0, x1, x2]) Q = Q (.tup [x0, x1, x2]) := rfl
@[simp ↓] theorem r_lstF4 {x0 x1 x2 x3 : T} {Q : T → Prop} : wO (lstF [x0, x1, x2, x3]) Q = Q (.lst [x0, x1, x2, x3]) := rfl
@[simp ↓] theorem r_tupF4 {x0 x1 x2 x3 : T} {Q : T → Prop} : wO (tupF [x0, x1, x2, x3]) Q = Q (.tup [x0, x1, x2, x3]) := rfl
@[simp ↓] theorem r_lstF5 {x0 x1 x2 x3 x4 : T} {Q : T → Prop} : wO (lstF [x0, x1, x2, x3, x4]) Q = Q (.lst [x0, x1, x2, x3, x4]) := rfl
@[simp ↓] theorem r_tupF5 {x0 x1 x2 x3 x4 : T} {Q : T → Prop} : wO (tupF [x0, x1, x2, x3, x4]) Q = Q (.tup [x0, x1, x2, x3, x4]) := rfl
@[simp ↓] theorem r_lstF6 {x0 x1 x2 x3 x4 x5 : T} {Q : T → Prop} : wO (lstF [x0, x1, x2, x3, x4, x5]) Q = Q (.lst [x0, x1, x2, x3, x4, x5]) := rfl
@[simp ↓] theorem r_tupF6 {x0 x1 x2 x3 x4 x5 : T} {Q : T → Prop} : wO (tupF [x0, x1, x2, x3, x4, x5]) Q = Q (.tup [x0, x1, x2, x3, x4, x5]) := rfl
@[simp ↓] theorem r_lstF7 {x0 x1 x2 x3 x4 x5 x6 : T} {Q : T → Prop} : wO (lstF [x0, x1, x2, x3, x4, x5, x6]) Q = Q (.lst [x0, x1, x2, x3, x4, x5, x6]) := rfl
@[simp ↓] theorem r_tupF7 {x0 x1 x2 x3 x4 x5 x6 : T} {Q : T → Prop} : wO (tupF [x0, x1, x2, x3, x4, x5, x6]) Q = Q (.tup [x0, x1, x2, x3, x4, x5, x6]) := rfl
@[simp ↓] theorem r_lstF8 {x0 x1 x2 x3 x4 x5 x6 x7 : T} {Q : T → Prop} : wO (lstF [x0, x1, x2, x3, x4, x5, x6, x7]) Q = Q (.lst [x0, x1, x2, x3, x4, x5, x6, x7]) := rfl
@[simp ↓] theorem r_tupF8 {x0 x1 x2 x3 x4 x5 x6 x7 : T} {Q : T → Prop} : wO (tupF [x0, x1, x2, x3, x4, x5, x6, x7]) Q = Q (.tup [x0, x1, x2, x3, x4, x5, x6, x7]) := rfl
@[simp ↓] theorem r_lstF9 {x0 x1 x2 x3 x4 x5 x6 x7 x8 : T} {Q : T → Prop} : wO (lstF [x0, x1, x2, x3, x4, x5, x6, x7, x8]) Q = Q (.lst [x0, x1, x2, x3, x4, x5, x6, x7, x8]) := rfl
@[simp ↓] theorem r_tupF9 {x0 x1 x2 x3 x4 x5 x6 x7 x8 : T} {Q : T → Prop} : wO (tupF [x0, x1, x2, x3, x4, x5, x6, x7, x8]) Q = Q (.tup [x0, x1, x2, x3, x4, x5, x6, x7, x8]) := rfl
@[simp ↓] theorem r_lstF10 {x0 x1 x2 x3 x4 x5 x6 x7 x8 x9 : T} {Q : T → Prop} : wO (lstF [x0, x1, x2, x3, x4, x5, x6, x7, x8, x9]) Q = Q (.lst [x0, x1, x2, x3, x4, x5, x6, x7, x8, x9]) := rfl
@[simp ↓] theorem r_tupF10 {x0 x1 x2 x3 x4 x5 x6 x7 x8 x9 : T} {Q : T → Prop} : wO (tupF [x0, x1, x2, x3, x4, x5, x6, x7, x8, x9]) Q = Q (.tup [x0, x1, x2, x3, x4, x5, x6, x7, x8, x9]) := rfl
@[simp ↓] theorem r_lstF11 {x0 x1 x2 x3 x4 x5 x6 x7 x8 x9 x10 : T} {Q : T → Prop} : wO (lstF [x0, x1, x2, x3, x4, x5, x6, x7, x8, x9, x10]) Q = Q (.lst [x0, x1, x2, x3, x4, x5, x6, x7, x8, x9, x10]) := rfl
@[simp ↓] theorem r_tupF11 {x0 x1 x2 x3 x4 x5 x6 x7 x8 x9 x10 : T} {Q : T → Prop} : wO (tupF [x0, x1, x2, x3, x4, x5, x6, x7, x8, x9, x10]) Q = Q (.tup [x0, x1, x2, x3, x4, x5, x6, x7, x8, x9, x10]) := rfl
@[simp ↓] theorem r_lstF12 {x0 x1 x2 x3 x4 x5 x6 x7 x8 x9 x10 x11 : T} {Q : T → Prop} : wO (lstF [x0, x1, x2, x3, x4, x5, x6, x7, x8, x9, x10, x11]) Q = Q (.lst [x0, x1, x2, x3, x4, x5, x6, x7, x8, x9, x10, x11]) := rfl
@[simp ↓] theorem r_tupF12 {x0 x1 x2 x3 x4 x5 x6 x7 x8 x9 x10 x11 : T} {Q : T → Prop} : wO (tupF [x0, x1, x2, x3, x4, x5, x6, x7, x8, x9, x10, x11]) Q = Q (.tup [x0, x1, x2, x3, x4, x5, x6, x7, x8, x9, x10, x11]) := rfl
@[simp ↓] theorem r_lstF13 {x0 x1 x2 x3 x4 x5 x6 x7 x8 x9 x10 x11 x12 : T} {Q : T → Prop} : wO (lstF [x0, x1, x2, x3, x4, x5, x6, x7, x8, x9, x10, x11, x12]) Q = Q (.lst [x0, x1, x2, x3, x4, x5, x6, x7, x8, x9, x10, x11, x12]) := rfl
@[simp ↓] theorem r_tupF13 {x0 x1 x2 x3 x4 x5 x6 x7 x8 x9 x10 x11 x12 : T} {Q : T → Prop} : wO (tupF [x0, x1, x2, x3, x4, x5, x6, x7, x8, x9, x10, x11, x12]) Q = Q (.tup [x0, x1, x2, x3, x4, x5, x6, x7, x8, x9, x10, x11, x12]) := rfl
@[simp ↓] theorem r_lstF14 {x0 x1 x2 x3 x4 x5 x6 x7 x8 x9 x10 x11 x12 x13 : T} {Q : T → Prop} : wO (lstF [x0, x1, x2, x3, x4, x5, x6, x7, x8, x9, x10, x11, x12, x13]) Q = Q (.lst [x0, x1, x2, x3, x4, x5, x6, x7, x8, x9, x10, x11, x12, x13]) := rfl
@[simp ↓] theorem r_tupF14 {x0 x1 x2 x3 x4 x5 x6 x7 x8 x9 x10 x11 x12 x13 : T} {Q : T → Prop} : wO (tupF [x0, x1, x2, x3, x4, x5, x6, x7, x8, x9, x10, x11, x12, x13]) Q = Q (.tup [x0, x1, x2, x3, x4, x5, x6, x7, x8, x9, x10, x11, x12, x13]) := rfl
@[simp ↓] theorem r_lstF15 {x0 x1 x2 x3 x4 x5 x6 x7 x8 x9 x10 x11 x12 x13 x14 : T} {Q : T → Prop} : wO (lstF [x0, x1, x2, x3, x4, x5, x6, x7, x8, x9, x10, x11, x12, x13, x14]) Q = Q (.lst [x0, x1, x2, x3, x4, x5, x6, x7, x8, x9, x10, x11, x12, x13, x14]) := rfl
@[simp ↓] theorem r_tupF15 {x0 x1 x2 x3 x4 x5 x6 x7 x8 x9 x10 x11 x12 x13 x14 : T} {Q : T → Prop} : wO (tupF [x0, x1, x2, x3, x4, x5, x6, x7, x8, x9, x10, x11, x12, x13, x14]) Q = Q (.tup [x0, x1, x2, x3, x4, x5, x6, x7, x8, x9, x10, x11, x12, x13, x14]) := rfl
@[simp ↓] theorem r_lstF16 {x0 x1 x2 x3 x4 x5 x6 x7 x8 x9 x10 x11 x12 x13 x14 x15 : T} {Q : T → Prop} : wO (lstF [x0, x1, x2, x3, x4, x5, x6, x7, x8, x9, x10, x11, x12, x13, x14, x15]) Q = Q (.lst [x0, x1, x2, x3, x4, x5, x6, x7, x8, x9, x10, x11, x12, x13, x14, x15]) := rfl
@[simp ↓] theorem r_tupF16 {x0 x1 x2 x3 x4 x5 x6 x7 x8 x9 x10 x11 x12 x13 x14 x15 : T} {Q : T → Prop} : wO (tupF [x0, x1, x2, x3, x4, x5, x6, x7, x8, x9, x10, x11, x12, x13, x14, x15]) Q = Q (.tup [x0, x1, x2, x3, x4, x5, x6, x7, x8, x9, x10, x11, x12, x13, x14, x15]) := rfl
@[simp ↓] theorem r_inS1 {a b0 : Str} {Q : T → Prop} : wO (inT (.str a) (.tup [.str b0])) Q = Q (.bl (b0 == a)) := by simp [inT, inO, flatT, eqF]
@[simp ↓] theorem r_ninS1 {a b0 : Str} {Q : T → Prop} : wO (notInT (.str a) (.tup [.str b0])) Q = Q (.bl !(b0 == a)) := by simp [notInT, inO, flatT, eqF]
@[simp ↓] theorem r_inS2 {a b0 b1 : Str} {Q : T → Prop} : wO (inT (.str a) (.tup [.str b0, .str b1])) Q = Q (.bl ((b0 == a) || (b1 == a))) := by simp [inT, inO, flatT, eqF]
@[simp ↓] theorem r_ninS2 {a b0 b1 : Str} {Q : T → Prop} : wO (notInT (.str a) (.tup [.str b0, .str b1])) Q = Q (.bl !((b0 == a) || (b1 == a))) := by simp [notInT, inO, flatT, eqF]
@[simp ↓] theorem r_inS3 {a b0 b1 b2 : Str} {Q : T → Prop} : wO (inT (.str a) (.tup [.str b0, .str b1, .str b2])) Q = Q (.bl ((b0 == a) || ((b1 == a) || (b2 == a)))) := by simp [inT, inO, flatT, eqF]
@[simp ↓] theorem r_ninS3 {a b0 b1 b2 : Str} {Q : T → Prop} : wO (notInT (.str a) (.tup [.str b0, .str b1, .str b2])) Q = Q (.bl !((b0 == a) || ((b1 == a) || (b2 == a)))) := by simp [notInT, inO, flatT, eqF]
@[simp ↓] theorem r_inS4 {a b0 b1 b2 b3 : Str} {Q : T → Prop} : wO (inT (.str a) (.tup [.str b0, .str b1, .str b2, .str b3])) Q = Q (.bl ((b0 == a) || ((b1 == a) || ((b2 == a) || (b3 == a))))) := by simp [inT, inO, flatT, eqF]
@[simp ↓] theorem r_ninS4 {a b0 b1 b2 b3 : Str} {Q : T → Prop} : wO (notInT (.str a) (.tup [.str b0, .str b1, .str b2, .str b3])) Q = Q (.bl !((b0 == a) || ((b1 == a) || ((b2 == a) || (b3 == a))))) := by simp [notInT, inO, flatT, eqF]
@[simp ↓] theorem r_inS5 {a b0 b1 b2 b3 b4 : Str} {Q : T → Prop} : wO (inT (.str a) (.tup [.str b0, .str b1, .str b2, .str b3, .str b4])) Q = Q (.bl ((b0 == a) || ((b1 == a) || ((b2 == a) || ((b3 == a) || (b4 == a)))))) := by simp [inT, inO, flatT, eqF]
@[simp ↓] theorem r_ninS5 {a b0 b1 b2 b3 b4 : Str} {Q : T → Prop} : wO (notInT (.str a) (.tup [.str b0, .str b1, .str b2, .str b3, .str b4])) Q = Q (.bl !((b0 == a) || ((b1 == a) || ((b2 == a) || ((b3 == a) || (b4 == a)))))) := by simp [notInT, inO, flatT, eqF]
@[simp ↓] theorem r_inS6 {a b0 b1 b2 b3 b4 b5 : Str} {Q : T → Prop} : wO (inT (.str a) (.tup [.str b0, .str b1, .str b2, .str b3, .str b4, .str b5])) Q = Q (.bl ((b0 == a) || ((b1 == a) || ((b2 == a) || ((b3 == a) || ((b4 == a) || (b5 == a))))))) := by simp [inT, inO, flatT, eqF]
@[simp ↓] theorem r_ninS6 {a b0 b1 b2 b3 b4 b5 : Str} {Q : T → Prop} : wO (notInT (.str a) (.tup [.str b0, .str b1, .str b2, .str b3, .str b4, .str b5])) Q = Q (.bl !((b0 == a) || ((b1 == a) || ((b2 == a) || ((b3 == a) || ((b4 == a) || (b5 == a))))))) := by simp [notInT, inO, flatT, eqF]
@[simp ↓] theorem r_inS7 {a b0 b1 b2 b3 b4 b5 b6 : Str} {Q : T → Prop} : wO (inT (.str a) (.tup [.str b0, .str b1, .str b2, .str b3, .str b4, .str b5, .str b6])) Q = Q (.bl ((b0 == a) || ((b1 == a) || ((b2 == a) || ((b3 == a) || ((b4 == a) || ((b5 == a) || (b6 == a)))))))) := by simp [inT, inO, flatT, eqF]
@[simp ↓] theorem r_ninS7 {a b0 b1 b2 b3 b4 b5 b6 : Str} {Q : T → Prop} : wO (notInT (.str a) (.tup [.str b0, .str b1, .str b2, .str b3, .str b4, .str b5, .str b6])) Q = Q (.bl !((b0 == a) || ((b1 == a) || ((b2 == a) || ((b3 == a) || ((b4 == a) || ((b5 == a) || (b6 == a)))))))) := by simp [notInT, inO, flatT, eqF]
@[simp ↓] theorem r_inS8 {a b0 b1 b2 b3 b4 b5 b6 b7 : Str} {Q : T → Prop} : wO (inT (.str a) (.tup [.str b0, .str b1, .str b2, .str b3, .str b4, .str b5, .str b6, .str b7])) Q = Q (.bl ((b0 == a) || ((b1 == a) || ((b2 == a) || ((b3 == a) || ((b4 == a) || ((b5 == a) || ((b6 == a) || (b7 == a))))))))) := by simp [inT, inO, flatT, eqF]
@[simp ↓] theorem r_ninS8 {a b0 b1 b2 b3 b4 b5 b6 b7 : Str} {Q : T → Prop} : wO (notInT (.str a) (.tup [.str b0, .str b1, .str b2, .str b3, .str b4, .str b5, .str b6, .str b7])) Q = Q (.bl !((b0 == a) || ((b1 == a) || ((b2 == a) || ((b3 == a) || ((b4 == a) || ((b5 == a) || ((b6 == a) || (b7 == a))))))))) := by simp [notInT, inO, flatT, eqF]

@[simp ↓] theorem r_ok {α : Type} {v : α} {e : Env} {Q : α → Env → Prop} : wE (.ok v e) Q = Q v e := rfl
@[simp ↓] theorem r_some {α : Type} {x : α} {Q : α → Prop} : wO (some x) Q = Q x := rfl
@[simp ↓] theorem r_isBl {b : Bool} {Q : Bool → Prop} : wO (isBl (.bl b)) Q = Q b := rfl
@[simp ↓] theorem r_wInt {i : Int} {Q : Int → Prop} : wInt (.int i) Q = Q i := rfl
@[simp ↓] theorem r_wIx {xs : List T} {i : Int} {Q : T → Prop} : wIx xs (.int i) Q = wAt xs i Q := rfl
@[simp ↓] theorem r_wBt {a b : Prop} : wB (.bl true) a b = a := rfl
@[simp ↓] theorem r_wBf {a b : Prop} : wB (.bl false) a b = b := rfl
@[simp ↓] theorem r_wB {x : Bool} {a b : Prop} : wB (.bl x) a b = if x = true then a else b := by cases x <;> rfl
section
variable {i j l n : Nat} {env : Env} {a b c : FE} {Q : T → Env → Prop} {D : Fin}
@[simp ↓] theorem r_rd : wE (rd i env) Q = wI env i fun t => Q t env := wE_rd
@[simp ↓] theorem r_mv : wE (mv i env) Q = wI env i fun t => wP env i none fun e => Q t e := by
  rw [wE_mv]
  unfold wI wP
  cases h : env[i]? with
  | none => rfl
  | some o =>
    cases o with
    | none => rfl
    | some t => exact propext ⟨fun q => ⟨(List.getElem?_eq_some_iff.mp h).1, q⟩, fun q => q.2⟩
@[simp ↓] theorem r_cst {t : T} : wE (cst t env) Q = Q t env := rfl
@[simp ↓] theorem r_op1 {s : T → Option T} : wE (op1 s a env) Q = wE (a env) fun x e => wO (s x) fun v => Q v e := wE_op1
@[simp ↓] theorem r_op2 {s : T → T → Option T} : wE (op2 s a b env) Q = wE (a env) fun x e => wE (b e) fun y e => wO (s x y) fun v => Q v e := wE_op2
@[simp ↓] theorem r_opL {s : List T → Option T} {a : FA} : wE (opL s a env) Q = wE (a env) fun x e => wO (s x) fun v => Q v e := wE_opL
@[simp ↓] theorem r_aNil {Q : List T → Env → Prop} : wE (aNil env) Q = Q [] env := rfl
@[simp ↓] theorem r_aCons {b : FA} {Q : List T → Env → Prop} : wE (aCons a b env) Q = wE (a env) fun x e => wE (b e) fun xs e => Q (x :: xs) e := wE_aCons
@[simp ↓] theorem r_tst {s : T → Option Bool} {Q : Bool → Env → Prop} : wE (tst s a env) Q = wE (a env) fun x e => wO (s x) fun v => Q v e := wE_tst
@[simp ↓] theorem r_if {α : Type} {c : Prop} [Decidable c] {a b : Out α} {Q : α → Env → Prop} : wE (if c then a else b) Q = if c then wE a Q else wE b Q := wE_if
@[simp ↓] theorem r_ifS {c : Prop} [Decidable c] {a b : SOut} : wS (if c then a else b) D = if c then wS a D else wS b D := wS_if
@[simp ↓] theorem r_ifO {α : Type} {c : Prop} [Decidable c] {o : Option α} {Q : α → Prop} : wO (if c then o else none) Q = (c ∧ wO o Q) := wO_if
@[simp ↓] theorem r_andT {a b : FT} {Q : Bool → Env → Prop} : wE (andT a b env) Q = wE (a env) fun x e => if x = true then wE (b e) Q else Q false e := wE_andT
@[simp ↓] theorem r_orT {a b : FT} {Q : Bool → Env → Prop} : wE (orT a b env) Q = wE (a env) fun x e => if x = true then Q true e else wE (b e) Q := wE_orT
@[simp ↓] theorem r_notT {a : FT} {Q : Bool → Env → Prop} : wE (notT a env) Q = wE (a env) fun x e => Q (!x) e := wE_notT
@[simp ↓] theorem r_ife {c : FT} : wE (VS.ife c a b env) Q = wE (c env) fun x e => if x = true then wE (a e) Q else wE (b e) Q := wE_ife
@[simp ↓] theorem r_andV : wE (andV a b env) Q = wE (a env) fun x e => wB x (wE (b e) Q) (Q (.bl false) e) := wE_andV
@[simp ↓] theorem r_orV : wE (orV a b env) Q = wE (a env) fun x e => wB x (Q (.bl true) e) (wE (b e) Q) := wE_orV
@[simp ↓] theorem r_chn {s1 s2 : T → T → Option T} : wE (chn s1 s2 a b c env) Q = wE (a env) fun x e => wE (b e) fun y e => wO (s1 x y) fun k => wB k (wE (c e) fun z e => wO (s2 y z) fun v => Q v e) (Q (.bl false) e) := wE_chn
@[simp ↓] theorem r_onO {g : FE} : wE (onO j g env) Q = wH env j (wE (g env) Q) := wE_onO
@[simp ↓] theorem r_ixO {f : FE} : wE (VS.ixO j f env) Q = wH env j (wE (f env) fun y e => wX e j fun xs => wIx xs y fun v => Q v e) := wE_ixO
@[simp ↓] theorem r_lenOw : wE (lenOw j env) Q = wX env j fun xs => Q (.int xs.length) env := wE_lenOw
@[simp ↓] theorem r_mtO {m : List T → List T → Option (T × List T)} {f : FA} : wE (VS.mtO j m f env) Q = wH env j (wE (f env) fun ys e => wX e j fun xs => wO (m xs ys) fun p => wP e j (some (.lst p.2)) fun e' => Q p.1 e') := by
  rw [wE_mtO]
  unfold wH
  congr 1
  congr 1
  funext ys e
  unfold wX wP lstAt
  cases h : e[j]? with
  | none => rfl
  | some o =>
    have hj := (List.getElem?_eq_some_iff.mp h).1
    cases o with
    | none => rfl
    | some t =>
      cases t <;> simp [hj]
@[simp ↓] theorem r_apM {xs : List T} {y : T} {Q : T × List T → Prop} : wO (apM xs [y]) Q = (xs.length < 10000000 ∧ Q (.non, xs ++ [y])) := by
  simp only [apM]
  exact r_ifO
@[simp ↓] theorem r_exM {xs ys : List T} {Q : T × List T → Prop} : wO (exM xs [.lst ys]) Q = (xs.length + ys.length < 10000000 ∧ Q (.non, xs ++ ys)) := by
  simp only [exM]
  exact r_ifO
@[simp ↓] theorem r_oNone {Q : Option Int → Env → Prop} : wE (oNone env) Q = Q none env := rfl
@[simp ↓] theorem r_oSome {f : FE} {Q : Option Int → Env → Prop} : wE (oSome f env) Q = wE (f env) fun x e => wInt x fun i => Q (some i) e := wE_oSome
@[simp ↓] theorem r_slE {f : FE} {l h : FO} : wE (slE f l h env) Q = wE (f env) fun x e => wE (l e) fun i e => wE (h e) fun j e => wO (slT x i j) fun v => Q v e := wE_slE
@[simp ↓] theorem r_mS {s : T → List T → Option T} {f : FE} {g : FA} : wE (VS.mS s f g env) Q = wE (f env) fun x e => (isStr x = true ∧ wE (g e) fun ys e => wO (s x ys) fun v => Q v e) := wE_mS
@[simp ↓] theorem r_cal0 {f : List T → Out T} {g : FA} : wE (VS.cal0 f g env) Q = wE (g env) fun ts e => wE (f ts) fun v _ => Q v e := wE_cal0
@[simp ↓] theorem r_cal1 {f : List T → Out T} {g : FA} : wE (VS.cal1 f j g env) Q = wI env j fun _ => wE (g env) fun ts e => wI e j fun t => wE (f (t :: ts)) fun v p => wP e j (p.headD none) fun e' => Q v e' := by
  rw [wE_cal1]
  congr 1
  funext _
  congr 1
  funext ts e
  unfold wI wP
  cases h : e[j]? with
  | none => rfl
  | some o =>
    have hj := (List.getElem?_eq_some_iff.mp h).1
    cases o with
    | none => rfl
    | some t => simp [hj]
@[simp ↓] theorem r_iSeq {f : FE} {Q : List T → Env → Prop} : wE (iSeq f env) Q = wE (f env) fun x e => wO (seqO x) fun v => Q v e := wE_iSeq
@[simp ↓] theorem r_iOpt {s : List T → Option (List T)} {f : FA} {Q : List T → Env → Prop} : wE (iOpt s f env) Q = wE (f env) fun x e => wO (s x) fun v => Q v e := wE_iOpt
@[simp ↓] theorem r_tYesF {Q : Bool → Env → Prop} : wE (tYesF env) Q = Q true env := rfl
@[simp ↓] theorem r_sSeq {f g : FS} : wS (sSeq f g env) D = wS (f env) { D with nx := fun e => wS (g e) D } := wS_sSeq
@[simp ↓] theorem r_sNil : wS (sNil env) D = D.nx env := rfl
@[simp ↓] theorem r_sBrk : wS (sBrk env) D = D.bk env := rfl
@[simp ↓] theorem r_sCnt : wS (sCnt env) D = D.ct env := rfl
@[simp ↓] theorem r_sEx {f : FE} : wS (sEx f env) D = wE (f env) fun _ e => D.nx e := wS_sEx
@[simp ↓] theorem r_sRet {f : FE} : wS (sRet f env) D = wE (f env) fun v e => D.rt v e := wS_sRet
@[simp ↓] theorem r_sIf {c : FT} {a b : FS} : wS (sIf c a b env) D = wE (c env) fun x e => if x = true then wS (a e) D else wS (b e) D := wS_sIf
@[simp ↓] theorem r_sSet {f : FE} : wS (sSet i f env) D = wE (f env) fun v e => wP e i (some v) D.nx := wS_sSet
@[simp ↓] theorem r_sAsg {f : FE} {g : T → Env → Option Env} : wS (sAsg f g env) D = wE (f env) fun v e => wO (g v e) D.nx := wS_sAsg
@[simp ↓] theorem r_stO {fv fi : FE} : wS (VS.stO j fv fi env) D = wE (fv env) fun v e => wH e j (wE (fi e) fun i e => wX e j fun xs => wInt i fun k => wO (ixN xs.length k) fun n => wP e j (some (.lst (xs.set n v))) D.nx) := by
  rw [wS_stO]
  congr 1
  funext v e
  unfold wH
  congr 1
  congr 1
  funext y e
  unfold wX wP lstAt
  cases h : e[j]? with
  | none => rfl
  | some o =>
    have hj := (List.getElem?_eq_some_iff.mp h).1
    cases o with
    | none => rfl
    | some t => cases t <;> simp [hj]
@[simp ↓] theorem r_par2 : wS (VS.par2 i j (aCons a (aCons b aNil)) env) D = wE (a env) fun v e => wE (b e) fun w e => wP e i (some v) fun e' => wP e' j (some w) D.nx := by
  rw [wS_par2]
  unfold wP
  congr 1
  funext v e
  congr 1
  funext w e
  simp [and_assoc]
@[simp ↓] theorem r_par3 : wS (VS.par3 i j l (aCons a (aCons b (aCons c aNil))) env) D = wE (a env) fun u e => wE (b e) fun v e => wE (c e) fun w e => wP e i (some u) fun e' => wP e' j (some v) fun e'' => wP e'' l (some w) D.nx := by
  rw [wS_par3]
  unfold wP
  congr 1
  funext u e
  congr 1
  funext v e
  congr 1
  funext w e
  simp [and_assoc]
@[simp ↓] theorem r_gNm {x : T} {Q : Env → Prop} : wO (gNm i x env) Q = wP env i (some x) Q := wO_gNm
@[simp ↓] theorem r_gTu2 {gs : List T → Env → Option Env} {x y : T} {Q : Env → Prop} : wO (gTu gs 2 (.tup [x, y]) env) Q = wO (gs [x, y] env) Q := rfl
@[simp ↓] theorem r_gTu3 {gs : List T → Env → Option Env} {x y z : T} {Q : Env → Prop} : wO (gTu gs 3 (.tup [x, y, z]) env) Q = wO (gs [x, y, z] env) Q := rfl
@[simp ↓] theorem r_gTu4 {gs : List T → Env → Option Env} {x y z u : T} {Q : Env → Prop} : wO (gTu gs 4 (.tup [x, y, z, u]) env) Q = wO (gs [x, y, z, u] env) Q := rfl
@[simp ↓] theorem r_gLi2 {gs : List T → Env → Option Env} {x y : T} {Q : Env → Prop} : wO (gLi gs 2 (.lst [x, y]) env) Q = wO (gs [x, y] env) Q := rfl
@[simp ↓] theorem r_gCo {g : T → Env → Option Env} {gs : List T → Env → Option Env} {x : T} {xs : List T} {Q : Env → Prop} : wO (gCo g gs (x :: xs) env) Q = wO (g x env) fun e => wO (gs xs e) Q := wO_gCo
@[simp ↓] theorem r_gNl {Q : Env → Prop} : wO (gNl [] env) Q = Q env := rfl
@[simp ↓] theorem r_sFor {f : FA} {g : T → Env → Option Env} {b : FS} : wS (sFor f g b env) D = wE (f env) fun items e => wS (forL items (tgB g b) e) D := wS_sFor
@[simp ↓] theorem r_tgB {g : T → Env → Option Env} {b : FS} {x : T} : wS (tgB g b x env) D = wO (g x env) fun e => wS (b e) D := wS_tgB
@[simp ↓] theorem r_forN {b : T → Env → SOut} : wS (forL [] b env) D = D.nx env := rfl
@[simp ↓] theorem r_forC {x : T} {xs : List T} {b : T → Env → SOut} : wS (forL (x :: xs) b env) D = wS (b x env) { D with nx := fun e => wS (forL xs b e) D, ct := fun e => wS (forL xs b e) D, bk := D.nx } := by
  show wS (match b x env with
      | .nxt e => forL xs b e
      | .cnt e => forL xs b e
      | .brk e => .nxt e
      | .ret v e => .ret v e
      | .exc x e => .exc x e
      | .stk => .stk) D = _
  cases b x env <;> rfl
/-! values -/
@[simp ↓] theorem r_ixT_tup {xs : List T} {i : Int} {Q : T → Prop} : wO (ixT (.tup xs) (.int i)) Q = wAt xs i Q := rfl
@[simp ↓] theorem r_ixT_lst {xs : List T} {i : Int} {Q : T → Prop} : wO (ixT (.lst xs) (.int i)) Q = wAt xs i Q := rfl
@[simp ↓] theorem r_ixT_str {z : Str} {i : Int} {Q : T → Prop} : wO (ixT (.str z) (.int i)) Q = (z.length ≤ sizeLine ∧ wO (atI z.cps.toList i) fun c => Q (.str ⟨#[c]⟩)) := by
  simp only [ixT, wO_if, wO_map]
@[simp ↓] theorem r_addT_int {i j : Int} {Q : T → Prop} : wO (addT (.int i) (.int j)) Q = Q (.int (i + j)) := rfl
@[simp ↓] theorem r_addIT_int {i j : Int} {Q : T → Prop} : wO (addIT (.int i) (.int j)) Q = Q (.int (i + j)) := rfl
@[simp ↓] theorem r_addT_str {a b : Str} {Q : T → Prop} : wO (addT (.str a) (.str b)) Q = (a.length + b.length ≤ sizeLine ∧ Q (.str (a ++ b))) := wO_if
@[simp ↓] theorem r_addT_tup {a b : List T} {Q : T → Prop} : wO (addT (.tup a) (.tup b)) Q = (a.length + b.length ≤ sizeLine ∧ Q (.tup (a ++ b))) := wO_if
@[simp ↓] theorem r_addT_lst {a b : List T} {Q : T → Prop} : wO (addT (.lst a) (.lst b)) Q = (a.length + b.length ≤ sizeLine ∧ Q (.lst (a ++ b))) := wO_if
@[simp ↓] theorem r_subT {i j : Int} {Q : T → Prop} : wO (subT (.int i) (.int j)) Q = Q (.int (i - j)) := rfl
@[simp ↓] theorem r_mulST {i j : Int} {Q : T → Prop} : wO (mulST (.int i) (.int j)) Q = (mulOk i j = true ∧ Q (.int (i * j))) := wO_if
@[simp ↓] theorem r_modT {i j : Int} {Q : T → Prop} : wO (modT (.int i) (.int j)) Q = (0 < j ∧ Q (.int (i % j))) := wO_if
@[simp ↓] theorem r_divT {i j : Int} {Q : T → Prop} : wO (divT (.int i) (.int j)) Q = ((0 < j ∧ j < 1073741824) ∧ Q (.int (i / j))) := wO_if
@[simp ↓] theorem r_negT {i : Int} {Q : T → Prop} : wO (negT (.int i)) Q = Q (.int (-i)) := rfl
@[simp ↓] theorem r_ltT {i j : Int} {Q : T → Prop} : wO (ltT (.int i) (.int j)) Q = Q (.bl (decide (i < j))) := rfl
@[simp ↓] theorem r_leT {i j : Int} {Q : T → Prop} : wO (leT (.int i) (.int j)) Q = Q (.bl (decide (i ≤ j))) := rfl
@[simp ↓] theorem r_gtT {i j : Int} {Q : T → Prop} : wO (gtT (.int i) (.int j)) Q = Q (.bl (decide (j < i))) := rfl
@[simp ↓] theorem r_geT {i j : Int} {Q : T → Prop} : wO (geT (.int i) (.int j)) Q = Q (.bl (decide (j ≤ i))) := rfl
@[simp ↓] theorem r_eqTi {i j : Int} {Q : T → Prop} : wO (eqT (.int i) (.int j)) Q = Q (.bl (i == j)) := rfl
@[simp ↓] theorem r_neTi {i j : Int} {Q : T → Prop} : wO (neT (.int i) (.int j)) Q = Q (.bl (!(i == j))) := rfl
@[simp ↓] theorem r_eqTs {a b : Str} {Q : T → Prop} (h : PyData.strOk a = true) (k : PyData.strOk b = true) : wO (eqT (.str a) (.str b)) Q = Q (.bl (a == b)) := by rw [eqT_str h k]; rfl
@[simp ↓] theorem r_neTs {a b : Str} {Q : T → Prop} (h : PyData.strOk a = true) (k : PyData.strOk b = true) : wO (neT (.str a) (.str b)) Q = Q (.bl (!(a == b))) := by rw [neT_str h k]; rfl
@[simp ↓] theorem r_lenTup {xs : List T} {Q : T → Prop} : wO (lenO [.tup xs]) Q = Q (.int xs.length) := rfl
@[simp ↓] theorem r_lenLst {xs : List T} {Q : T → Prop} : wO (lenO [.lst xs]) Q = Q (.int xs.length) := rfl
@[simp ↓] theorem r_lenStr {z : Str} {Q : T → Prop} : wO (lenO [.str z]) Q = (z.length ≤ sizeLine ∧ Q (.int z.length)) := wO_if
@[simp ↓] theorem r_intO {i : Int} {Q : T → Prop} : wO (intO [.int i]) Q = Q (.int i) := rfl
@[simp ↓] theorem r_absO {i : Int} {Q : T → Prop} : wO (absO [.int i]) Q = Q (.int (if i < 0 then -i else i)) := rfl
@[simp ↓] theorem r_tupleL {xs : List T} {Q : T → Prop} : wO (tupleO [.lst xs]) Q = Q (.tup xs) := rfl
@[simp ↓] theorem r_tupleT {xs : List T} {Q : T → Prop} : wO (tupleO [.tup xs]) Q = Q (.tup xs) := rfl
@[simp ↓] theorem r_max2 {i j : Int} {Q : T → Prop} : wO (max2O [.int i, .int j]) Q = Q (.int (if j > i then j else i)) := rfl
@[simp ↓] theorem r_min2 {i j : Int} {Q : T → Prop} : wO (min2O [.int i, .int j]) Q = Q (.int (if j < i then j else i)) := rfl
@[simp ↓] theorem r_seqT {xs : List T} {Q : List T → Prop} : wO (seqO (.tup xs)) Q = Q xs := rfl
@[simp ↓] theorem r_seqL {xs : List T} {Q : List T → Prop} : wO (seqO (.lst xs)) Q = Q xs := rfl
@[simp ↓] theorem r_seqS {z : Str} {Q : List T → Prop} : wO (seqO (.str z)) Q = Q (z.cps.toList.map fun c => .str ⟨#[c]⟩) := rfl
@[simp ↓] theorem r_slTt {xs : List T} {lo hi : Option Int} {Q : T → Prop} : wO (slT (.tup xs) lo hi) Q = Q (.tup (cutT xs lo hi)) := rfl
@[simp ↓] theorem r_slTl {xs : List T} {lo hi : Option Int} {Q : T → Prop} : wO (slT (.lst xs) lo hi) Q = Q (.lst (cutT xs lo hi)) := rfl
@[simp ↓] theorem r_slTs {z : Str} {lo hi : Option Int} {Q : T → Prop} : wO (slT (.str z) lo hi) Q = (z.length ≤ sizeLine ∧ Q (.str (cutS z lo hi))) := wO_if
@[simp ↓] theorem r_slTn {xs : List Int} {lo hi : Option Int} {Q : T → Prop} : wO (slT (.scr xs) lo hi) Q = Q (.lst ((cutT xs lo hi).map .int)) := rfl
@[simp ↓] theorem r_enT {xs : List T} {Q : List T → Prop} : wO (enO [.tup xs]) Q = Q (enL xs) := rfl
@[simp ↓] theorem r_enL {xs : List T} {Q : List T → Prop} : wO (enO [.lst xs]) Q = Q (enL xs) := rfl
@[simp ↓] theorem r_isN {Q : T → Prop} {x : T} : wO (isNoneT x .non) Q = Q (.bl (isNonB x)) := by cases x <;> rfl
@[simp ↓] theorem r_notN {Q : T → Prop} {x : T} : wO (notNoneT x .non) Q = Q (.bl (!isNonB x)) := by cases x <;> rfl
end
/-- running a def -/
theorem runF {pms : List Md} {r : Md} {n : Nat} {body : FS} {ts : List T} {Q : T → Env → Prop} (hl : ts.length = pms.length) {env : Env} (he : ts.map some ++ List.replicate n none = env)
    (h : wS (body env) { nx := fun e => r = .frz ∧ Q .non (mask pms e), rt := fun v e => Q v (mask pms e), bk := fun _ => False, ct := fun _ => False }) : wE (defF pms r n body ts) Q := by
  subst he
  exact wE_defF hl h
/-- a comprehension that maps -/
def wLC (vs : List Nat) (g : T → Env → Option Env) (tt : FT) (te : FE) (items : List T) (e : Env) (Q : T → Env → Prop) : Prop := items.length ≤ 10000000 ∧ wE (lcL (lcB vs g tt te) items [] (wipeE e vs)) fun ys e2 => Q (.lst ys) (restE e vs e2)
@[simp ↓] theorem r_eLc {vs : List Nat} {f : FA} {g : T → Env → Option Env} {tt : FT} {te : FE} {env : Env} {Q : T → Env → Prop} : wE (eLc vs f g tt te env) Q = wE (f env) fun items e => wLC vs g tt te items e Q := wE_eLc
theorem wLC_map {i : Nat} {te : FE} {F : T → T} {e1 : Env} {items : List T} {Q : T → Env → Prop} (hi : i < e1.length) (hl : items.length ≤ 10000000) (h : ∀ x ∈ items, wE (te (e1.set i (some x))) fun y e => y = F x ∧ e = e1.set i (some x)) : wLC [i] (gNm i) tYesF te items e1 Q = Q (.lst (items.map F)) e1 := by
  have q := q_lcMap (i := i) (f := fun e => .ok items e) (te := te) (F := F) (e0 := e1) (e1 := e1) (items := items) rfl hi hl fun x hx => wE_out (h x hx)
  have w : wE (eLc [i] (fun e => .ok items e) (gNm i) tYesF te e1) Q = wLC [i] (gNm i) tYesF te items e1 Q := r_eLc
  rw [← w, q]
  rfl
/-- a comprehension that keeps some -/
theorem lc_goF {i : Nat} {tt : FT} {P : T → Bool} {e1 : Env} : ∀ (xs acc : List T), i < e1.length → (∀ x ∈ xs, tt (e1.set i (some x)) = .ok (P x) (e1.set i (some x))) →
    lcL (lcB [i] (gNm i) tt (rd i)) xs acc (e1.set i none) = .ok (acc ++ xs.filter P) (e1.set i none)
  | [], acc, _, _ => by simp [lcL]
  | x :: xs, acc, hi, h => by
    have h1 := h x (by simp)
    have hr : rd i (e1.set i (some x)) = .ok x (e1.set i (some x)) := q_rd (by simp [hi])
    cases hp : P x with
    | true =>
      have eb : lcB [i] (gNm i) tt (rd i) x (e1.set i none) = .ok (some x) (e1.set i none) := by
        rw [hp] at h1
        simp only [lcB, gNm, List.length_set, hi, if_true, List.set_set, h1, q_bind_ok, hr, wipeE]
      show (match lcB [i] (gNm i) tt (rd i) x (e1.set i none) with
        | .ok (some y) env' => lcL (lcB [i] (gNm i) tt (rd i)) xs (acc ++ [y]) env'
        | .ok none env' => lcL (lcB [i] (gNm i) tt (rd i)) xs acc env'
        | _ => .stk) = _
      rw [eb]
      show lcL _ xs (acc ++ [x]) _ = _
      rw [lc_goF xs (acc ++ [x]) hi fun y hy => h y (by simp [hy])]
      simp [List.filter_cons, hp]
    | false =>
      have eb : lcB [i] (gNm i) tt (rd i) x (e1.set i none) = .ok none (e1.set i none) := by
        rw [hp] at h1
        simp only [lcB, gNm, List.length_set, hi, if_true, List.set_set, h1, q_bind_ok, wipeE, Bool.false_eq_true, if_false]
      show (match lcB [i] (gNm i) tt (rd i) x (e1.set i none) with
        | .ok (some y) env' => lcL (lcB [i] (gNm i) tt (rd i)) xs (acc ++ [y]) env'
        | .ok none env' => lcL (lcB [i] (gNm i) tt (rd i)) xs acc env'
        | _ => .stk) = _
      rw [eb]
      show lcL _ xs acc _ = _
      rw [lc_goF xs acc hi fun y hy => h y (by simp [hy])]
      simp [List.filter_cons, hp]
theorem wLC_flt {i : Nat} {tt : FT} {P : T → Bool} {e1 : Env} {items : List T} {Q : T → Env → Prop} (hi : i < e1.length) (hl : items.length ≤ 10000000) (h : ∀ x ∈ items, wE (tt (e1.set i (some x))) fun y e => y = P x ∧ e = e1.set i (some x)) : wLC [i] (gNm i) tt (rd i) items e1 Q = Q (.lst (items.filter P)) e1 := by
  unfold wLC
  have hw : wipeE e1 [i] = e1.set i none := rfl
  rw [hw, wE_eq (lc_goF (P := P) items [] hi fun x hx => wE_out (h x hx))]
  have e : (e1.set i none).set i (e1[i]?.getD none) = e1 := by
    rw [List.set_set]
    exact set_same (by simp [hi])
  have e2 : restE e1 [i] (e1.set i none) = e1 := e
  rw [e2]
  simp [hl]
@[simp ↓] theorem r_wAtl {xs : List T} {t : T} {Q : T → Prop} : wAt (xs ++ [t]) (-1) Q = Q t := by
  have e : atI (xs ++ [t]) (-1) = some t := by
    have l : (((xs ++ [t]).length : Nat) : Int) = (xs.length : Int) + 1 := by simp
    simp only [atI, ixN, l]
    rw [if_neg (by omega), if_pos (by omega)]
    rw [show ((-1 : Int) + ((xs.length : Int) + 1)).toNat = xs.length by omega]
    simp
  exact wO_eq e Q
theorem strOk_lit (s : String) : PyData.strOk (Str.ofString s) = true := by
  unfold PyData.strOk
  rw [Str.ofString_eq_toList, ← Array.all_toList]
  simp only [List.all_eq_true, List.mem_map, decide_eq_true_eq]
  rintro c ⟨x, _, rfl⟩
  have h := x.valid
  have e : x.toNat = x.val.toNat := rfl
  rw [e]
  rcases h with h | ⟨_, h⟩
  · omega
  · exact h
end VS
-- K64t
set_option Elab.async false
set_option linter.all false
set_option maxRecDepth 100000
set_option maxHeartbeats 4000000
/-! K64t: plans as trees of constructors; the texts of tests. -/
namespace K64
open PySem L2 VS
inductive Nm | a | b | o | r | f
  deriving DecidableEq
def Nm.s : Nm → Str
  | .a => "a" | .b => "b" | .o => "o" | .r => "r" | .f => "f"
inductive UW | ends | empty | up
  deriving DecidableEq
def UW.s : UW → Str
  | .ends => "ends" | .empty => "empty" | .up => "up"
inductive BW | below | same
  deriving DecidableEq
def BW.s : BW → Str
  | .below => "below" | .same => "same"
def cw : Bool → Str
  | true => "or" | false => "and"
theorem Nm.tx (x : Nm) : Tx x.s 1 := by cases x <;> exact ⟨by decide +kernel, by decide +kernel⟩
theorem UW.tx (x : UW) : Tx x.s 5 := by cases x <;> exact ⟨by decide +kernel, by decide +kernel⟩
theorem BW.tx (x : BW) : Tx x.s 5 := by cases x <;> exact ⟨by decide +kernel, by decide +kernel⟩
theorem cw_tx (x : Bool) : Tx (cw x) 3 := by cases x <;> exact ⟨by decide +kernel, by decide +kernel⟩
@[simp] theorem Nm.len (x : Nm) : x.s.length = 1 := by cases x <;> rfl
@[simp] theorem Nm.sok (x : Nm) : PyData.strOk x.s = true := x.tx.ok
/-- tests -/
inductive Te | un (w : UW) (x : Nm) | bi (w : BW) (x y : Nm) | no (t : Te) | con (o : Bool) (s t : Te)
def Te.e : Te → T
  | .un w x => .tup [.str w.s, .str x.s]
  | .bi w x y => .tup [.str w.s, .str x.s, .str y.s]
  | .no t => .tup [.str "not", t.e]
  | .con o s t => .tup [.str (cw o), s.e, t.e]
def Te.hd : Te → Str
  | .un w _ => w.s
  | .bi w _ _ => w.s
  | .no _ => "not"
  | .con o _ _ => cw o
def Te.tl : Te → List T
  | .un w x => [.str x.s]
  | .bi w x y => [.str x.s, .str y.s]
  | .no t => [t.e]
  | .con o s t => [s.e, t.e]
theorem Te.e_eq : ∀ t : Te, t.e = .tup (.str t.hd :: t.tl)
  | .un .. => rfl
  | .bi .. => rfl
  | .no .. => rfl
  | .con .. => rfl
@[simp] theorem Te.hd_ok (t : Te) : PyData.strOk t.hd = true := by
  cases t with
  | un w _ => exact w.tx.ok
  | bi w _ _ => exact w.tx.ok
  | no _ => exact (by decide +kernel : PyData.strOk ("not" : Str) = true)
  | con o _ _ => exact (cw_tx o).ok
def Te.dep : Te → Nat
  | .un .. => 0
  | .bi .. => 0
  | .no t => t.dep + 1
  | .con _ s t => max s.dep t.dep + 1
def Te.wt : Te → Nat
  | .un .. => 7
  | .bi .. => 9
  | .no t => t.wt + 6
  | .con _ s t => s.wt + t.wt + 9
/-- whether brackets stand around -/
def par (b : Bool) (s : Str) : Str := if b then ("(" : Str) ++ s ++ ")" else s
theorem par_tx {b : Bool} {s : Str} {n : Nat} (h : Tx s n) : Tx (par b s) (n + 2) := by
  cases b
  · exact h.mono (by omega)
  · exact ((Tx.add (a := "(") (n := 1) ⟨by decide +kernel, by decide +kernel⟩ h).add (b := ")") (m := 1) ⟨by decide +kernel, by decide +kernel⟩).mono (by omega)
theorem tt_ok (A : Ad) : ∀ (t : Te) (k : Nat), t.dep < k → t.wt ≤ 100000 → ∃ s, f__law_test_text A k [t.e] = .ok (.str s) [none] ∧ Tx s t.wt
  | _, 0, h, _ => absurd h (by omega)
  | .un w x, k + 1, _, _ => by
    have hS := hSz
    refine ⟨x.s ++ " " ++ w.s, wE_out ?_, ((x.tx.add (b := " ") (m := 1) ⟨by decide +kernel, by decide +kernel⟩).add w.tx).mono (by simp [Te.wt])⟩
    unfold f__law_test_text
    refine runF rfl rfl ?_
    cases w <;> simp (config := {decide := true}) [Te.e, UW.s, PySem.Str.length_append]
  | .bi w x y, k + 1, _, _ => by
    have hS := hSz
    refine ⟨x.s ++ " " ++ w.s ++ " " ++ y.s, wE_out ?_, ((((x.tx.add (b := " ") (m := 1) ⟨by decide +kernel, by decide +kernel⟩).add w.tx).add (b := " ") (m := 1) ⟨by decide +kernel, by decide +kernel⟩).add y.tx).mono (by simp [Te.wt])⟩
    unfold f__law_test_text
    refine runF rfl rfl ?_
    cases w <;> simp (config := {decide := true}) [Te.e, BW.s, PySem.Str.length_append]
  | .no t, k + 1, h, hw => by
    have hS := hSz
    simp only [Te.dep, Te.wt] at h hw
    obtain ⟨s, e, hs⟩ := tt_ok A t k (by omega) (by omega)
    have hl := hs.len
    have ht := t.hd_ok
    simp only [Te.e, Te.wt]
    rw [Te.e_eq] at e ⊢
    generalize t.hd = w at *
    cases b1 : (Str.ofString "and" == w || Str.ofString "or" == w)
    · refine ⟨"not " ++ s, wE_out ?_, (Tx.add (a := "not ") (n := 4) ⟨by decide +kernel, by decide +kernel⟩ hs).mono (by omega)⟩
      unfold f__law_test_text
      refine runF rfl rfl ?_
      simp (config := {decide := true}) [↓wE_eq e, b1, ht, PySem.Str.length_append]
      omega
    · refine ⟨"not (" ++ s ++ ")", wE_out ?_, ((Tx.add (a := "not (") (n := 5) ⟨by decide +kernel, by decide +kernel⟩ hs).add (b := ")") (m := 1) ⟨by decide +kernel, by decide +kernel⟩).mono (by omega)⟩
      unfold f__law_test_text
      refine runF rfl rfl ?_
      simp (config := {decide := true}) [↓wE_eq e, b1, ht, PySem.Str.length_append]
      omega
  | .con o s t, k + 1, h, hw => by
    have hS := hSz
    simp only [Te.dep, Te.wt] at h hw
    obtain ⟨s1, e1, hs1⟩ := tt_ok A s k (by omega) (by omega)
    obtain ⟨s2, e2, hs2⟩ := tt_ok A t k (by omega) (by omega)
    have hl1 := hs1.len
    have hl2 := hs2.len
    have h1 := s.hd_ok
    have h2 := t.hd_ok
    simp only [Te.e, Te.wt]
    rw [Te.e_eq] at e1 e2 ⊢
    rw [Te.e_eq t]
    generalize s.hd = w1 at *
    generalize t.hd = w2 at *
    have fin : ∀ a b : Bool, Tx (Txt.join (" " ++ cw o ++ " ") [par a s1, par b s2]) (s.wt + t.wt + 9) := by
      intro a b
      have e : Txt.join (" " ++ cw o ++ " ") [par a s1, par b s2] = par a s1 ++ (" " ++ cw o ++ " ") ++ par b s2 := by
        exact StrLaws.glued_eq_join _ _
      rw [e]
      exact (((par_tx hs1).add ((Tx.add (a := " ") (n := 1) ⟨by decide +kernel, by decide +kernel⟩ (cw_tx o)).add (b := " ") (m := 1) ⟨by decide +kernel, by decide +kernel⟩)).add (par_tx hs2)).mono (by omega)
    have run : ∃ a b : Bool, f__law_test_text A (k + 1) [.tup [.str (cw o), .tup (.str w1 :: s.tl), .tup (.str w2 :: t.tl)]] = .ok (.str (Txt.join (" " ++ cw o ++ " ") [par a s1, par b s2])) [none] := by
      cases o
      · refine ⟨w1 == Str.ofString "or", w2 == Str.ofString "or" || w2 == Str.ofString "and", wE_out ?_⟩
        unfold f__law_test_text
        refine runF rfl rfl ?_
        cases b1 : (w1 == Str.ofString "or") <;> cases b2 : (w2 == Str.ofString "or") <;> cases b3 : (w2 == Str.ofString "and")
        all_goals simp (config := {decide := true}) [↓wE_eq e1, ↓wE_eq e2, cutT_lo, cw, b1, b2, b3, par, PySem.Str.length_append, enL, joinT, itemsO, strsO, h1, h2]
        all_goals omega
      · refine ⟨false, w2 == Str.ofString "or", wE_out ?_⟩
        unfold f__law_test_text
        refine runF rfl rfl ?_
        cases b1 : (w1 == Str.ofString "or") <;> cases b2 : (w2 == Str.ofString "or")
        all_goals simp (config := {decide := true}) [↓wE_eq e1, ↓wE_eq e2, cutT_lo, cw, b1, b2, par, PySem.Str.length_append, enL, joinT, itemsO, strsO, h1, h2]
        all_goals omega
    obtain ⟨a, b, e⟩ := run
    exact ⟨_, e, fin a b⟩
end K64
-- K64u
set_option Elab.async false
set_option linter.all false
set_option maxRecDepth 100000
set_option maxHeartbeats 4000000
/-! K64u: statements, their rows. -/
namespace K64
open PySem L2 VS
inductive Stm
  | ite (t : Te) (x y : List Stm) | whl (t : Te) (x : List Stm) | put (x : Nm) | skip (x : Nm) | keep (x : Nm) | flag (v : Bool)
mutual
def Stm.e : Stm → T
  | .ite t x y => .tup [.str "if", t.e, .tup (es x), .tup (es y)]
  | .whl t x => .tup [.str "while", t.e, .tup (es x)]
  | .put x => .tup [.str "put", .str "o", .str x.s]
  | .skip x => .tup [.str "skip", .str x.s]
  | .keep x => .tup [.str "keep", .str "r", .str x.s]
  | .flag v => .tup [.str "flag", .str "f", .int (if v then 1 else 0)]
def es : List Stm → List T
  | [] => []
  | s :: r => s.e :: es r
end
theorem es_map : ∀ b : List Stm, es b = b.map Stm.e
  | [] => by simp [es]
  | s :: r => by simp [es, es_map r]
@[simp] theorem es_len (b : List Stm) : (es b).length = b.length := by simp [es_map]
@[simp] theorem es_emp (b : List Stm) : (es b).isEmpty = b.isEmpty := by cases b <;> rfl
mutual
def Stm.dep : Stm → Nat
  | .ite _ x y => max (depL x) (depL y) + 1
  | .whl _ x => depL x + 1
  | .put _ => 0 | .skip _ => 0 | .keep _ => 0 | .flag _ => 0
def depL : List Stm → Nat
  | [] => 0
  | s :: r => max s.dep (depL r)
end
mutual
def Stm.td : Stm → Nat
  | .ite t x y => max t.dep (max (tdL x) (tdL y))
  | .whl t x => max t.dep (tdL x)
  | .put _ => 0 | .skip _ => 0 | .keep _ => 0 | .flag _ => 0
def tdL : List Stm → Nat
  | [] => 0
  | s :: r => max s.td (tdL r)
end
mutual
def Stm.rows : Stm → Nat
  | .ite _ x y => rowsL x + rowsL y + 3
  | .whl _ x => rowsL x + 2
  | .put _ => 1 | .skip _ => 1 | .keep _ => 1 | .flag _ => 1
def rowsL : List Stm → Nat
  | [] => 0
  | s :: r => s.rows + rowsL r
end
mutual
def Stm.chars : Stm → Nat
  | .ite t x y => t.wt + 13 + (charsL x + 2 * rowsL x) + (charsL y + 2 * rowsL y)
  | .whl t x => t.wt + 11 + (charsL x + 2 * rowsL x)
  | .put _ => 9 | .skip _ => 9 | .keep _ => 9 | .flag _ => 9
def charsL : List Stm → Nat
  | [] => 0
  | s :: r => s.chars + charsL r
end
theorem depL_app (x y : List Stm) : depL (x ++ y) = max (depL x) (depL y) := by
  induction x with
  | nil => simp [depL]
  | cons s r ih => simp only [List.cons_append, depL, ih]; omega
theorem tdL_app (x y : List Stm) : tdL (x ++ y) = max (tdL x) (tdL y) := by
  induction x with
  | nil => simp [tdL]
  | cons s r ih => simp only [List.cons_append, tdL, ih]; omega
theorem rowsL_app (x y : List Stm) : rowsL (x ++ y) = rowsL x + rowsL y := by
  induction x with
  | nil => simp [rowsL]
  | cons s r ih => simp only [List.cons_append, rowsL, ih]; omega
theorem charsL_app (x y : List Stm) : charsL (x ++ y) = charsL x + charsL y := by
  induction x with
  | nil => simp [charsL]
  | cons s r ih => simp only [List.cons_append, charsL, ih]; omega
theorem Stm.rows_pos (s : Stm) : 0 < s.rows := by cases s <;> simp [Stm.rows]
theorem len_le_rows : ∀ b : List Stm, b.length ≤ rowsL b
  | [] => by simp [rowsL]
  | s :: r => by have := s.rows_pos; have := len_le_rows r; simp [rowsL]; omega
mutual
theorem Stm.rows_le : ∀ s : Stm, s.rows ≤ s.chars
  | .ite t x y => by have := rows_le_chars x; have := rows_le_chars y; simp only [Stm.rows, Stm.chars]; omega
  | .whl t x => by have := rows_le_chars x; simp only [Stm.rows, Stm.chars]; omega
  | .put _ => by simp [Stm.rows, Stm.chars]
  | .skip _ => by simp [Stm.rows, Stm.chars]
  | .keep _ => by simp [Stm.rows, Stm.chars]
  | .flag _ => by simp [Stm.rows, Stm.chars]
theorem rows_le_chars : ∀ b : List Stm, rowsL b ≤ charsL b
  | [] => by simp [rowsL, charsL]
  | s :: r => by have := s.rows_le; have := rows_le_chars r; simp only [rowsL, charsL]; omega
end
/-! plain data -/
theorem Te.dd : ∀ t : Te, Dd (t.dep + 1) t.e
  | .un w x => .tup (.cons (.str w.tx.ok) (.cons (.str x.tx.ok) .nil))
  | .bi w x y => .tup (.cons (.str w.tx.ok) (.cons (.str x.tx.ok) (.cons (.str y.tx.ok) .nil)))
  | .no t => .tup (.cons (.str (by decide +kernel)) (.cons t.dd .nil))
  | .con o s t => .tup (.cons (.str (cw_tx o).ok) (.cons (s.dd.mono (by simp only [Te.dep]; omega)) (.cons (t.dd.mono (by simp only [Te.dep]; omega)) .nil)))
mutual
theorem Stm.dd : ∀ (s : Stm) (m : Nat), s.td ≤ m → Dd (2 * s.dep + m + 2) s.e
  | .ite t x y, m, h => by
    simp only [Stm.td, Stm.dep] at h ⊢
    have h1 := es_dd x m (by omega)
    have h2 := es_dd y m (by omega)
    exact (Dd.tup (k := 2 * (max (depL x) (depL y) + 1) + m + 1) (.cons (.str (by decide +kernel)) (.cons (t.dd.mono (by omega)) (.cons (h1.mono (by omega)) (.cons (h2.mono (by omega)) .nil))))).mono (by omega)
  | .whl t x, m, h => by
    simp only [Stm.td, Stm.dep] at h ⊢
    have h1 := es_dd x m (by omega)
    exact (Dd.tup (k := 2 * (depL x + 1) + m + 1) (.cons (.str (by decide +kernel)) (.cons (t.dd.mono (by omega)) (.cons (h1.mono (by omega)) .nil)))).mono (by omega)
  | .put x, m, _ => (Dd.tup (k := 0) (.cons (.str (by decide +kernel)) (.cons (.str (by decide +kernel)) (.cons (.str x.tx.ok) .nil)))).mono (by omega)
  | .skip x, m, _ => (Dd.tup (k := 0) (.cons (.str (by decide +kernel)) (.cons (.str x.tx.ok) .nil))).mono (by omega)
  | .keep x, m, _ => (Dd.tup (k := 0) (.cons (.str (by decide +kernel)) (.cons (.str (by decide +kernel)) (.cons (.str x.tx.ok) .nil)))).mono (by omega)
  | .flag v, m, _ => (Dd.tup (k := 0) (.cons (.str (by decide +kernel)) (.cons (.str (by decide +kernel)) (.cons .int .nil)))).mono (by omega)
theorem es_ddl : ∀ (b : List Stm) (m : Nat), tdL b ≤ m → DdL (2 * depL b + m + 2) (es b)
  | [], _, _ => by simp only [es]; exact .nil
  | s :: r, m, h => by
    simp only [tdL, depL] at h ⊢
    have h1 := s.dd m (by omega)
    obtain ⟨ds, a, b, c⟩ := es_ddl r m (by omega)
    simp only [es]
    exact .cons (h1.mono (by omega)) ⟨ds, a, b, by omega⟩
theorem es_dd : ∀ (b : List Stm) (m : Nat), tdL b ≤ m → Dd (2 * depL b + m + 3) (.tup (es b))
  | b, m, h => (Dd.tup (es_ddl b m h)).mono (by omega)
end
/-! rows -/
structure Rows (ss : List Str) (r c : Nat) : Prop where
  n : ss.length ≤ r
  s : (ss.map (·.length)).sum + ss.length ≤ c
  a : ∀ x ∈ ss, Asc x = true
theorem Rows.nil : Rows [] 0 0 := ⟨by simp, by simp, by simp⟩
theorem Rows.one {x : Str} {n c : Nat} (h : Tx x n) (k : n + 1 ≤ c) : Rows [x] 1 c := ⟨by simp, by have := h.len; simp; omega, fun y hy => by simp at hy; subst hy; exact h.asc⟩
theorem Rows.app {xs ys : List Str} {r1 r2 c1 c2 : Nat} (h : Rows xs r1 c1) (k : Rows ys r2 c2) : Rows (xs ++ ys) (r1 + r2) (c1 + c2) := by
  refine ⟨?_, ?_, fun x hx => ?_⟩
  · have := h.n; have := k.n; simp; omega
  · have := h.s; have := k.s; simp; omega
  · rcases List.mem_append.mp hx with z | z
    · exact h.a x z
    · exact k.a x z
theorem Rows.mono {xs : List Str} {r1 r2 c1 c2 : Nat} (h : Rows xs r1 c1) (a : r1 ≤ r2) (b : c1 ≤ c2) : Rows xs r2 c2 := ⟨Nat.le_trans h.n a, Nat.le_trans h.s b, h.a⟩
theorem Rows.inn {xs : List Str} {r c : Nat} (h : Rows xs r c) : Rows (xs.map fun x => ("  " : Str) ++ x) r (c + 2 * r) := by
  refine ⟨by have := h.n; simpa using this, ?_, fun x hx => ?_⟩
  · have e : ∀ l : List Str, ((l.map fun x => ("  " : Str) ++ x).map (·.length)).sum = (l.map (·.length)).sum + 2 * l.length := by
      intro l
      induction l with
      | nil => rfl
      | cons x r ih =>
        simp only [List.map_cons, List.sum_cons, Str.length_append, List.length_cons] at ih ⊢
        rw [ih]
        simp
        omega
    rw [e]
    have := h.n; have := h.s
    simp
    omega
  · obtain ⟨y, hy, rfl⟩ := List.mem_map.mp hx
    exact asc_app (by decide +kernel) (h.a y hy)
end K64
-- K64v
set_option Elab.async false
set_option linter.all false
set_option maxRecDepth 100000
set_option maxHeartbeats 8000000
/-! K64v: the rows of statements. -/
namespace K64
open PySem L2 VS
/-- what line_rows gives -/
def lrF (A : Ad) (k : Nat) (x : T) : T := match f__law_line_rows A k [x] with
  | .ok v _ => v
  | _ => .non
theorem lrF_of {A : Ad} {k : Nat} {x v : T} {e : VS.Env} (h : f__law_line_rows A k [x] = .ok v e) : lrF A k x = v := by unfold lrF; rw [h]
def Lr (A : Ad) (k : Nat) (s : Stm) : Prop := ∃ ss : List Str, f__law_line_rows A k [s.e] = .ok (.lst (ss.map .str)) [none] ∧ Rows ss s.rows s.chars
def Ro (A : Ad) (k : Nat) (b : List Stm) : Prop := ∃ ss : List Str, f__law_rows_of A k [.tup (es b)] = .ok (.lst (ss.map .str)) [none] ∧ Rows ss (rowsL b) (charsL b)
theorem ro_of (A : Ad) {k : Nat} {b : List Stm} (h : ∀ s ∈ b, Lr A k s) (hr : rowsL b ≤ 100000) : Ro A (k + 1) b := by
  have hS := hSz
  have all : ∀ b : List Stm, (∀ s ∈ b, Lr A k s) → ∃ (xss : List (List T)) (ss : List Str), lsts ((es b).map (lrF A k)) = some xss ∧ xss.flatten = ss.map .str ∧ Rows ss (rowsL b) (charsL b) := by
    intro b
    induction b with
    | nil => intro _; exact ⟨[], [], rfl, rfl, .nil⟩
    | cons s r ih =>
      intro h
      obtain ⟨xss, ss, e1, e2, hR⟩ := ih fun t ht => h t (by simp [ht])
      obtain ⟨s1, e3, hR1⟩ := h s (by simp)
      refine ⟨s1.map .str :: xss, s1 ++ ss, ?_, ?_, hR1.app hR⟩
      · simp only [es, List.map_cons, lrF_of e3]
        simp only [lsts, e1]
      · simp [e2]
  obtain ⟨xss, ss, e1, e2, hR⟩ := all b h
  have hn := hR.n
  have hlen : (xss.map List.length).sum = ss.length := by rw [← List.length_flatten, e2]; simp
  refine ⟨ss, ?_, hR⟩
  have hb := len_le_rows b
  have hm : ∀ x ∈ es b, f__law_line_rows A k [x] = .ok (lrF A k x) [none] := by
    intro x hx
    rw [es_map] at hx
    obtain ⟨s, hs, rfl⟩ := List.mem_map.mp hx
    obtain ⟨s1, e3, _⟩ := h s hs
    rw [lrF_of e3]
    exact e3
  refine wE_out ?_
  simp only [f__law_rows_of, g_rows]
  refine runF rfl rfl ?_
  simp only [↓r_sRet, ↓r_opL, ↓r_aCons, ↓r_eLc, ↓r_iSeq, ↓r_rd, ↓r_wI0, ↓r_seqT, List.replicate, List.map, List.cons_append, List.nil_append]
  rw [wLC_map (F := lrF A k) (by simp) (by simp; omega) (fun x hx => by simp [↓wE_eq (hm x hx)])]
  simp [sumO, e1, hlen, wO_if, e2]
  omega
theorem len_mem {w : Str} : ∀ {ss : List Str}, w ∈ ss → w.length ≤ (ss.map (·.length)).sum
  | s :: r, h => by
    rcases List.mem_cons.mp h with rfl | h
    · simp
    · have := len_mem h
      simp
      omega
theorem lc_pre {i : Nat} {w : Str} {ss : List Str} {e1 : VS.Env} {Q : T → VS.Env → Prop} (hw : w.length ≤ 1000) (hi : i < e1.length) (hn : ss.length ≤ 100000) (hsum : (ss.map (·.length)).sum ≤ 100000) :
    wLC [i] (gNm i) tYesF (op2 addT (cst (.str w)) (rd i)) (ss.map .str) e1 Q = Q (.lst ((ss.map fun z => w ++ z).map .str)) e1 := by
  rw [wLC_map (F := fun z => match z with
      | .str z => .str (w ++ z)
      | _ => .non) hi (by simp; omega) (by
    intro z hz
    obtain ⟨w1, hw1, rfl⟩ := List.mem_map.mp hz
    have : w1.length ≤ 100000 := Nat.le_trans (len_mem hw1) hsum
    have hS := hSz
    have hr : ∀ Q : T → VS.Env → Prop, wE (rd i (e1.set i (some (.str w1)))) Q = Q (.str w1) (e1.set i (some (.str w1))) := by
      intro Q
      rw [wE_rd]
      simp [wI, hi]
    simp [↓hr]
    omega)]
  simp [Function.comp_def]
theorem lr_in {ss : List Str} {e1 : VS.Env} {Q : T → VS.Env → Prop} (hi : 2 < e1.length) (hn : ss.length ≤ 100000) (hsum : (ss.map (·.length)).sum ≤ 100000) :
    wLC [2] (gNm 2) tYesF (op2 addT (cst (.str "  ")) (rd 2)) (ss.map .str) e1 Q = Q (.lst ((ss.map fun z => ("  " : Str) ++ z).map .str)) e1 := lc_pre (by decide +kernel) hi hn hsum
theorem if_tx (w : Str) {n m : Nat} (hw : Tx w n) {s : Str} (hs : Tx s m) : Tx (w ++ " " ++ s) (n + 1 + m) := ((hw.add (b := " ") (m := 1) ⟨by decide +kernel, by decide +kernel⟩).add hs)
theorem lr_ite (A : Ad) {k : Nat} {t : Te} {x y : List Stm} (ht : t.dep < 12) (hx : Ro A k x) (hy : Ro A k y) (hd : Dd 64 (.tup (es y))) (hc : (Stm.ite t x y).chars ≤ 100000) : Lr A (k + 1) (.ite t x y) := by
  have hS := hSz
  simp only [Stm.chars] at hc
  obtain ⟨s, et, hs⟩ := tt_ok A t 12 ht (by omega)
  obtain ⟨s1, e1, h1⟩ := hx
  obtain ⟨s2, e2, h2⟩ := hy
  have hl := hs.len
  have l1 := h1.s
  have l2 := h2.s
  have n1 := h1.n
  have n2 := h2.n
  have g : f__law_line_rows A (k + 1) [(Stm.ite t x y).e] = .ok (.lst (([("if" : Str) ++ " " ++ s] ++ (s1.map fun z => ("  " : Str) ++ z) ++ (if y.isEmpty = true then [] else [("else" : Str)] ++ s2.map fun z => ("  " : Str) ++ z) ++ [("end" : Str)]).map .str)) [none] := by
    have i1 : ∀ (e1 : VS.Env) (Q : T → VS.Env → Prop), 2 < e1.length → wLC [2] (gNm 2) tYesF (op2 addT (cst (.str "  ")) (rd 2)) (s1.map .str) e1 Q = Q (.lst ((s1.map fun z => ("  " : Str) ++ z).map .str)) e1 := fun e1 Q hi => lr_in hi (by omega) (by omega)
    have i2 : ∀ (e1 : VS.Env) (Q : T → VS.Env → Prop), 2 < e1.length → wLC [2] (gNm 2) tYesF (op2 addT (cst (.str "  ")) (rd 2)) (s2.map .str) e1 Q = Q (.lst ((s2.map fun z => ("  " : Str) ++ z).map .str)) e1 := fun e1 Q hi => lr_in hi (by omega) (by omega)
    refine wE_out ?_
    simp only [f__law_line_rows, g_rows]
    refine runF rfl rfl ?_
    cases hy0 : y.isEmpty
    all_goals simp (config := {decide := true}) [Stm.e, ↓wE_eq et, ↓wE_eq e1, ↓wE_eq e2, ↓i1, ↓i2, ↓wO_eq (neT_tup_nil hd), hy0, PySem.Str.length_append]
    all_goals omega
  refine ⟨_, g, ?_⟩
  have r1 : Rows [("if" : Str) ++ " " ++ s] 1 (t.wt + 4) := Rows.one (if_tx "if" (n := 2) ⟨by decide +kernel, by decide +kernel⟩ hs) (by omega)
  have r2 : Rows (if y.isEmpty = true then [] else [("else" : Str)] ++ s2.map fun z => ("  " : Str) ++ z) (1 + rowsL y) (5 + (charsL y + 2 * rowsL y)) := by
    split
    · exact Rows.nil.mono (by omega) (by omega)
    · exact (Rows.one (n := 4) ⟨by decide +kernel, by decide +kernel⟩ (by omega)).app h2.inn
  have r3 : Rows [("end" : Str)] 1 4 := Rows.one (n := 3) ⟨by decide +kernel, by decide +kernel⟩ (by omega)
  exact (((r1.app h1.inn).app r2).app r3).mono (by simp only [Stm.rows]; omega) (by simp only [Stm.chars]; omega)
theorem lr_whl (A : Ad) {k : Nat} {t : Te} {x : List Stm} (ht : t.dep < 12) (hx : Ro A k x) (hc : (Stm.whl t x).chars ≤ 100000) : Lr A (k + 1) (.whl t x) := by
  have hS := hSz
  simp only [Stm.chars] at hc
  obtain ⟨s, et, hs⟩ := tt_ok A t 12 ht (by omega)
  obtain ⟨s1, e1, h1⟩ := hx
  have hl := hs.len
  have l1 := h1.s
  have n1 := h1.n
  have g : f__law_line_rows A (k + 1) [(Stm.whl t x).e] = .ok (.lst (([("while" : Str) ++ " " ++ s] ++ (s1.map fun z => ("  " : Str) ++ z) ++ [("end" : Str)]).map .str)) [none] := by
    have i1 : ∀ (e1 : VS.Env) (Q : T → VS.Env → Prop), 2 < e1.length → wLC [2] (gNm 2) tYesF (op2 addT (cst (.str "  ")) (rd 2)) (s1.map .str) e1 Q = Q (.lst ((s1.map fun z => ("  " : Str) ++ z).map .str)) e1 := fun e1 Q hi => lr_in hi (by omega) (by omega)
    refine wE_out ?_
    simp only [f__law_line_rows, g_rows]
    refine runF rfl rfl ?_
    simp (config := {decide := true}) [Stm.e, ↓wE_eq et, ↓wE_eq e1, ↓i1, PySem.Str.length_append]
    omega
  refine ⟨_, g, ?_⟩
  have r1 : Rows [("while" : Str) ++ " " ++ s] 1 (t.wt + 7) := Rows.one (if_tx "while" (n := 5) ⟨by decide +kernel, by decide +kernel⟩ hs) (by omega)
  have r3 : Rows [("end" : Str)] 1 4 := Rows.one (n := 3) ⟨by decide +kernel, by decide +kernel⟩ (by omega)
  exact ((r1.app h1.inn).app r3).mono (by simp only [Stm.rows]; omega) (by simp only [Stm.chars]; omega)
theorem lr_put (A : Ad) {k : Nat} (x : Nm) : Lr A (k + 1) (.put x) := by
  have hS := hSz
  refine ⟨["put o " ++ x.s], wE_out ?_, (Rows.one (c := 9) ((Tx.add (a := "put o ") (n := 6) ⟨by decide +kernel, by decide +kernel⟩ x.tx)) (by omega)).mono (by simp [Stm.rows]) (by simp [Stm.chars])⟩
  simp only [f__law_line_rows, g_rows]
  refine runF rfl rfl ?_
  cases x <;> simp (config := {decide := true}) [Stm.e, Nm.s, listO, joinT, itemsO, strsO]
theorem lr_skip (A : Ad) {k : Nat} (x : Nm) : Lr A (k + 1) (.skip x) := by
  have hS := hSz
  refine ⟨["skip " ++ x.s], wE_out ?_, (Rows.one (c := 9) ((Tx.add (a := "skip ") (n := 5) ⟨by decide +kernel, by decide +kernel⟩ x.tx)) (by omega)).mono (by simp [Stm.rows]) (by simp [Stm.chars])⟩
  simp only [f__law_line_rows, g_rows]
  refine runF rfl rfl ?_
  cases x <;> simp (config := {decide := true}) [Stm.e, Nm.s, listO, joinT, itemsO, strsO]
theorem lr_keep (A : Ad) {k : Nat} (x : Nm) : Lr A (k + 1) (.keep x) := by
  have hS := hSz
  refine ⟨["keep r " ++ x.s], wE_out ?_, (Rows.one (c := 9) ((Tx.add (a := "keep r ") (n := 7) ⟨by decide +kernel, by decide +kernel⟩ x.tx)) (by omega)).mono (by simp [Stm.rows]) (by simp [Stm.chars])⟩
  simp only [f__law_line_rows, g_rows]
  refine runF rfl rfl ?_
  cases x <;> simp (config := {decide := true}) [Stm.e, Nm.s, listO, joinT, itemsO, strsO]
theorem lr_flag (A : Ad) {k : Nat} (v : Bool) : Lr A (k + 1) (.flag v) := by
  have hS := hSz
  refine ⟨[(if v then ("up " : Str) else "down ") ++ "f"], wE_out ?_, (Rows.one (n := 8) (c := 9) (by cases v <;> exact ⟨by decide +kernel, by decide +kernel⟩) (by omega)).mono (by simp [Stm.rows]) (by simp [Stm.chars])⟩
  simp only [f__law_line_rows, g_rows]
  refine runF rfl rfl ?_
  cases v <;> simp (config := {decide := true}) [Stm.e]
mutual
theorem lr_ok (A : Ad) : ∀ (s : Stm) (k : Nat), 2 * s.dep + 1 ≤ k → s.td ≤ 11 → s.dep ≤ 8 → s.chars ≤ 100000 → Lr A k s
  | _, 0, h, _, _, _ => absurd h (by omega)
  | .ite t x y, k + 1, h, ht, hd, hc => by
    simp only [Stm.dep, Stm.td, Stm.chars] at h ht hd
    have hc' := hc
    simp only [Stm.chars] at hc'
    exact lr_ite A (by omega) (ro_ok A x k (by omega) (by omega) (by omega) (by omega)) (ro_ok A y k (by omega) (by omega) (by omega) (by omega)) ((es_dd y 11 (by omega)).mono (by omega)) hc
  | .whl t x, k + 1, h, ht, hd, hc => by
    simp only [Stm.dep, Stm.td, Stm.chars] at h ht hd
    have hc' := hc
    simp only [Stm.chars] at hc'
    exact lr_whl A (by omega) (ro_ok A x k (by omega) (by omega) (by omega) (by omega)) hc
  | .put x, k + 1, _, _, _, _ => lr_put A x
  | .skip x, k + 1, _, _, _, _ => lr_skip A x
  | .keep x, k + 1, _, _, _, _ => lr_keep A x
  | .flag v, k + 1, _, _, _, _ => lr_flag A v
theorem lrs_ok (A : Ad) : ∀ (b : List Stm) (k : Nat), 2 * depL b + 1 ≤ k → tdL b ≤ 11 → depL b ≤ 8 → charsL b ≤ 100000 → ∀ s ∈ b, Lr A k s
  | [], _, _, _, _, _ => fun _ h => nomatch h
  | s :: r, k, h, ht, hd, hc => by
    simp only [depL, tdL, charsL] at h ht hd hc
    have h1 := lr_ok A s k (by omega) (by omega) (by omega) (by omega)
    have h2 := lrs_ok A r k (by omega) (by omega) (by omega) (by omega)
    intro u hu
    rcases List.mem_cons.mp hu with rfl | hu
    · exact h1
    · exact h2 u hu
theorem ro_ok (A : Ad) : ∀ (b : List Stm) (k : Nat), 2 * depL b + 2 ≤ k → tdL b ≤ 11 → depL b ≤ 8 → charsL b ≤ 100000 → Ro A k b
  | _, 0, h, _, _, _ => absurd h (by omega)
  | b, k + 1, h, ht, hd, hc => ro_of A (lrs_ok A b k (by omega) ht hd hc) (Nat.le_trans (rows_le_chars b) hc)
end
end K64
-- K64w
set_option Elab.async false
set_option linter.all false
set_option maxRecDepth 100000
set_option maxHeartbeats 8000000
/-! K64w: terms, claims, the text of a plan. -/
namespace K64
open PySem L2 VS
inductive TW | plus | less | least | greatest
def TW.s : TW → Str
  | .plus => "plus" | .less => "less" | .least => "least" | .greatest => "greatest"
inductive Tm | of (x : Nm) | num (n : Nat) | often (n : Nat) (t : Tm) | bin (w : TW) (s t : Tm)
def Tm.e : Tm → T
  | .of x => .tup [.str "of", .str x.s]
  | .num n => .tup [.str "number", .int n]
  | .often n t => .tup [.str "often", .int n, t.e]
  | .bin w s t => .tup [.str w.s, s.e, t.e]
def D0 : List Tm := [.of .a, .of .b, .num 0, .num 1, .num 2]
def D1 : List Tm := D0 ++ ([0, 1, 2].flatMap fun n => D0.map (.often n)) ++ ([TW.plus, .less, .least, .greatest].flatMap fun w => D0.flatMap fun s => D0.map (.bin w s))
/-- claims -/
inductive Cl | asc | times (t : Tm) | comp (c p q : Nat)
def Cl.e : Cl → T
  | .asc => .tup [.str "ascends", .str "o"]
  | .times t => .tup [.str "times", .str "o", t.e]
  | .comp c p q => .tup [.str "compares", .tup [.int c, .tup [.tup [.str "a", .int p], .tup [.str "b", .int q]]]]
def Cs : List Cl := [.asc] ++ D1.map .times ++ [0, 1, 2].flatMap fun c => [1, 2, 3].flatMap fun p => [1, 2, 3].map fun q => .comp c p q
def chkC (A : Ad) (t : T) : Bool := match f__law_claim_text A [t] with
  | .ok (.str s) [none] => decide (s.length ≤ 60) && Asc s
  | _ => false
theorem chk_cs (A : Ad) : Cs.all (fun c => chkC A c.e) = true := by kernel_rfl
/-- what claim_text gives -/
def ctS (A : Ad) (t : T) : Str := match f__law_claim_text A [t] with
  | .ok (.str s) _ => s
  | _ => ""
theorem ct_ok (A : Ad) {c : Cl} (h : c ∈ Cs) : f__law_claim_text A [c.e] = .ok (.str (ctS A c.e)) [none] ∧ Tx (ctS A c.e) 60 := by
  have q := List.all_eq_true.mp (chk_cs A) c h
  unfold chkC at q
  unfold ctS
  split at q
  · rename_i s e
    simp only [Bool.and_eq_true, decide_eq_true_eq] at q
    rw [e]
    exact ⟨rfl, q.1, q.2⟩
  · cases q
/-- plans -/
structure Pl where
  keeps : Bool
  flags : Bool
  body : List Stm
  claims : List Cl
def Pl.e (p : Pl) : T := .tup [.tup [.str "a", .str "b"], .tup [.str "o"], .tup ((if p.keeps then [("r" : Str)] else []).map .str), .tup ((if p.flags then [("f" : Str)] else []).map .str), .tup (es p.body), .tup (p.claims.map Cl.e)]
theorem plan_text_ok (A : Ad) (p : Pl) (hd : depL p.body ≤ 6) (ht : tdL p.body ≤ 11) (hc : charsL p.body ≤ 5000) (hl : p.claims.length ≤ 3) (hm : ∀ c ∈ p.claims, c ∈ Cs) :
    ∃ s, f__law_plan_text A [p.e] = .ok (.str s) [none] ∧ Tx s (charsL p.body + 300) := by
  have hS := hSz
  obtain ⟨ss, e, hR⟩ := ro_ok A p.body 16 (by omega) ht (by omega) (by omega)
  have hn := hR.n
  have hs := hR.s
  have hrc := rows_le_chars p.body
  have i0 : ∀ (e1 : VS.Env) (Q : T → VS.Env → Prop), 2 < e1.length → wLC [2] (gNm 2) tYesF (op2 addT (cst (.str "in ")) (rd 2)) [.str "a", .str "b"] e1 Q = Q (.lst (([("a" : Str), ("b" : Str)].map fun z : Str => ("in " : Str) ++ z).map .str)) e1 := fun e1 Q hi => lc_pre (w := "in ") (ss := [("a" : Str), ("b" : Str)]) (by decide +kernel) hi (by decide) (by decide +kernel)
  have i1 : ∀ (e1 : VS.Env) (Q : T → VS.Env → Prop), 2 < e1.length → wLC [2] (gNm 2) tYesF (op2 addT (cst (.str "out ")) (rd 2)) [.str "o"] e1 Q = Q (.lst (([("o" : Str)].map fun z : Str => ("out " : Str) ++ z).map .str)) e1 := fun e1 Q hi => lc_pre (w := "out ") (ss := [("o" : Str)]) (by decide +kernel) hi (by decide) (by decide +kernel)
  have i2 : ∀ (e1 : VS.Env) (Q : T → VS.Env → Prop), 2 < e1.length → wLC [2] (gNm 2) tYesF (op2 addT (cst (.str "keep ")) (rd 2)) ((if p.keeps then [("r" : Str)] else []).map .str) e1 Q = Q (.lst (((if p.keeps then [("r" : Str)] else []).map fun z : Str => ("keep " : Str) ++ z).map .str)) e1 := fun e1 Q hi => lc_pre (by decide +kernel) hi (by split <;> simp) (by split <;> simp)
  have i3 : ∀ (e1 : VS.Env) (Q : T → VS.Env → Prop), 2 < e1.length → wLC [2] (gNm 2) tYesF (op2 addT (cst (.str "flag ")) (rd 2)) ((if p.flags then [("f" : Str)] else []).map .str) e1 Q = Q (.lst (((if p.flags then [("f" : Str)] else []).map fun z : Str => ("flag " : Str) ++ z).map .str)) e1 := fun e1 Q hi => lc_pre (by decide +kernel) hi (by split <;> simp) (by split <;> simp)
  have i4 : ∀ (e1 : VS.Env) (Q : T → VS.Env → Prop), 3 < e1.length → wLC [3] (gNm 3) tYesF (VS.cal0 (f__law_claim_text A) (aCons (rd 3) aNil)) (p.claims.map Cl.e) e1 Q = Q (.lst ((p.claims.map fun c => ctS A c.e).map .str)) e1 := by
    intro e1 Q hi
    rw [wLC_map (F := fun t => .str (ctS A t)) hi (by simp; omega) (by
      intro x hx
      obtain ⟨c, hc, rfl⟩ := List.mem_map.mp hx
      have hr : ∀ Q : T → VS.Env → Prop, wE (rd 3 (e1.set 3 (some c.e))) Q = Q c.e (e1.set 3 (some c.e)) := by
        intro Q
        rw [wE_rd]
        simp [wI, hi]
      simp [↓hr, ↓wE_eq (ct_ok A (hm c hc)).1])]
    simp [Function.comp_def]
  let rows : List Str := ([("a" : Str), ("b" : Str)].map fun z : Str => ("in " : Str) ++ z) ++ ([("o" : Str)].map fun z : Str => ("out " : Str) ++ z) ++ ((if p.keeps then [("r" : Str)] else []).map fun z : Str => ("keep " : Str) ++ z) ++ ((if p.flags then [("f" : Str)] else []).map fun z : Str => ("flag " : Str) ++ z) ++ ss ++ (p.claims.map fun c => ctS A c.e)
  have hrows : Rows rows (rowsL p.body + 8) (charsL p.body + 300) := by
    have r0 : Rows ([("a" : Str), ("b" : Str)].map fun z : Str => ("in " : Str) ++ z) 2 20 := ⟨by decide, by decide +kernel, by decide +kernel⟩
    have r1 : Rows ([("o" : Str)].map fun z : Str => ("out " : Str) ++ z) 1 20 := ⟨by decide, by decide +kernel, by decide +kernel⟩
    have r2 : Rows ((if p.keeps then [("r" : Str)] else []).map fun z : Str => ("keep " : Str) ++ z) 1 20 := by
      cases p.keeps
      · exact Rows.nil.mono (by omega) (by omega)
      · exact ⟨by decide, by decide +kernel, by decide +kernel⟩
    have r3 : Rows ((if p.flags then [("f" : Str)] else []).map fun z : Str => ("flag " : Str) ++ z) 1 20 := by
      cases p.flags
      · exact Rows.nil.mono (by omega) (by omega)
      · exact ⟨by decide, by decide +kernel, by decide +kernel⟩
    have r4 : ∀ cs : List Cl, (∀ c ∈ cs, c ∈ Cs) → Rows (cs.map fun c => ctS A c.e) cs.length (61 * cs.length) := by
      intro cs
      induction cs with
      | nil => intro _; exact Rows.nil
      | cons c r ih =>
        intro h
        have := (Rows.one (c := 61) (ct_ok A (h c (by simp))).2 (by omega)).app (ih fun d hd => h d (by simp [hd]))
        exact this.mono (by simp; omega) (by simp; omega)
    have r5 := r4 p.claims hm
    exact (((((r0.app r1).app r2).app r3).app hR).app r5).mono (by omega) (by omega)
  have hj := hrows.s
  refine ⟨Txt.join "\n" rows, wE_out ?_, ?_⟩
  · unfold f__law_plan_text
    refine runF rfl rfl ?_
    simp (config := {decide := true}) [Pl.e, ↓wE_eq e, ↓i0, ↓i1, ↓i2, ↓i3, ↓i4, PySem.Str.length_append]
    have kl : (if p.keeps = true then [Str.ofString "r"] else []).length ≤ 1 := by split <;> simp
    have fl : (if p.flags = true then [Str.ofString "f"] else []).length ≤ 1 := by split <;> simp
    refine ⟨by omega, by omega, by omega, by omega, ?_⟩
    have e9 : wO (joinT (.str "\n") [.lst (rows.map .str)]) (fun v => v = T.str (Txt.join "\n" rows)) := by
      rw [joinT_lst (by simp only [lit_2]; omega)]
      rfl
    have er : rows.map T.str = (T.str (Str.ofString "in " ++ Str.ofString "a") ::
                    T.str (Str.ofString "in " ++ Str.ofString "b") ::
                      T.str (Str.ofString "out " ++ Str.ofString "o") ::
                        (List.map (T.str ∘ fun z => Str.ofString "keep " ++ z)
                            (if p.keeps = true then [Str.ofString "r"] else []) ++
                          (List.map (T.str ∘ fun z => Str.ofString "flag " ++ z)
                              (if p.flags = true then [Str.ofString "f"] else []) ++
                            (List.map T.str ss ++ List.map (T.str ∘ fun c => ctS A c.e) p.claims)))) := by
      simp [rows]
    rw [er] at e9
    exact e9
  · have := Tx.join (sep := "\n") (n := 1) ⟨by decide +kernel, by decide +kernel⟩ hrows.a
    exact this.mono (by omega)
end K64
-- K64x
set_option Elab.async false
set_option linter.all false
set_option maxRecDepth 100000
set_option maxHeartbeats 8000000
/-! K64x: places of statements, statements put in the place of one, tests turned, statements bent. -/
namespace K64
open PySem L2 VS
def enF (n : Nat) : List T → List T
  | [] => []
  | x :: xs => .tup [.int n, x] :: enF (n + 1) xs
theorem enL_eq (xs : List T) : enL xs = enF 0 xs := by
  have h : ∀ (xs : List T) (n : Nat), (xs.zipIdx n).map (fun p => T.tup [.int (p.2 : Nat), p.1]) = enF n xs := by
    intro xs
    induction xs with
    | nil => intro n; rfl
    | cons x r ih =>
      intro n
      rw [List.zipIdx_cons, List.map_cons, ih]
      rfl
  exact h xs 0
inductive Loc : List Stm → List Nat → Stm → Prop
  | here (pre : List Stm) (s : Stm) (post : List Stm) : Loc (pre ++ s :: post) [pre.length] s
  | ite2 (pre : List Stm) (t : Te) (x y post : List Stm) {p : List Nat} {s : Stm} (h : Loc x p s) : Loc (pre ++ .ite t x y :: post) (pre.length :: 2 :: p) s
  | ite3 (pre : List Stm) (t : Te) (x y post : List Stm) {p : List Nat} {s : Stm} (h : Loc y p s) : Loc (pre ++ .ite t x y :: post) (pre.length :: 3 :: p) s
  | whl2 (pre : List Stm) (t : Te) (x post : List Stm) {p : List Nat} {s : Stm} (h : Loc x p s) : Loc (pre ++ .whl t x :: post) (pre.length :: 2 :: p) s
def nT (p : List Nat) : List T := p.map fun n => .int (n : Nat)
def fdT (P : List T) (q : List Nat × Stm) : T := .tup [.tup (P ++ nT q.1), q.2.e]
/-- what is found behind a part of a body -/
structure Fnd (b : List Stm) (r : Nat) (m : Nat) (found : List (List Nat × Stm)) : Prop where
  loc : ∀ q ∈ found, Loc b q.1 q.2
  lo : m ≤ found.length
  hi : found.length ≤ r
def StOk (A : Ad) (k : Nat) : Prop := ∀ (b : List Stm) (P : List T), depL b < k → rowsL b ≤ 10000 → P.length + 2 * k ≤ 1000 → ∃ found, f__law_statements A k [.tup (es b), .tup P] = .ok (.lst (found.map (fdT P))) [none, none] ∧ Fnd b (rowsL b) b.length found
theorem fdT_sub {P : List T} {n j : Nat} {f : List (List Nat × Stm)} : f.map (fdT (P ++ [.int n, .int (j : Nat)])) = (f.map fun q => (n :: j :: q.1, q.2)).map (fdT P) := by
  simp [fdT, nT, Function.comp_def]
theorem st_loop (A : Ad) {k : Nat} (ih : StOk A k) (P : List T) (hP : P.length + 2 * k + 2 ≤ 1000) {b : List Stm} {D : VS.Fin} : ∀ (suf pre : List Stm) (acc : List T) (o3 o4 o5 : Option T), b = pre ++ suf → depL b < k + 1 → acc.length + rowsL suf ≤ 10000 →
    (∀ (found : List (List Nat × Stm)) (o3 o4 o5 : Option T), Fnd b (rowsL suf) suf.length found → D.nx [some (.tup (es b)), some (.tup P), some (.lst (acc ++ found.map (fdT P))), o3, o4, o5]) →
    wS (forL (enF pre.length (es suf)) (tgB (gTu (gCo (gNm 3) (gCo (gNm 4) (gNl))) 2) (sSeq (sEx (VS.mtO 2 apM (aCons (opL tupF (aCons (op2 addT (rd 1) (opL tupF (aCons (rd 3) (aNil)))) (aCons (rd 4) (aNil)))) (aNil)))) (sFor (iSeq (VS.ife (tst isBl (op2 eqT (op2 ixT (rd 4) (cst (.int 0))) (cst (.str "if")))) (opL lstF (aCons (cst (.int 2)) (aCons (cst (.int 3)) (aNil)))) (VS.ife (tst isBl (op2 eqT (op2 ixT (rd 4) (cst (.int 0))) (cst (.str "while")))) (opL lstF (aCons (cst (.int 2)) (aNil))) (opL lstF (aNil))))) (gNm 5) (sEx (VS.mtO 2 exM (aCons (VS.cal0 (f__law_statements A k) (aCons (op2 ixT (rd 4) (rd 5)) (aCons (op2 addT (rd 1) (opL tupF (aCons (rd 3) (aCons (rd 5) (aNil))))) (aNil)))) (aNil)))))))
      [some (.tup (es b)), some (.tup P), some (.lst acc), o3, o4, o5]) D
  | [], pre, acc, o3, o4, o5, _, _, _, h => by
    have := h [] o3 o4 o5 ⟨by simp, by simp, by simp⟩
    simpa [enF, es] using this
  | s :: suf, pre, acc, o3, o4, o5, hb, hd, ha, h => by
    have hS := hSz
    have hd' := hd
    rw [hb, depL_app] at hd'
    simp only [depL, rowsL] at hd' ha
    have next : ∀ (fs : List (List Nat × Stm)) (o3 o4 o5 : Option T), (∀ q ∈ fs, Loc b q.1 q.2) → 1 ≤ fs.length → fs.length ≤ s.rows → wS (forL (enF (pre.length + 1) (es suf)) _ [some (.tup (es b)), some (.tup P), some (.lst (acc ++ fs.map (fdT P))), o3, o4, o5]) D := fun fs o3 o4 o5 hl h1 h2 =>
      (by simp : (pre ++ [s]).length = pre.length + 1) ▸ st_loop A ih P hP suf (pre ++ [s]) (acc ++ fs.map (fdT P)) o3 o4 o5 (by simp [hb]) hd (by simp; omega) fun found o3 o4 o5 hf => by
        have := h (fs ++ found) o3 o4 o5 ⟨fun q hq => (List.mem_append.mp hq).elim (hl q) (hf.loc q), by have := hf.lo; simp; omega, by have := hf.hi; simp only [rowsL, List.length_append]; omega⟩
        simpa using this
    cases s with
    | ite t x y =>
      simp only [Stm.dep, Stm.rows] at hd' ha
      obtain ⟨f1, e1, h1⟩ := ih x (P ++ [.int pre.length, .int 2]) (by omega) (by omega) (by simp; omega)
      obtain ⟨f2, e2, h2⟩ := ih y (P ++ [.int pre.length, .int 3]) (by omega) (by omega) (by simp; omega)
      have hf1 := h1.hi
      have hf2 := h2.hi
      have q := next (([pre.length], .ite t x y) :: (f1.map fun q => (pre.length :: 2 :: q.1, q.2)) ++ f2.map fun q => (pre.length :: 3 :: q.1, q.2)) (some (.int pre.length)) (some (Stm.ite t x y).e) (some (.int 3)) (by
        intro q hq
        subst hb
        simp only [List.cons_append, List.mem_cons, List.mem_append, List.mem_map] at hq
        rcases hq with rfl | ⟨z, hz, rfl⟩ | ⟨z, hz, rfl⟩
        · exact .here pre _ suf
        · exact .ite2 pre t x y suf (h1.loc z hz)
        · exact .ite3 pre t x y suf (h2.loc z hz)) (by simp) (by simp only [Stm.rows]; simp; omega)
      simp only [es, enF]
      simp only [Stm.e] at q ⊢
      simp (config := {decide := true}) [↓wE_eq e1, ↓wE_eq e2]
      refine ⟨by omega, by omega, by omega, by omega, by omega, by omega, ?_⟩
      rw [List.map_append, List.map_cons, ← fdT_sub (j := 2), ← fdT_sub (j := 3)] at q
      simpa [fdT, nT, Stm.e] using q
    | whl t x =>
      simp only [Stm.dep, Stm.rows] at hd' ha
      obtain ⟨f1, e1, h1⟩ := ih x (P ++ [.int pre.length, .int 2]) (by omega) (by omega) (by simp; omega)
      have hf1 := h1.hi
      have q := next (([pre.length], .whl t x) :: (f1.map fun q => (pre.length :: 2 :: q.1, q.2))) (some (.int pre.length)) (some (Stm.whl t x).e) (some (.int 2)) (by
        intro q hq
        subst hb
        simp only [List.mem_cons, List.mem_map] at hq
        rcases hq with rfl | ⟨z, hz, rfl⟩
        · exact .here pre _ suf
        · exact .whl2 pre t x suf (h1.loc z hz)) (by simp) (by simp only [Stm.rows]; simp; omega)
      simp only [es, enF]
      simp only [Stm.e] at q ⊢
      simp (config := {decide := true}) [↓wE_eq e1]
      refine ⟨by omega, by omega, by omega, by omega, ?_⟩
      rw [List.map_cons, ← fdT_sub (j := 2)] at q
      simpa [fdT, nT, Stm.e] using q
    | put x => 
      simp only [Stm.rows] at ha
      have q := next [([pre.length], .put x)] (some (.int pre.length)) (some (Stm.put x).e) o5 (by
        intro q hq
        subst hb
        simp only [List.mem_singleton] at hq
        subst hq
        exact .here pre _ suf) (by simp) (by simp [Stm.rows])
      simp only [es, enF]
      simp only [Stm.e] at q ⊢
      simp (config := {decide := true})
      refine ⟨by omega, by omega, ?_⟩
      simpa [fdT, nT, Stm.e] using q
    | skip x => 
      simp only [Stm.rows] at ha
      have q := next [([pre.length], .skip x)] (some (.int pre.length)) (some (Stm.skip x).e) o5 (by
        intro q hq
        subst hb
        simp only [List.mem_singleton] at hq
        subst hq
        exact .here pre _ suf) (by simp) (by simp [Stm.rows])
      simp only [es, enF]
      simp only [Stm.e] at q ⊢
      simp (config := {decide := true})
      refine ⟨by omega, by omega, ?_⟩
      simpa [fdT, nT, Stm.e] using q
    | keep x => 
      simp only [Stm.rows] at ha
      have q := next [([pre.length], .keep x)] (some (.int pre.length)) (some (Stm.keep x).e) o5 (by
        intro q hq
        subst hb
        simp only [List.mem_singleton] at hq
        subst hq
        exact .here pre _ suf) (by simp) (by simp [Stm.rows])
      simp only [es, enF]
      simp only [Stm.e] at q ⊢
      simp (config := {decide := true})
      refine ⟨by omega, by omega, ?_⟩
      simpa [fdT, nT, Stm.e] using q
    | flag x => 
      simp only [Stm.rows] at ha
      have q := next [([pre.length], .flag x)] (some (.int pre.length)) (some (Stm.flag x).e) o5 (by
        intro q hq
        subst hb
        simp only [List.mem_singleton] at hq
        subst hq
        exact .here pre _ suf) (by simp) (by simp [Stm.rows])
      simp only [es, enF]
      simp only [Stm.e] at q ⊢
      simp (config := {decide := true})
      refine ⟨by omega, by omega, ?_⟩
      simpa [fdT, nT, Stm.e] using q
theorem st_ok (A : Ad) : ∀ k : Nat, StOk A k
  | 0 => fun b P h _ _ => absurd h (by omega)
  | k + 1 => fun b P h hr hP => by
    have hf : ∃ found, wE (f__law_statements A (k + 1) [.tup (es b), .tup P]) (fun v e => v = .lst (found.map (fdT P)) ∧ e = [none, none]) ∧ Fnd b (rowsL b) b.length found := by
      have key : wE (f__law_statements A (k + 1) [.tup (es b), .tup P]) (fun v e => ∃ found, (v = .lst (found.map (fdT P)) ∧ e = [none, none]) ∧ Fnd b (rowsL b) b.length found) := by
        unfold f__law_statements
        refine runF rfl rfl ?_
        simp only [↓r_sSeq, ↓r_sSet, ↓r_opL, ↓r_aNil, ↓r_lstF0, ↓r_wP2, List.map, List.replicate, List.cons_append, List.nil_append, ↓r_sFor, ↓r_iOpt, ↓r_aCons, ↓r_rd, ↓r_wI0, ↓r_enT, enL_eq]
        exact st_loop A (st_ok A k) P (by omega) b [] [] none none none rfl h (by simpa using hr) fun found o3 o4 o5 hF => by
          simp
          exact ⟨found, rfl, hF⟩
      obtain ⟨v, e, h1, found, h2, h3⟩ := wE_ex key
      exact ⟨found, by rw [h1]; exact h2, h3⟩
    obtain ⟨found, h1, h2⟩ := hf
    exact ⟨found, wE_out h1, h2⟩
end K64
-- K64y
set_option Elab.async false
set_option linter.all false
set_option maxRecDepth 100000
set_option maxHeartbeats 8000000
/-! K64y: statements put in the place of one; tests turned; statements bent. -/
namespace K64
open PySem L2 VS
theorem es_app (x y : List Stm) : es (x ++ y) = es x ++ es y := by simp [es_map]
theorem wAt_mid {pre post : List T} {t : T} {n : Nat} {Q : T → Prop} (h : pre.length = n) : wAt (pre ++ t :: post) (n : Int) Q = Q t := by
  subst h
  show wO (atI _ ((pre.length : Nat) : Int)) Q = Q t
  rw [VS.atI_nat]
  simp
theorem cut_pre {pre post : List T} {n : Nat} (h : pre.length = n) : cutT (pre ++ post) none (some (n : Int)) = pre := by
  subst h
  rw [cutT_to]
  simp
theorem cut_post {pre post : List T} {t : T} {n : Nat} (h : pre.length = n) : cutT (pre ++ t :: post) (some ((n : Int) + 1)) none = post := by
  subst h
  rw [show ((pre.length : Int) + 1) = ((pre.length + 1 : Nat) : Int) by omega, cutT_from]
  simp
theorem nT_cons {a : Nat} {p : List Nat} : nT (a :: p) = .int a :: nT p := rfl
theorem nT_nil : nT [] = [] := rfl
theorem nT_len {p : List Nat} : (nT p).length = p.length := by simp [nT]
theorem cut_rest {n : Nat} {r : List T} : cutT (r) (some (n : Int)) none = r.drop n := cutT_from
/-- what may stand for one -/
structure Fit (d m r c : Nat) (b : List Stm) : Prop where
  d : depL b ≤ d
  m : tdL b ≤ m
  r : rowsL b ≤ r
  c : charsL b ≤ c
theorem Loc.depth {b : List Stm} {p : List Nat} {s : Stm} (h : Loc b p s) : s.dep ≤ depL b := by
  induction h with
  | here pre s post => rw [depL_app]; simp only [depL]; omega
  | ite2 pre t x y post h ih => rw [depL_app]; simp only [depL, Stm.dep]; omega
  | ite3 pre t x y post h ih => rw [depL_app]; simp only [depL, Stm.dep]; omega
  | whl2 pre t x post h ih => rw [depL_app]; simp only [depL, Stm.dep]; omega
theorem rep_ok (A : Ad) {b : List Stm} {p : List Nat} {s : Stm} (h : Loc b p s) : ∀ (k : Nat) (new : List Stm), depL b < k → rowsL b ≤ 10000 → new.length ≤ 100 → Fit s.dep (s.td + 1) (2 * s.rows) (2 * s.chars + 6) new →
    ∃ b', f__law_replaced A k [.tup (es b), .tup (nT p), .tup (es new)] = .ok (.tup (es b')) [none, none, none] ∧ Fit (depL b) (tdL b + 1) (2 * rowsL b) (2 * charsL b + 6) b' ∧ b'.length ≤ b.length + 100 := by
  have hS := hSz
  induction h with
  | here pre s post =>
    intro k new hk hr hn hf
    obtain ⟨k, rfl⟩ : ∃ j, k = j + 1 := ⟨k - 1, by omega⟩
    have l1 := len_le_rows (pre ++ s :: post)
    simp only [List.length_append, List.length_cons] at l1
    refine ⟨pre ++ new ++ post, wE_out ?_, ⟨?_, ?_, ?_, ?_⟩, by simp <;> omega⟩
    · unfold f__law_replaced
      refine runF rfl rfl ?_
      simp (config := {decide := true, implicitDefEqProofs := false}) [nT_cons, nT_nil, es_app, es, cut_pre, cut_post]
      omega
    · have := hf.d; simp only [depL_app, depL]; omega
    · have := hf.m; simp only [tdL_app, tdL]; omega
    · have := hf.r; simp only [rowsL_app, rowsL]; omega
    · have := hf.c; simp only [charsL_app, charsL]; omega
  | @ite2 pre t x y post p0 s0 h ih =>
    intro k new hk hr hn hf
    obtain ⟨k, rfl⟩ : ∃ j, k = j + 1 := ⟨k - 1, by omega⟩
    have l1 := len_le_rows (pre ++ .ite t x y :: post)
    simp only [List.length_append, List.length_cons] at l1
    simp only [depL_app, depL, Stm.dep] at hk
    have hr' := hr
    simp only [rowsL_app, rowsL, Stm.rows] at hr'
    obtain ⟨x', e, hx, hl⟩ := ih k new (by omega) (by omega) hn hf
    refine ⟨pre ++ [.ite t x' y] ++ post, wE_out ?_, ⟨?_, ?_, ?_, ?_⟩, by simp <;> omega⟩
    · unfold f__law_replaced
      refine runF rfl rfl ?_
      have c1 : ¬ ((p0.length : Int) + 1 + 1 = 1) := by omega
      simp (config := {decide := true, implicitDefEqProofs := false}) [nT_cons, nT_len, es_app, es, cut_pre, cut_post, wAt_mid, Stm.e, c1, cutT_lo, cutT_hi, ↓wE_eq e]
      omega
    · have := hx.d; simp only [depL_app, depL, Stm.dep]; omega
    · have := hx.m; simp only [tdL_app, tdL, Stm.td]; omega
    · have := hx.r; simp only [rowsL_app, rowsL, Stm.rows]; omega
    · have := hx.c; have := hx.r; simp only [charsL_app, charsL, Stm.chars]; omega
  | @ite3 pre t x y post p0 s0 h ih =>
    intro k new hk hr hn hf
    obtain ⟨k, rfl⟩ : ∃ j, k = j + 1 := ⟨k - 1, by omega⟩
    have l1 := len_le_rows (pre ++ .ite t x y :: post)
    simp only [List.length_append, List.length_cons] at l1
    simp only [depL_app, depL, Stm.dep] at hk
    have hr' := hr
    simp only [rowsL_app, rowsL, Stm.rows] at hr'
    obtain ⟨y', e, hx, hl⟩ := ih k new (by omega) (by omega) hn hf
    refine ⟨pre ++ [.ite t x y'] ++ post, wE_out ?_, ⟨?_, ?_, ?_, ?_⟩, by simp <;> omega⟩
    · unfold f__law_replaced
      refine runF rfl rfl ?_
      have c1 : ¬ ((p0.length : Int) + 1 + 1 = 1) := by omega
      simp (config := {decide := true, implicitDefEqProofs := false}) [nT_cons, nT_len, es_app, es, cut_pre, cut_post, wAt_mid, Stm.e, c1, cutT_lo, cutT_hi, ↓wE_eq e]
      omega
    · have := hx.d; simp only [depL_app, depL, Stm.dep]; omega
    · have := hx.m; simp only [tdL_app, tdL, Stm.td]; omega
    · have := hx.r; simp only [rowsL_app, rowsL, Stm.rows]; omega
    · have := hx.c; have := hx.r; simp only [charsL_app, charsL, Stm.chars]; omega
  | @whl2 pre t x post p0 s0 h ih =>
    intro k new hk hr hn hf
    obtain ⟨k, rfl⟩ : ∃ j, k = j + 1 := ⟨k - 1, by omega⟩
    have l1 := len_le_rows (pre ++ .whl t x :: post)
    simp only [List.length_append, List.length_cons] at l1
    simp only [depL_app, depL, Stm.dep] at hk
    have hr' := hr
    simp only [rowsL_app, rowsL, Stm.rows] at hr'
    obtain ⟨x', e, hx, hl⟩ := ih k new (by omega) (by omega) hn hf
    refine ⟨pre ++ [.whl t x'] ++ post, wE_out ?_, ⟨?_, ?_, ?_, ?_⟩, by simp <;> omega⟩
    · unfold f__law_replaced
      refine runF rfl rfl ?_
      have c1 : ¬ ((p0.length : Int) + 1 + 1 = 1) := by omega
      simp (config := {decide := true, implicitDefEqProofs := false}) [nT_cons, nT_len, es_app, es, cut_pre, cut_post, wAt_mid, Stm.e, c1, cutT_lo, cutT_hi, ↓wE_eq e]
      omega
    · have := hx.d; simp only [depL_app, depL, Stm.dep]; omega
    · have := hx.m; simp only [tdL_app, tdL, Stm.td]; omega
    · have := hx.r; simp only [rowsL_app, rowsL, Stm.rows]; omega
    · have := hx.c; have := hx.r; simp only [charsL_app, charsL, Stm.chars]; omega
/-- what a turned test is held to -/
structure Trn (A : Ad) (k : Nat) (t : Te) (bag : T) : Prop where
  ex : ∃ (t' : Te) (bag' : T), f__law_turned_test A k [bag, t.e] = .ok t'.e [some bag', none] ∧ Bag bag' ∧ t'.dep ≤ t.dep + 1 ∧ t'.wt ≤ t.wt + 6
def BW.oth : BW → BW
  | .below => .same | .same => .below
theorem turn_ok (A : Ad) : ∀ (t : Te) (k : Nat) (bag : T), t.dep < k → Bag bag → ∃ (t' : Te) (bag' : T), f__law_turned_test A k [bag, t.e] = .ok t'.e [some bag', none] ∧ Bag bag' ∧ t'.dep ≤ t.dep + 1 ∧ t'.wt ≤ t.wt + 6
  | _, 0, _, h, _ => absurd h (by omega)
  | .un w x, k + 1, bag, _, B => by
    have hS := hSz
    refine ⟨.no (.un w x), bag, wE_out ?_, B, by simp [Te.dep], by simp [Te.wt]⟩
    unfold f__law_turned_test
    refine runF rfl rfl ?_
    cases w <;> simp (config := {decide := true, implicitDefEqProofs := false}) [Te.e, UW.s]
  | .bi w x y, k + 1, bag, _, B => by
    have hS := hSz
    obtain ⟨z, b1, e1, hz, B1⟩ := some_ok A B (xs := [(Te.bi w y x).e, (Te.bi w.oth x y).e, (Te.no (.bi w y x)).e]) (by simp) (by simp)
    have run : f__law_turned_test A (k + 1) [bag, (Te.bi w x y).e] = .ok z [some b1, none] := by
      refine wE_out ?_
      unfold f__law_turned_test
      refine runF rfl rfl ?_
      cases w <;> (simp only [Te.e, BW.oth, BW.s] at e1; simp (config := {decide := true, implicitDefEqProofs := false}) [Te.e, BW.s, cutT_lo, ↓wE_eq e1])
    simp only [List.mem_cons, List.not_mem_nil, or_false] at hz
    rcases hz with rfl | rfl | rfl
    · exact ⟨_, b1, run, B1, by simp [Te.dep], by simp [Te.wt]⟩
    · exact ⟨_, b1, run, B1, by simp [Te.dep], by simp [Te.wt]⟩
    · exact ⟨_, b1, run, B1, by simp [Te.dep], by simp [Te.wt]⟩
  | .no t, k + 1, bag, h, B => by
    have hS := hSz
    simp only [Te.dep] at h
    obtain ⟨d, b1, e1, h0, h1, B1⟩ := take_ok A B (many := 3) (by omega) (by omega)
    obtain ⟨d2, b2, e2, h2, h3, B2⟩ := take_ok A B1 (many := 1) (by omega) (by omega)
    obtain ⟨t', b3, e3, B3, l1, l2⟩ := turn_ok A t k b2 (by omega) B2
    have hd2 : d2 = 0 := by omega
    subst hd2
    by_cases hd : 0 < d
    · refine ⟨.no t', b3, wE_out ?_, B3, by simp only [Te.dep]; omega, by simp only [Te.wt]; omega⟩
      unfold f__law_turned_test
      refine runF rfl rfl ?_
      simp (config := {decide := true, implicitDefEqProofs := false}) [Te.e, cutT_lo, cutT_hi, ↓wE_eq e1, ↓wE_eq e2, ↓wE_eq e3, hd]
    · refine ⟨.no (.no t), b1, wE_out ?_, B1, by simp only [Te.dep]; omega, by simp only [Te.wt]; omega⟩
      unfold f__law_turned_test
      refine runF rfl rfl ?_
      simp (config := {decide := true, implicitDefEqProofs := false}) [Te.e, cutT_lo, cutT_hi, ↓wE_eq e1, hd]
  | .con o s t, k + 1, bag, h, B => by
    have hS := hSz
    simp only [Te.dep] at h
    obtain ⟨d, b1, e1, h0, h1, B1⟩ := take_ok A B (many := 3) (by omega) (by omega)
    by_cases hd : 0 < d
    · obtain ⟨d2, b2, e2, h2, h3, B2⟩ := take_ok A B1 (many := 2) (by omega) (by omega)
      by_cases hd2 : d2 = 0
      · subst hd2
        obtain ⟨t', b3, e3, B3, l1, l2⟩ := turn_ok A s k b2 (by omega) B2
        refine ⟨.con o t' t, b3, wE_out ?_, B3, by simp only [Te.dep]; omega, by simp only [Te.wt]; omega⟩
        unfold f__law_turned_test
        refine runF rfl rfl ?_
        cases o <;> simp (config := {decide := true, implicitDefEqProofs := false}) [Te.e, cw, cutT_lo, cutT_hi, ↓wE_eq e1, ↓wE_eq e2, ↓wE_eq e3, hd]
      · have hd2 : d2 = 1 := by omega
        subst hd2
        obtain ⟨t', b3, e3, B3, l1, l2⟩ := turn_ok A t k b2 (by omega) B2
        refine ⟨.con o s t', b3, wE_out ?_, B3, by simp only [Te.dep]; omega, by simp only [Te.wt]; omega⟩
        unfold f__law_turned_test
        refine runF rfl rfl ?_
        cases o <;> simp (config := {decide := true, implicitDefEqProofs := false}) [Te.e, cw, cutT_lo, cutT_hi, ↓wE_eq e1, ↓wE_eq e2, ↓wE_eq e3, hd]
    · obtain ⟨z, b2, e2, hz, B2⟩ := some_ok A B1 (xs := [(Te.con (!o) s t).e, s.e, (Te.con o t s).e]) (by simp) (by simp)
      have run : f__law_turned_test A (k + 1) [bag, (Te.con o s t).e] = .ok z [some b2, none] := by
        refine wE_out ?_
        unfold f__law_turned_test
        refine runF rfl rfl ?_
        cases o <;> (simp only [Te.e, cw, Bool.not_true, Bool.not_false] at e2; simp (config := {decide := true, implicitDefEqProofs := false}) [Te.e, cw, cutT_lo, ↓wE_eq e1, ↓wE_eq e2, hd])
      simp only [List.mem_cons, List.not_mem_nil, or_false] at hz
      rcases hz with rfl | rfl | rfl
      · exact ⟨_, b2, run, B2, by simp only [Te.dep]; omega, by simp only [Te.wt]; omega⟩
      · exact ⟨_, b2, run, B2, by simp only [Te.dep]; omega, by simp only [Te.wt]; omega⟩
      · exact ⟨_, b2, run, B2, by simp only [Te.dep]; omega, by simp only [Te.wt]; omega⟩
end K64
-- K64z
set_option Elab.async false
set_option linter.all false
set_option maxRecDepth 100000
set_option maxHeartbeats 8000000
/-! K64z: bent statements, bent plans, known deeds, drawn plans. -/
namespace K64
open PySem L2 VS
theorem cut_m2 {x y : T} : cutT [x, y] none (some (-1)) = [x] := rfl
theorem cut_m3 {x y z : T} : cutT [x, y, z] none (some (-1)) = [x, y] := rfl
def Nm.oth : Nm → Nm
  | .a => .b | _ => .a
theorem Fit.one {s s' : Stm} (h : s'.dep ≤ s.dep) (h2 : s'.td ≤ s.td + 1) (h3 : s'.rows ≤ 2 * s.rows) (h4 : s'.chars ≤ 2 * s.chars + 6) : Fit s.dep (s.td + 1) (2 * s.rows) (2 * s.chars + 6) [s'] := ⟨by simpa [depL] using h, by simpa [tdL] using h2, by simpa [rowsL] using h3, by simpa [charsL] using h4⟩
theorem Fit.two (s : Stm) : Fit s.dep (s.td + 1) (2 * s.rows) (2 * s.chars + 6) [s, s] := ⟨by simp [depL], by simp [tdL], by simp [rowsL]; omega, by simp [charsL]; omega⟩
theorem Fit.nil (s : Stm) : Fit s.dep (s.td + 1) (2 * s.rows) (2 * s.chars + 6) [] := ⟨by simp [depL], by simp [tdL], by simp [rowsL], by simp [charsL]⟩
theorem bs_ok (A : Ad) (s : Stm) (bag : T) (ht : s.td ≤ 11) (B : Bag bag) : ∃ (new : List Stm) (bag' : T), f__law_bent_statement A [bag, s.e] = .ok (.tup (es new)) [some bag', none] ∧ Bag bag' ∧ new.length ≤ 2 ∧ Fit s.dep (s.td + 1) (2 * s.rows) (2 * s.chars + 6) new := by
  have hS := hSz
  obtain ⟨d, b1, e1, h0, h1, B1⟩ := take_ok A B (many := 5) (by omega) (by omega)
  by_cases z0 : d = 0
  · subst z0
    refine ⟨[], b1, wE_out ?_, B1, by simp, .nil s⟩
    unfold f__law_bent_statement
    refine runF rfl rfl ?_
    cases s <;> simp (config := {decide := true}) [Stm.e, ↓wE_eq e1, es]
  by_cases z1 : d = 1
  · subst z1
    refine ⟨[s, s], b1, wE_out ?_, B1, by simp, .two s⟩
    unfold f__law_bent_statement
    refine runF rfl rfl ?_
    cases s <;> simp (config := {decide := true}) [Stm.e, ↓wE_eq e1, es]
  have g1 : 1 < d := by omega
  cases s with
  | ite t x y =>
    simp only [Stm.td] at ht
    obtain ⟨t', b2, e2, B2, l1, l2⟩ := turn_ok A t 12 b1 (by omega) B1
    refine ⟨[.ite t' x y], b2, wE_out ?_, B2, by simp, Fit.one ?_ ?_ ?_ ?_⟩
    · unfold f__law_bent_statement
      refine runF rfl rfl ?_
      simp (config := {decide := true}) [Stm.e, ↓wE_eq e1, ↓wE_eq e2, es, z0, z1, g1, cutT_lo]
    · simp [Stm.dep]
    · simp only [Stm.td]; omega
    · simp only [Stm.rows]; omega
    · simp only [Stm.chars]; omega
  | whl t x =>
    simp only [Stm.td] at ht
    obtain ⟨t', b2, e2, B2, l1, l2⟩ := turn_ok A t 12 b1 (by omega) B1
    refine ⟨[.whl t' x], b2, wE_out ?_, B2, by simp, Fit.one ?_ ?_ ?_ ?_⟩
    · unfold f__law_bent_statement
      refine runF rfl rfl ?_
      simp (config := {decide := true}) [Stm.e, ↓wE_eq e1, ↓wE_eq e2, es, z0, z1, g1, cutT_lo]
    · simp [Stm.dep]
    · simp only [Stm.td]; omega
    · simp only [Stm.rows]; omega
    · simp only [Stm.chars]; omega
  | put x =>
    refine ⟨[.put x.oth], b1, wE_out ?_, B1, by simp, Fit.one (by simp [Stm.dep]) (by simp [Stm.td]) (by simp [Stm.rows]) (by simp [Stm.chars])⟩
    unfold f__law_bent_statement
    refine runF rfl rfl ?_
    cases x <;> simp (config := {decide := true}) [Stm.e, Nm.s, Nm.oth, ↓wE_eq e1, es, z0, z1, g1, cut_m3]
  | skip x =>
    refine ⟨[.skip x.oth], b1, wE_out ?_, B1, by simp, Fit.one (by simp [Stm.dep]) (by simp [Stm.td]) (by simp [Stm.rows]) (by simp [Stm.chars])⟩
    unfold f__law_bent_statement
    refine runF rfl rfl ?_
    cases x <;> simp (config := {decide := true}) [Stm.e, Nm.s, Nm.oth, ↓wE_eq e1, es, z0, z1, g1, cut_m2]
  | keep x =>
    refine ⟨[.keep x, .keep x], b1, wE_out ?_, B1, by simp, .two _⟩
    unfold f__law_bent_statement
    refine runF rfl rfl ?_
    simp (config := {decide := true}) [Stm.e, ↓wE_eq e1, es, z0, z1, g1]
  | flag v =>
    refine ⟨[.flag !v], b1, wE_out ?_, B1, by simp, Fit.one (by simp [Stm.dep]) (by simp [Stm.td]) (by simp [Stm.rows]) (by simp [Stm.chars])⟩
    unfold f__law_bent_statement
    refine runF rfl rfl ?_
    cases v <;> simp (config := {decide := true}) [Stm.e, ↓wE_eq e1, es, z0, z1, g1, cutT_hi]
theorem Loc.tdep {b : List Stm} {p : List Nat} {s : Stm} (h : Loc b p s) : s.td ≤ tdL b := by
  induction h with
  | here pre s post => rw [tdL_app]; simp only [tdL]; omega
  | ite2 pre t x y post h ih => rw [tdL_app]; simp only [tdL, Stm.td]; omega
  | ite3 pre t x y post h ih => rw [tdL_app]; simp only [tdL, Stm.td]; omega
  | whl2 pre t x post h ih => rw [tdL_app]; simp only [tdL, Stm.td]; omega
theorem bent_ok (A : Ad) (p : Pl) (bag : T) (hb : p.body ≠ []) (hd : depL p.body ≤ 8) (ht : tdL p.body ≤ 11) (hr : rowsL p.body ≤ 5000) (B : Bag bag) : ∃ (p' : Pl) (bag' : T), f__law_bent A [bag, p.e] = .ok p'.e [some bag', none] ∧ Bag bag' ∧ p'.claims = p.claims ∧
    Fit (depL p.body) (tdL p.body + 1) (2 * rowsL p.body) (2 * charsL p.body + 6) p'.body := by
  have hS := hSz
  obtain ⟨found, e1, hF⟩ := st_ok A 10 p.body [] (by omega) (by omega) (by simp)
  have hlen : 0 < p.body.length := List.length_pos_iff.mpr hb
  have hfl := hF.lo
  have hfh := hF.hi
  obtain ⟨x, b1, e2, hx, B1⟩ := some_ok A B (xs := found.map (fdT [])) (by intro h; rw [List.map_eq_nil_iff] at h; rw [h] at hfl; simp only [List.length_nil] at hfl; omega) (by simp; omega)
  obtain ⟨⟨q, s⟩, hq, rfl⟩ := List.mem_map.mp hx
  have hL : Loc p.body q s := hF.loc _ hq
  have htd := hL.tdep
  obtain ⟨new, b2, e3, B2, hn, hf⟩ := bs_ok A s b1 (by omega) B1
  obtain ⟨b', e4, hf', _⟩ := rep_ok A hL 10 new (by omega) (by omega) (by omega) hf
  refine ⟨{ p with body := b' }, b2, wE_out ?_, B2, rfl, hf'⟩
  unfold f__law_bent
  refine runF rfl rfl ?_
  simp (config := {decide := true}) [Pl.e, fdT, ↓wE_eq e1, ↓wE_eq e2, ↓wE_eq e3, ↓wE_eq e4, cutT_lo, cutT_hi]
/-! known deeds -/
def tNe (x : Nm) : Te := .no (.un .ends x)
def both : Te := .con false (tNe .a) (tNe .b)
def one1 (x : Nm) : List Stm := [.put x, .skip x]
def rest (x : Nm) : Stm := .whl (tNe x) (one1 x)
def three (x y z : List Stm) : Stm := .ite (.bi .below .a .b) x [.ite (.bi .below .b .a) y z]
/-- body, keeps, flags, term -/
def fam : Nat → List Stm × Bool × Bool × Option Tm
  | 0 => ([.whl both [.ite (.bi .below .a .b) (one1 .a) (one1 .b)], rest .a, rest .b], false, false, some (.bin .plus (.of .a) (.of .b)))
  | 1 => ([.whl both [three (one1 .a) (one1 .b) [.put .a, .skip .a, .skip .b]], rest .a, rest .b], false, false, some (.bin .greatest (.of .a) (.of .b)))
  | 2 => ([.whl both [three [.skip .a] [.skip .b] [.put .a, .skip .a, .skip .b]]], false, false, some (.bin .least (.of .a) (.of .b)))
  | 3 => ([.whl both [three (one1 .a) [.skip .b] [.skip .a, .skip .b]], rest .a], false, false, some (.bin .less (.of .a) (.of .b)))
  | 4 => ([.whl (tNe .a) [.ite (.con true (.un .empty .r) (.no (.bi .same .r .a))) [.put .a, .keep .a] [], .skip .a]], true, false, some (.bin .least (.of .a) (.num 1)))
  | 5 => ([.whl both [three [.skip .a] [.skip .b] (one1 .a)]], false, false, none)
  | 6 => ([.whl both [three (one1 .a) [.skip .b] [.skip .a]], rest .a], false, false, none)
  | 7 => ([.whl (tNe .a) [.ite (.un .up .f) [.put .a, .flag false] [.flag true], .skip .a]], false, true, none)
  | _ => ([.whl both [.ite (.bi .below .b .a) [.skip .b] (one1 .a)], rest .a], false, false, some (.of .a))
def oTm : Option Tm → T
  | some t => t.e
  | none => .non
def famT (n : Nat) : T := .tup [.tup (es (fam n).1), .tup ((if (fam n).2.1 then [("r" : Str)] else []).map .str), .tup ((if (fam n).2.2.1 then [("f" : Str)] else []).map .str), oTm (fam n).2.2.2]
theorem fam_ok (A : Ad) : ∀ n : Nat, n < 9 → f__law_family A [.int n] = .ok (famT n) [none]
  | 0, _ => by kernel_rfl
  | 1, _ => by kernel_rfl
  | 2, _ => by kernel_rfl
  | 3, _ => by kernel_rfl
  | 4, _ => by kernel_rfl
  | 5, _ => by kernel_rfl
  | 6, _ => by kernel_rfl
  | 7, _ => by kernel_rfl
  | 8, _ => by kernel_rfl
  | n + 9, h => absurd h (by omega)
theorem fam_fit : ∀ n : Nat, n < 9 → Fit 4 4 60 700 (fam n).1 ∧ (fam n).1 ≠ [] ∧ ∀ t, (fam n).2.2.2 = some t → Cl.times t ∈ Cs
  | 0, _ => ⟨⟨by decide +kernel, by decide +kernel, by decide +kernel, by decide +kernel⟩, by simp [fam], by intro t h; cases h; simp [Cs, D1, D0]⟩
  | 1, _ => ⟨⟨by decide +kernel, by decide +kernel, by decide +kernel, by decide +kernel⟩, by simp [fam], by intro t h; cases h; simp [Cs, D1, D0]⟩
  | 2, _ => ⟨⟨by decide +kernel, by decide +kernel, by decide +kernel, by decide +kernel⟩, by simp [fam], by intro t h; cases h; simp [Cs, D1, D0]⟩
  | 3, _ => ⟨⟨by decide +kernel, by decide +kernel, by decide +kernel, by decide +kernel⟩, by simp [fam], by intro t h; cases h; simp [Cs, D1, D0]⟩
  | 4, _ => ⟨⟨by decide +kernel, by decide +kernel, by decide +kernel, by decide +kernel⟩, by simp [fam], by intro t h; cases h; simp [Cs, D1, D0]⟩
  | 5, _ => ⟨⟨by decide +kernel, by decide +kernel, by decide +kernel, by decide +kernel⟩, by simp [fam], by intro t h; cases h⟩
  | 6, _ => ⟨⟨by decide +kernel, by decide +kernel, by decide +kernel, by decide +kernel⟩, by simp [fam], by intro t h; cases h⟩
  | 7, _ => ⟨⟨by decide +kernel, by decide +kernel, by decide +kernel, by decide +kernel⟩, by simp [fam], by intro t h; cases h⟩
  | 8, _ => ⟨⟨by decide +kernel, by decide +kernel, by decide +kernel, by decide +kernel⟩, by simp [fam], by intro t h; cases h; simp [Cs, D1, D0]⟩
  | n + 9, h => absurd h (by omega)
/-! drawn terms -/
theorem dt0_ok (A : Ad) (k : Nat) (bag : T) (B : Bag bag) : ∃ (t : Tm) (bag' : T), f__law_drawn_term A (k + 1) [bag, .int 0] = .ok t.e [some bag', none] ∧ Bag bag' ∧ t ∈ D0 := by
  have hS := hSz
  obtain ⟨x, b1, e1, hx, B1⟩ := some_ok A B (xs := [.str "of", .str "of", .str "number"]) (by simp) (by simp)
  simp only [List.mem_cons, List.not_mem_nil, or_false] at hx
  rcases (by rcases hx with h | h | h <;> simp [h] : x = .str "of" ∨ x = .str "number") with rfl | rfl
  · obtain ⟨y, b2, e2, hy, B2⟩ := some_ok A B1 (xs := [.str "a", .str "b"]) (by simp) (by simp)
    have run : f__law_drawn_term A (k + 1) [bag, .int 0] = .ok (.tup [.str "of", y]) [some b2, none] := by
      refine wE_out ?_
      unfold f__law_drawn_term
      refine runF rfl rfl ?_
      simp (config := {decide := true}) [↓wE_eq e1, ↓wE_eq e2]
    simp only [List.mem_cons, List.not_mem_nil, or_false] at hy
    rcases hy with rfl | rfl
    · exact ⟨.of .a, b2, run, B2, by simp [D0]⟩
    · exact ⟨.of .b, b2, run, B2, by simp [D0]⟩
  · obtain ⟨d, b2, e2, h0, h1, B2⟩ := take_ok A B1 (many := 3) (by omega) (by omega)
    have run : f__law_drawn_term A (k + 1) [bag, .int 0] = .ok (.tup [.str "number", .int d]) [some b2, none] := by
      refine wE_out ?_
      unfold f__law_drawn_term
      refine runF rfl rfl ?_
      simp (config := {decide := true}) [↓wE_eq e1, ↓wE_eq e2]
    rcases (by omega : d = 0 ∨ d = 1 ∨ d = 2) with rfl | rfl | rfl
    · exact ⟨.num 0, b2, run, B2, by simp [D0]⟩
    · exact ⟨.num 1, b2, run, B2, by simp [D0]⟩
    · exact ⟨.num 2, b2, run, B2, by simp [D0]⟩
theorem D1_of {t : Tm} (h : t ∈ D0) : t ∈ D1 := by simp only [D1, List.mem_append]; exact .inl (.inl h)
theorem D1_often {t : Tm} {n : Nat} (hn : n < 3) (h : t ∈ D0) : .often n t ∈ D1 := by
  simp only [D1, List.mem_append, List.mem_flatMap, List.mem_map]
  refine .inl (.inr ⟨n, ?_, t, h, rfl⟩)
  simp
  omega
theorem D1_bin {s t : Tm} (w : TW) (h : s ∈ D0) (k : t ∈ D0) : .bin w s t ∈ D1 := by
  simp only [D1, List.mem_append, List.mem_flatMap, List.mem_map]
  exact .inr ⟨w, by cases w <;> simp, s, h, t, k, rfl⟩
theorem dt1_ok (A : Ad) (bag : T) (B : Bag bag) : ∃ (t : Tm) (bag' : T), f__law_drawn_term A 4 [bag, .int 1] = .ok t.e [some bag', none] ∧ Bag bag' ∧ t ∈ D1 := by
  have hS := hSz
  obtain ⟨x, b1, e1, hx, B1⟩ := some_ok A B (xs := [.str "of", .str "of", .str "of", .str "number", .str "plus", .str "less", .str "least", .str "greatest", .str "often"]) (by simp) (by simp)
  simp only [List.mem_cons, List.not_mem_nil, or_false] at hx
  rcases (by rcases hx with h | h | h | h | h | h | h | h | h <;> simp [h] : x = .str "of" ∨ x = .str "number" ∨ x = .str "often" ∨ (x = .str "plus" ∨ x = .str "less" ∨ x = .str "least" ∨ x = .str "greatest")) with rfl | rfl | rfl | hx
  · obtain ⟨y, b2, e2, hy, B2⟩ := some_ok A B1 (xs := [.str "a", .str "b"]) (by simp) (by simp)
    have run : f__law_drawn_term A 4 [bag, .int 1] = .ok (.tup [.str "of", y]) [some b2, none] := by
      refine wE_out ?_
      unfold f__law_drawn_term
      refine runF rfl rfl ?_
      simp (config := {decide := true}) [↓wE_eq e1, ↓wE_eq e2]
    simp only [List.mem_cons, List.not_mem_nil, or_false] at hy
    rcases hy with rfl | rfl
    · exact ⟨.of .a, b2, run, B2, D1_of (by simp [D0])⟩
    · exact ⟨.of .b, b2, run, B2, D1_of (by simp [D0])⟩
  · obtain ⟨d, b2, e2, h0, h1, B2⟩ := take_ok A B1 (many := 3) (by omega) (by omega)
    have run : f__law_drawn_term A 4 [bag, .int 1] = .ok (.tup [.str "number", .int d]) [some b2, none] := by
      refine wE_out ?_
      unfold f__law_drawn_term
      refine runF rfl rfl ?_
      simp (config := {decide := true}) [↓wE_eq e1, ↓wE_eq e2]
    rcases (by omega : d = 0 ∨ d = 1 ∨ d = 2) with rfl | rfl | rfl
    · exact ⟨.num 0, b2, run, B2, D1_of (by simp [D0])⟩
    · exact ⟨.num 1, b2, run, B2, D1_of (by simp [D0])⟩
    · exact ⟨.num 2, b2, run, B2, D1_of (by simp [D0])⟩
  · obtain ⟨d, b2, e2, h0, h1, B2⟩ := take_ok A B1 (many := 3) (by omega) (by omega)
    obtain ⟨t, b3, e3, B3, ht⟩ := dt0_ok A 2 b2 B2
    obtain ⟨n, rfl⟩ := Int.eq_ofNat_of_zero_le h0
    refine ⟨.often n t, b3, wE_out ?_, B3, D1_often (by omega) ht⟩
    unfold f__law_drawn_term
    refine runF rfl rfl ?_
    simp (config := {decide := true}) [Tm.e, ↓wE_eq e1, ↓wE_eq e2, ↓wE_eq e3]
  · obtain ⟨t, b2, e2, B2, ht⟩ := dt0_ok A 2 b1 B1
    obtain ⟨u, b3, e3, B3, hu⟩ := dt0_ok A 2 b2 B2
    obtain ⟨w, rfl⟩ : ∃ w : TW, x = .str w.s := by
      rcases hx with rfl | rfl | rfl | rfl
      · exact ⟨.plus, rfl⟩
      · exact ⟨.less, rfl⟩
      · exact ⟨.least, rfl⟩
      · exact ⟨.greatest, rfl⟩
    refine ⟨.bin w t u, b3, wE_out ?_, B3, D1_bin w ht hu⟩
    unfold f__law_drawn_term
    refine runF rfl rfl ?_
    cases w <;> (simp only [TW.s] at e1; simp (config := {decide := true}) [Tm.e, TW.s, ↓wE_eq e1, ↓wE_eq e2, ↓wE_eq e3])
end K64
-- K64q
set_option Elab.async false
set_option linter.all false
set_option maxRecDepth 100000
set_option maxHeartbeats 8000000
/-! K64q: drawn plans. -/
namespace K64
open PySem L2 VS
/-- claims that may stand in a plan -/
def Cok (n : Nat) (cs : List Cl) : Prop := cs.length ≤ n ∧ ∀ c ∈ cs, c ∈ Cs
theorem Cok.app {n : Nat} {cs : List Cl} (h : Cok n cs) {c : Cl} (hc : c ∈ Cs) : Cok (n + 1) (cs ++ [c]) := ⟨by have := h.1; simp; omega, fun d hd => (List.mem_append.mp hd).elim (h.2 d) fun z => by simp at z; subst z; exact hc⟩
theorem Cok.mono {n m : Nat} {cs : List Cl} (h : Cok n cs) (k : n ≤ m) : Cok m cs := ⟨Nat.le_trans h.1 k, h.2⟩
theorem asc_mem : Cl.asc ∈ Cs := by simp [Cs]
theorem times_mem {t : Tm} (h : t ∈ D1) : Cl.times t ∈ Cs := by
  simp only [Cs, List.mem_append, List.mem_map]
  exact .inl (.inr ⟨t, h, rfl⟩)
theorem comp_mem {c p q : Nat} (h : c < 3) (hp : p < 3) (hq : q < 3) : Cl.comp c (1 + p) (1 + q) ∈ Cs := by
  simp only [Cs, List.mem_append, List.mem_flatMap, List.mem_map]
  refine .inr ⟨c, ?_, 1 + p, ?_, 1 + q, ?_, rfl⟩ <;> simp <;> omega
section
variable (A : Ad) {x1 x2 x3 : T} {tm : Option Tm} {D : VS.Fin} {bag : T}
theorem stA (B : Bag bag) (h : ∀ (b : T) (cs : List Cl), Bag b → Cok 1 cs → D.nx [some b, some x1, some x2, some x3, some (oTm tm), some (.lst (cs.map Cl.e)), none, none]) :
    wS (sSet 5 (VS.ife (tst isBl (op2 eqT (VS.cal1 (f__law_take A) 0 (aCons (cst (.int 2)) (aNil))) (cst (.int 0)))) (opL lstF (aCons (opL tupF (aCons (cst (.str "ascends")) (aCons (cst (.str "o")) (aNil)))) (aNil))) (opL lstF (aNil))) [some bag, some x1, some x2, some x3, some (oTm tm), none, none, none]) D := by
  obtain ⟨d, b1, e1, h0, h1, B1⟩ := take_ok A B (many := 2) (by omega) (by omega)
  have q1 := h b1 [.asc] B1 ⟨by simp, fun c hc => by simp at hc; subst hc; exact asc_mem⟩
  have q2 := h b1 [] B1 ⟨by simp, fun c hc => by simp at hc⟩
  simp only [List.map, Cl.e] at q1 q2
  by_cases z : d = 0
  · simp (config := {decide := true}) [↓wE_eq e1, z]
    exact q1
  · simp (config := {decide := true}) [↓wE_eq e1, z]
    exact q2
theorem stB (B : Bag bag) {cs : List Cl} (hc : Cok 1 cs) (ht : ∀ t, tm = some t → Cl.times t ∈ Cs) (h : ∀ (b : T) (cs : List Cl), Bag b → Cok 2 cs → D.nx [some b, some x1, some x2, some x3, some (oTm tm), some (.lst (cs.map Cl.e)), none, none]) :
    wS (sIf (tst isBl (op2 gtT (VS.cal1 (f__law_take A) 0 (aCons (cst (.int 4)) (aNil))) (cst (.int 0)))) (sEx (VS.mtO 5 apM (aCons (opL tupF (aCons (cst (.str "times")) (aCons (cst (.str "o")) (aCons (VS.ife (andT (tst isBl (op2 notNoneT (rd 4) (cst .non))) (tst isBl (op2 gtT (VS.cal1 (f__law_take A) 0 (aCons (cst (.int 4)) (aNil))) (cst (.int 0))))) (rd 4) (VS.cal1 (f__law_drawn_term A 4) 0 (aCons (cst (.int 1)) (aNil)))) (aNil))))) (aNil)))) (sNil) [some bag, some x1, some x2, some x3, some (oTm tm), some (.lst (cs.map Cl.e)), none, none]) D := by
  obtain ⟨d, b1, e1, h0, h1, B1⟩ := take_ok A B (many := 4) (by omega) (by omega)
  have hl := hc.1
  by_cases z : 0 < d
  · cases tm with
    | none =>
      obtain ⟨t, b2, e2, B2, ht⟩ := dt1_ok A b1 B1
      have q := h b2 _ B2 (hc.app (times_mem ht))
      simp (config := {decide := true}) [↓wE_eq e1, ↓wE_eq e2, z, oTm]
      refine ⟨by omega, ?_⟩
      simpa [Cl.e, oTm] using q
    | some t =>
      obtain ⟨d2, b2, e2, h2, h3, B2⟩ := take_ok A B1 (many := 4) (by omega) (by omega)
      have ne : ∀ t : Tm, isNonB t.e = false := fun t => by cases t <;> rfl
      by_cases z2 : 0 < d2
      · have q := h b2 _ B2 (hc.app (ht t rfl))
        simp (config := {decide := true}) [↓wE_eq e1, ↓wE_eq e2, z, z2, oTm, ne]
        refine ⟨by omega, ?_⟩
        simpa [Cl.e, oTm] using q
      · obtain ⟨u, b3, e3, B3, hu⟩ := dt1_ok A b2 B2
        have q := h b3 _ B3 (hc.app (times_mem hu))
        simp (config := {decide := true}) [↓wE_eq e1, ↓wE_eq e2, ↓wE_eq e3, z, z2, oTm, ne]
        refine ⟨by omega, ?_⟩
        simpa [Cl.e, oTm] using q
  · simp (config := {decide := true}) [↓wE_eq e1, z]
    exact h b1 cs B1 (hc.mono (by omega))
theorem stC (B : Bag bag) {cs : List Cl} (hc : Cok 2 cs) (h : ∀ (b : T) (cs : List Cl), Bag b → Cok 3 cs → D.nx [some b, some x1, some x2, some x3, some (oTm tm), some (.lst (cs.map Cl.e)), none, none]) :
    wS (sIf (tst isBl (op2 eqT (VS.cal1 (f__law_take A) 0 (aCons (cst (.int 3)) (aNil))) (cst (.int 0)))) (sEx (VS.mtO 5 apM (aCons (opL tupF (aCons (cst (.str "compares")) (aCons (opL tupF (aCons (VS.cal1 (f__law_take A) 0 (aCons (cst (.int 3)) (aNil))) (aCons (opL tupF (aCons (opL tupF (aCons (cst (.str "a")) (aCons (op2 addT (cst (.int 1)) (VS.cal1 (f__law_take A) 0 (aCons (cst (.int 3)) (aNil)))) (aNil)))) (aCons (opL tupF (aCons (cst (.str "b")) (aCons (op2 addT (cst (.int 1)) (VS.cal1 (f__law_take A) 0 (aCons (cst (.int 3)) (aNil)))) (aNil)))) (aNil)))) (aNil)))) (aNil)))) (aNil)))) (sNil) [some bag, some x1, some x2, some x3, some (oTm tm), some (.lst (cs.map Cl.e)), none, none]) D := by
  obtain ⟨d, b1, e1, h0, h1, B1⟩ := take_ok A B (many := 3) (by omega) (by omega)
  have hl := hc.1
  by_cases z : d = 0
  · obtain ⟨d2, b2, e2, h2, h3, B2⟩ := take_ok A B1 (many := 3) (by omega) (by omega)
    obtain ⟨d4, b3, e3, h4, h5, B3⟩ := take_ok A B2 (many := 3) (by omega) (by omega)
    obtain ⟨d6, b4, e4, h6, h7, B4⟩ := take_ok A B3 (many := 3) (by omega) (by omega)
    obtain ⟨n2, rfl⟩ := Int.eq_ofNat_of_zero_le h2
    obtain ⟨n4, rfl⟩ := Int.eq_ofNat_of_zero_le h4
    obtain ⟨n6, rfl⟩ := Int.eq_ofNat_of_zero_le h6
    have q := h b4 _ B4 (hc.app (comp_mem (c := n2) (p := n4) (q := n6) (by omega) (by omega) (by omega)))
    simp (config := {decide := true}) [↓wE_eq e1, ↓wE_eq e2, ↓wE_eq e3, ↓wE_eq e4, z]
    refine ⟨by omega, ?_⟩
    simpa [Cl.e] using q
  · simp (config := {decide := true}) [↓wE_eq e1, z]
    exact h b1 cs B1 (hc.mono (by omega))
/-- a plan of few signs -/
structure Small (p : Pl) : Prop where
  d : depL p.body ≤ 4
  t : tdL p.body ≤ 6
  r : rowsL p.body ≤ 240
  c : charsL p.body ≤ 2900
  n : p.claims.length ≤ 3
  m : ∀ c ∈ p.claims, c ∈ Cs
/-- one bend more, if anything is there -/
theorem lap_ok (p : Pl) (B : Bag bag) (hd : depL p.body ≤ 8) (ht : tdL p.body ≤ 11) (hr : rowsL p.body ≤ 5000) : ∃ (p' : Pl) (b' : T), Bag b' ∧ p'.claims = p.claims ∧ Fit (depL p.body) (tdL p.body + 1) (2 * rowsL p.body) (2 * charsL p.body + 6) p'.body ∧
    ∀ (o1 o2 o3 o4 o5 o7 : Option T) (D : VS.Fin), D.nx [some b', o1, o2, o3, o4, o5, some p'.e, o7] → wS (sSet 6 (VS.ife (tst isBl (op2 neT (op2 ixT (rd 6) (cst (.int 4))) (opL tupF (aNil)))) (VS.cal1 (f__law_bent A) 0 (aCons (rd 6) (aNil))) (rd 6)) [some bag, o1, o2, o3, o4, o5, some p.e, o7]) D := by
  have hdd := (es_dd p.body 11 ht).mono (m := 64) (by omega)
  by_cases z : p.body = []
  · refine ⟨p, bag, B, rfl, ⟨by omega, by omega, by omega, by omega⟩, fun o1 o2 o3 o4 o5 o7 D h => ?_⟩
    have e1 := neT_tup_nil hdd
    simp only [es_emp, z] at e1
    unfold Pl.e at h ⊢
    simp only [z] at h ⊢
    simp (config := {decide := true}) [↓wO_eq e1]
    exact h
  · obtain ⟨p', b', e, B', hc, hf⟩ := bent_ok A p bag z hd ht hr B
    refine ⟨p', b', B', hc, hf, fun o1 o2 o3 o4 o5 o7 D h => ?_⟩
    have e1 := neT_tup_nil hdd
    have z' : p.body.isEmpty = false := by cases hq : p.body with | nil => exact absurd hq z | cons _ _ => rfl
    rw [es_emp, z'] at e1
    have ix : ∀ Q : T → Prop, wO (ixT p.e (.int 4)) Q = Q (.tup (es p.body)) := fun Q => by unfold Pl.e; simp
    simp (config := {decide := true}) [↓wO_eq e1, ↓ix, ↓wE_eq e]
    exact h
theorem drawn_ok (B : Bag bag) : ∃ (p : Pl) (b' : T), f__law_drawn_plan A [bag] = .ok p.e [some b'] ∧ Bag b' ∧ Small p := by
  have hS := hSz
  have key : wE (f__law_drawn_plan A [bag]) fun v e => ∃ (p : Pl) (b' : T), (v = p.e ∧ e = [some b']) ∧ Bag b' ∧ Small p := by
    obtain ⟨d, b1, e1, h0, h1, B1⟩ := take_ok A B (many := 9) (by omega) (by omega)
    obtain ⟨n, rfl⟩ := Int.eq_ofNat_of_zero_le h0
    have hf := fam_ok A n (by omega)
    obtain ⟨ff, fe, ft⟩ := fam_fit n (by omega)
    unfold f__law_drawn_plan
    refine runF rfl rfl ?_
    simp only [List.map, List.replicate, List.cons_append, List.nil_append]
    rw [r_sSeq]
    simp (config := {decide := true}) only [↓r_sAsg, ↓r_cal0, ↓r_aCons, ↓r_aNil, ↓r_cal1, ↓r_wI0, ↓r_cst, ↓wE_eq e1, ↓r_wP0, ↓wE_eq hf, List.headD_cons, famT, ↓r_gTu4, ↓r_gCo, ↓r_gNl, ↓r_gNm, ↓r_wP1, ↓r_wP2, ↓r_wP3, ↓r_wP4]
    rw [r_sSeq]
    refine stA A B1 fun b2 c2 B2 hc2 => ?_
    show wS _ _
    rw [r_sSeq]
    refine stB A B2 hc2 ft fun b3 c3 B3 hc3 => ?_
    show wS _ _
    rw [r_sSeq]
    refine stC A B3 hc3 fun b4 c4 B4 hc4 => ?_
    show wS _ _
    obtain ⟨x, b5, e5, hx, B5⟩ := some_ok A B4 (xs := [.int 0, .int 0, .int 1, .int 1, .int 2]) (by simp) (by simp)
    simp only [List.mem_cons, List.not_mem_nil, or_false] at hx
    let p0 : Pl := ⟨(fam n).2.1, (fam n).2.2.1, (fam n).1, c4⟩
    have f0d := ff.d
    have f0m := ff.m
    have f0r := ff.r
    have f0c := ff.c
    obtain ⟨p1, b6, B6, hcl1, F1, run1⟩ := lap_ok A p0 B5 (by show depL (fam n).1 ≤ 8; omega) (by show tdL (fam n).1 ≤ 11; omega) (by show rowsL (fam n).1 ≤ 5000; omega)
    have F1d : depL p1.body ≤ depL (fam n).1 := F1.d
    have F1m : tdL p1.body ≤ tdL (fam n).1 + 1 := F1.m
    have F1r : rowsL p1.body ≤ 2 * rowsL (fam n).1 := F1.r
    have F1c : charsL p1.body ≤ 2 * charsL (fam n).1 + 6 := F1.c
    obtain ⟨p2, b7, B7, hcl2, F2, run2⟩ := lap_ok A p1 B6 (by omega) (by omega) (by omega)
    have F2d := F2.d
    have F2m := F2.m
    have F2r := F2.r
    have F2c := F2.c
    have s0 : Small p0 := ⟨by show depL (fam n).1 ≤ 4; omega, by show tdL (fam n).1 ≤ 6; omega, by show rowsL (fam n).1 ≤ 240; omega, by show charsL (fam n).1 ≤ 2900; omega, hc4.1, hc4.2⟩
    have s1 : Small p1 := ⟨by omega, by omega, by omega, by omega, by rw [hcl1]; exact hc4.1, by rw [hcl1]; exact hc4.2⟩
    have s2 : Small p2 := ⟨by omega, by omega, by omega, by omega, by rw [hcl2, hcl1]; exact hc4.1, by rw [hcl2, hcl1]; exact hc4.2⟩
    rcases (by rcases hx with h | h | h | h | h <;> simp [h] : x = .int 0 ∨ x = .int 1 ∨ x = .int 2) with rfl | rfl | rfl
    · generalize (sSet 6 (VS.ife (tst isBl (op2 neT (op2 ixT (rd 6) (cst (.int 4))) (opL tupF (aNil)))) (VS.cal1 (f__law_bent A) 0 (aCons (rd 6) (aNil))) (rd 6))) = L at *
      simp (config := {decide := true}) [↓wE_eq e5, rg1O, rgL]
      exact ⟨p0, b5, ⟨rfl, rfl⟩, B5, s0⟩
    · generalize (sSet 6 (VS.ife (tst isBl (op2 neT (op2 ixT (rd 6) (cst (.int 4))) (opL tupF (aNil)))) (VS.cal1 (f__law_bent A) 0 (aCons (rd 6) (aNil))) (rd 6))) = L at *
      simp (config := {decide := true}) [↓wE_eq e5, rg1O, rgL]
      refine run1 _ _ _ _ _ _ _ ?_
      simp
      exact ⟨p1, b6, ⟨rfl, rfl⟩, B6, s1⟩
    · generalize (sSet 6 (VS.ife (tst isBl (op2 neT (op2 ixT (rd 6) (cst (.int 4))) (opL tupF (aNil)))) (VS.cal1 (f__law_bent A) 0 (aCons (rd 6) (aNil))) (rd 6))) = L at *
      have e2 : List.range 2 = [0, 1] := rfl
      simp (config := {decide := true}) [↓wE_eq e5, rg1O, rgL, e2]
      refine run1 _ _ _ _ _ _ _ ?_
      simp
      refine run2 _ _ _ _ _ _ _ ?_
      simp
      exact ⟨p2, b7, ⟨rfl, rfl⟩, B7, s2⟩
  obtain ⟨v, e, h1, p, b', ⟨rfl, rfl⟩, B', hs⟩ := wE_ex key
  exact ⟨p, b', h1, B', hs⟩
end
end K64
-- K64r
set_option Elab.async false
set_option linter.all false
set_option maxRecDepth 100000
set_option maxHeartbeats 8000000
/-! K64r: signs, runs of signs, their tokens. -/
namespace K64
open PySem L2 VS
def isL (c : Nat) : Bool := decide (97 ≤ c) && decide (c ≤ 122)
def isD (c : Nat) : Bool := decide (48 ≤ c) && decide (c ≤ 57)
def isS (c : Nat) : Bool := isL c || isD c
abbrev sig (s : Str) : List Nat := s.cps.toList
abbrev ch (c : Nat) : Str := ⟨#[c]⟩
def sub (l : List Nat) (i j : Nat) : Str := ⟨((l.drop i).take (j - i)).toArray⟩
theorem sig_len (s : Str) : (sig s).length = s.length := by simp [sig, Str.length]
def inB (c : Nat) (b : Str) : Bool := decide (c ∈ sig b)
theorem inO_ch {c : Nat} {b : Str} : inO (.str (ch c)) (.str b) = some (inB c b) := by simp [inO, Str.length, inB]
@[simp ↓] theorem r_inC {c : Nat} {b : Str} {Q : T → Prop} : wO (inT (.str ⟨#[c]⟩) (.str b)) Q = Q (.bl (inB c b)) := by
  have h := inO_ch (c := c) (b := b)
  simp only [ch] at h
  simp [inT, h]
@[simp ↓] theorem r_ninC {c : Nat} {b : Str} {Q : T → Prop} : wO (notInT (.str ⟨#[c]⟩) (.str b)) Q = Q (.bl (!inB c b)) := by
  have h := inO_ch (c := c) (b := b)
  simp only [ch] at h
  simp [notInT, h]
theorem sig_L : sig "abcdefghijklmnopqrstuvwxyz" = [97, 98, 99, 100, 101, 102, 103, 104, 105, 106, 107, 108, 109, 110, 111, 112, 113, 114, 115, 116, 117, 118, 119, 120, 121, 122] := by decide +kernel
theorem sig_D : sig "0123456789" = [48, 49, 50, 51, 52, 53, 54, 55, 56, 57] := by decide +kernel
theorem lit_LD1 : Str.ofString "abcdefghijklmnopqrstuvwxyz0123456789" = Str.ofString "abcdefghijklmnopqrstuvwxyz" ++ Str.ofString "0123456789" := by decide +kernel
@[simp] theorem mem_L {c : Nat} : inB c "abcdefghijklmnopqrstuvwxyz" = isL c := by
  unfold inB
  rw [sig_L, Bool.eq_iff_iff]
  simp [isL]
  omega
@[simp] theorem mem_D {c : Nat} : inB c "0123456789" = isD c := by
  unfold inB
  rw [sig_D, Bool.eq_iff_iff]
  simp [isD]
  omega
theorem inB_app {c : Nat} {a b : Str} : inB c (a ++ b) = (inB c a || inB c b) := by
  unfold inB
  rw [Bool.eq_iff_iff]
  simp [sig, Str.cps_append]
@[simp] theorem mem_LD {c : Nat} : inB c (Str.ofString "abcdefghijklmnopqrstuvwxyz" ++ Str.ofString "0123456789") = isS c := by
  rw [inB_app, mem_L, mem_D]
  rfl
@[simp] theorem mem_LD1 {c : Nat} : inB c "abcdefghijklmnopqrstuvwxyz0123456789" = isS c := by
  rw [lit_LD1, mem_LD]
@[simp] theorem mem_M {c : Nat} : inB c "()" = (decide (c = 40) || decide (c = 41)) := by
  have e : sig "()" = [40, 41] := by decide +kernel
  unfold inB
  rw [e, Bool.eq_iff_iff]
  simp
@[simp ↓] theorem r_inGL {c : Nat} {Q : T → Prop} : wO (inT (.str ⟨#[c]⟩) G_LETTERS) Q = Q (.bl (isL c)) := by
  unfold G_LETTERS
  rw [r_inC, mem_L]
@[simp ↓] theorem r_ninGL {c : Nat} {Q : T → Prop} : wO (notInT (.str ⟨#[c]⟩) G_LETTERS) Q = Q (.bl (!isL c)) := by
  unfold G_LETTERS
  rw [r_ninC, mem_L]
@[simp ↓] theorem r_inGD {c : Nat} {Q : T → Prop} : wO (inT (.str ⟨#[c]⟩) G_DIGITS) Q = Q (.bl (isD c)) := by
  unfold G_DIGITS
  rw [r_inC, mem_D]
@[simp ↓] theorem r_inGM {c : Nat} {Q : T → Prop} : wO (inT (.str ⟨#[c]⟩) G_MARKS) Q = Q (.bl (decide (c = 40) || decide (c = 41))) := by
  unfold G_MARKS
  rw [r_inC, mem_M]
@[simp ↓] theorem r_addGG {Q : T → Prop} : wO (addT G_LETTERS G_DIGITS) Q = Q (.str (Str.ofString "abcdefghijklmnopqrstuvwxyz" ++ Str.ofString "0123456789")) := by
  unfold G_LETTERS G_DIGITS
  rw [r_addT_str]
  exact propext ⟨fun h => h.2, fun h => ⟨by decide +kernel, h⟩⟩
theorem eq_ch {c d : Nat} : (ch c == ch d) = decide (c = d) := by
  rw [Bool.eq_iff_iff]
  simp [ch]
theorem ixS {z : Str} {j c : Nat} (h : (sig z)[j]? = some c) (hz : z.length ≤ sizeLine) : ixT (.str z) (.int (j : Nat)) = some (.str (ch c)) := by
  simp only [ixT_str, if_pos hz, VS.atI_nat, h]
  rfl
/-- where a run ends -/
def runEnd (l : List Nat) (i : Nat) : Nat := i + ((l.drop i).takeWhile isS).length
theorem runEnd_ge (l : List Nat) (i : Nat) : i ≤ runEnd l i := by unfold runEnd; omega
theorem runEnd_stop {l : List Nat} {i c : Nat} (h : l[i]? = some c) (hc : isS c = false) : runEnd l i = i := by
  have hi := (List.getElem?_eq_some_iff.mp h).1
  have e : l.drop i = c :: l.drop (i + 1) := by rw [List.drop_eq_getElem_cons hi, (List.getElem?_eq_some_iff.mp h).2]
  simp [runEnd, e, List.takeWhile_cons, hc]
theorem runEnd_step {l : List Nat} {i c : Nat} (h : l[i]? = some c) (hc : isS c = true) : runEnd l i = runEnd l (i + 1) := by
  have hi := (List.getElem?_eq_some_iff.mp h).1
  have e : l.drop i = c :: l.drop (i + 1) := by rw [List.drop_eq_getElem_cons hi, (List.getElem?_eq_some_iff.mp h).2]
  simp only [runEnd, e, List.takeWhile_cons, hc, if_true, List.length_cons]
  omega
theorem runEnd_out {l : List Nat} {i : Nat} (h : l.length ≤ i) : runEnd l i = i := by simp [runEnd, List.drop_of_length_le h]
theorem runEnd_le {l : List Nat} {i : Nat} (h : i ≤ l.length) : runEnd l i ≤ l.length := by
  have := (List.takeWhile_prefix (p := isS) (l := l.drop i)).length_le
  simp only [List.length_drop] at this
  unfold runEnd
  omega
theorem run_all (l : List Nat) (i : Nat) : ∀ c ∈ (l.drop i).take (runEnd l i - i), isS c = true := by
  have e : (l.drop i).take (runEnd l i - i) = (l.drop i).takeWhile isS := by
    have h := List.prefix_iff_eq_take.mp (List.takeWhile_prefix (p := isS) (l := l.drop i))
    rw [show runEnd l i - i = ((l.drop i).takeWhile isS).length by unfold runEnd; omega]
    exact h.symm
  rw [e]
  intro c hc
  exact List.all_eq_true.mp (List.all_takeWhile (p := isS) (l := l.drop i)) c hc
theorem eor_ok (A : Ad) (s : Str) (hs : s.length ≤ 10000) (i : Nat) (hi : i ≤ s.length) : f_end_of_run A [.str s, .int i] = .ok (.int (runEnd (sig s) i)) [none, none] := by
  have hS := hSz
  have hl := sig_len s
  refine wE_out ?_
  unfold f_end_of_run
  refine runF rfl rfl ?_
  simp (config := {decide := true})
  refine wS_whL (fun m e => ∃ j : Nat, e = [some (.str s), some (.int i), some (.int j)] ∧ j ≤ s.length ∧ m = s.length - j ∧ runEnd (sig s) j = runEnd (sig s) i) ?_ (s.length - i) 20000 _ (by omega) ⟨i, rfl, hi, rfl, rfl⟩
  rintro m e ⟨j, rfl, hj, rfl, hr⟩
  by_cases h : j < s.length
  · obtain ⟨c, hc⟩ : ∃ c, (sig s)[j]? = some c := ⟨(sig s)[j]'(by omega), by simp⟩
    cases hS : isS c
    · have := runEnd_stop hc hS
      simp (config := {decide := true}) [↓wO_eq (ixS hc (by omega)), h, hS]
      refine ⟨by omega, by omega⟩
    · have := runEnd_step hc hS
      simp (config := {decide := true}) [↓wO_eq (ixS hc (by omega)), h, hS]
      refine ⟨by omega, s.length - (j + 1), by omega, j + 1, by simp, by omega, by omega, by omega⟩
  · have : runEnd (sig s) j = j := runEnd_out (by omega)
    simp (config := {decide := true}) [h]
    refine ⟨by omega, by omega⟩
end K64
-- K64ra
set_option Elab.async false
set_option linter.all false
set_option maxRecDepth 100000
set_option maxHeartbeats 8000000
/-! K64ra: the token of a run. -/
namespace K64
open PySem L2 VS
def RES : List Str := ["and", "ascends", "below", "claim", "compares", "down", "drop", "else", "empty", "end", "ends", "flag", "greatest", "if", "in", "is", "keep", "least", "less", "not", "or", "out", "plus", "put", "same", "skip", "up", "while"]
theorem res_eq : G_RESERVED = .tup (RES.map .str) := rfl
def resB (r : Str) : Bool := RES.any (· == r)
theorem in_strs {r : Str} : ∀ ss : List Str, inO (.str r) (.tup (ss.map .str)) = some (ss.any (· == r)) := by
  intro ss
  have h1 : (ss.map T.str).all flatT = true := by simp [flatT]
  have h2 : (ss.map T.str).any (fun y => eqF y (.str r)) = ss.any (· == r) := by
    induction ss with
    | nil => rfl
    | cons s t ih => simp only [List.map_cons, List.any_cons, ih (by simp [flatT])]; rfl
  simp only [inO, h1, h2, flatT, Bool.and_self, if_true]
@[simp ↓] theorem r_inR {r : Str} {Q : T → Prop} : wO (inT (.str r) G_RESERVED) Q = Q (.bl (resB r)) := by
  rw [res_eq]
  simp only [inT, in_strs]
  rfl
@[simp ↓] theorem r_ninR {r : Str} {Q : T → Prop} : wO (notInT (.str r) G_RESERVED) Q = Q (.bl (!resB r)) := by
  rw [res_eq]
  simp only [notInT, in_strs]
  rfl
@[simp ↓] theorem r_isiStr {r : Str} {Q : T → Prop} : wO (isiO [.str r, .ty "str"]) Q = Q (.bl true) := rfl
theorem wLC_sig {i : Nat} {te : FE} {r : Str} {p : Nat → T} {e1 : VS.Env} {Q : T → VS.Env → Prop} (hi : i < e1.length) (hl : r.length ≤ 10000) (h : ∀ c ∈ sig r, ∀ Q : T → VS.Env → Prop, wE (te (e1.set i (some (.str (ch c))))) Q = Q (p c) (e1.set i (some (.str (ch c))))) :
    wLC [i] (gNm i) tYesF te ((sig r).map fun c => .str (ch c)) e1 Q = Q (.lst ((sig r).map p)) e1 := by
  have hl' := sig_len r
  rw [wLC_map (F := fun x => match x with
    | .str z => p (z.cps.getD 0 0)
    | _ => .non) hi (by rw [List.length_map, hl']; omega) (by
    intro x hx
    obtain ⟨c, hc, rfl⟩ := List.mem_map.mp hx
    rw [h c hc]
    simp [ch])]
  simp [Function.comp_def, ch]
theorem bls_map {l : List Nat} {p : Nat → Bool} : blsO (l.map fun c => .bl (p c)) = some (l.map p) := by
  induction l with
  | nil => rfl
  | cons c r ih => simp [blsO, ih]
@[simp ↓] theorem r_allB {l : List Nat} {p : Nat → Bool} {Q : T → Prop} : wO (allO [.lst (l.map fun c => .bl (p c))]) Q = Q (.bl (l.all p)) := by
  simp only [allO, bls_map, Option.map_some]
  simp [wO, List.all_map]
/-- a run: signs alone, one at least -/
structure Run (r : Str) (c0 : Nat) : Prop where
  hd : (sig r)[0]? = some c0
  all : ∀ c ∈ sig r, isS c = true
  len : r.length ≤ 10000
def nameB (r : Str) (c0 : Nat) : Bool := decide (r.length ≤ 8) && isL c0
def figB (r : Str) (c0 : Nat) : Bool := (sig r).all isD && decide (r.length ≤ 2) && (r == ("0" : Str) || !decide (c0 = 48))
theorem Run.ok {r : Str} {c0 : Nat} (h : Run r c0) : Asc r = true := by
  unfold Asc
  rw [List.all_eq_true]
  intro c hc
  have := h.all c hc
  simp only [isS, isL, isD, Bool.or_eq_true, Bool.and_eq_true, decide_eq_true_eq] at this ⊢
  omega
theorem Run.pos {r : Str} {c0 : Nat} (h : Run r c0) : 1 ≤ r.length := by
  have := (List.getElem?_eq_some_iff.mp h.hd).1
  rw [sig_len] at this
  omega
theorem name_ok (A : Ad) {r : Str} {c0 : Nat} (h : Run r c0) (hr : resB r = false) : f_is_name A [.str r] = .ok (.bl (nameB r c0)) [none] := by
  have hS := hSz
  have hl := h.len
  have hp := h.pos
  have h0 := h.hd
  refine wE_out ?_
  unfold f_is_name
  refine runF rfl rfl ?_
  have i1 : ∀ (e1 : VS.Env) (Q : T → VS.Env → Prop), 1 < e1.length → wLC [1] (gNm 1) tYesF (op2 inT (rd 1) (op2 addT (cst G_LETTERS) (cst G_DIGITS))) ((sig r).map fun c => .str (ch c)) e1 Q = Q (.lst ((sig r).map fun c => .bl (isS c))) e1 := fun e1 Q hi => wLC_sig hi hl fun c hc Q => by
    have hr : ∀ Q : T → VS.Env → Prop, wE (rd 1 (e1.set 1 (some (.str (ch c))))) Q = Q (.str (ch c)) (e1.set 1 (some (.str (ch c)))) := by
      intro Q
      rw [wE_rd]
      simp [wI, hi]
    simp (config := {decide := true}) [↓hr]
  have ha : (sig r).all isS = true := List.all_eq_true.mpr h.all
  have p1 : (1 : Int) ≤ (r.length : Int) := by omega
  have ix : ∀ Q : T → Prop, wO (ixT (.str r) (.int 0)) Q = Q (.str (ch c0)) := fun Q => wO_eq (ixS (j := 0) h0 (by omega)) Q
  by_cases g2 : r.length ≤ 8
  · have p8 : (r.length : Int) ≤ 8 := by omega
    cases g3 : isL c0
    · simp (config := {decide := true}) [G_MOST_LETTERS, ↓ix, p1, p8, g2, g3, nameB, ↓i1, hr]
      omega
    · simp (config := {decide := true}) [G_MOST_LETTERS, ↓ix, p1, p8, g2, g3, nameB, ↓i1, hr, ha]
      omega
  · have p8 : ¬ (r.length : Int) ≤ 8 := by omega
    simp (config := {decide := true}) [G_MOST_LETTERS, p1, p8, g2, nameB]
    omega
theorem fig_ok (A : Ad) {r : Str} {c0 : Nat} (h : Run r c0) : f_is_figures A [.str r] = .ok (.bl (figB r c0)) [none] := by
  have hS := hSz
  have hl := h.len
  have hp := h.pos
  have h0 := h.hd
  have ho := asc_ok h.ok
  refine wE_out ?_
  unfold f_is_figures
  refine runF rfl rfl ?_
  have i1 : ∀ (e1 : VS.Env) (Q : T → VS.Env → Prop), 1 < e1.length → wLC [1] (gNm 1) tYesF (op2 inT (rd 1) (cst G_DIGITS)) ((sig r).map fun c => .str (ch c)) e1 Q = Q (.lst ((sig r).map fun c => .bl (isD c))) e1 := fun e1 Q hi => wLC_sig hi hl fun c hc Q => by
    have hr : ∀ Q : T → VS.Env → Prop, wE (rd 1 (e1.set 1 (some (.str (ch c))))) Q = Q (.str (ch c)) (e1.set 1 (some (.str (ch c)))) := by
      intro Q
      rw [wE_rd]
      simp [wI, hi]
    simp (config := {decide := true}) [↓hr]
  have ix : ∀ Q : T → Prop, wO (ixT (.str r) (.int 0)) Q = Q (.str (ch c0)) := fun Q => wO_eq (ixS (j := 0) h0 (by omega)) Q
  have oc : PyData.strOk (ch c0) = true := by
    have := h.all c0 (List.mem_of_getElem? h0)
    simp only [isS, isL, isD, Bool.or_eq_true, Bool.and_eq_true, decide_eq_true_eq] at this
    simp [PyData.strOk, ch]
    omega
  have e48 : (ch c0 == Str.ofString "0") = decide (c0 = 48) := by
    have : Str.ofString "0" = ch 48 := by decide +kernel
    rw [this, eq_ch]
  cases g1 : (sig r).all isD
  · simp (config := {decide := true}) [G_MOST_FIGURES, ↓i1, g1, figB]
  · by_cases g2 : r.length ≤ 2
    · have p2 : ¬ (2 : Int) < (r.length : Int) := by omega
      cases g3 : (r == Str.ofString "0") <;> cases g4 : decide (c0 = 48)
      all_goals (rw [g4] at e48; simp (config := {decide := true}) [G_MOST_FIGURES, ↓i1, g1, g2, p2, g3, g4, figB, ↓ix, ho, oc, e48]; omega)
    · have p2 : (2 : Int) < (r.length : Int) := by omega
      simp (config := {decide := true}) [G_MOST_FIGURES, ↓i1, g1, g2, p2, figB]
      omega
/-- the number of figures -/
def numV (r : Str) : Int := match PySem.intText? r with
  | some n => n
  | none => 0
theorem num_all : (List.range 10).all (fun a => (match PySem.intText? ⟨#[48 + a]⟩ with | some n => decide (0 ≤ n ∧ n < 100) | none => false) && (List.range 10).all fun b => (match PySem.intText? ⟨#[48 + a, 48 + b]⟩ with | some n => decide (0 ≤ n ∧ n < 100) | none => false)) = true := by decide +kernel
theorem fig_num {r : Str} {c0 : Nat} (h : Run r c0) (hf : figB r c0 = true) : ∃ n : Int, intO [.str r] = some (.int n) ∧ 0 ≤ n ∧ n < 100 ∧ numV r = n := by
  simp only [figB, Bool.and_eq_true, decide_eq_true_eq, List.all_eq_true] at hf
  obtain ⟨⟨ha, h2⟩, _⟩ := hf
  have hp := h.pos
  have key : (match PySem.intText? r with | some n => decide (0 ≤ n ∧ n < 100) | none => false) = true := by
    have q := num_all
    simp only [List.all_eq_true, Bool.and_eq_true, List.mem_range] at q
    obtain ⟨a⟩ := r
    obtain ⟨l⟩ := a
    simp only [Str.length, List.size_toArray] at h2 hp
    simp only [sig] at ha
    match l, h2, hp, ha with
    | [x], _, _, ha =>
      have hx := ha x (by simp)
      simp only [isD, Bool.and_eq_true, decide_eq_true_eq] at hx
      have := (q (x - 48) (by omega)).1
      rw [show 48 + (x - 48) = x by omega] at this
      exact this
    | [x, y], _, _, ha =>
      have hx := ha x (by simp)
      have hy := ha y (by simp)
      simp only [isD, Bool.and_eq_true, decide_eq_true_eq] at hx hy
      have := (q (x - 48) (by omega)).2 (y - 48) (by omega)
      rw [show 48 + (x - 48) = x by omega, show 48 + (y - 48) = y by omega] at this
      exact this
  unfold numV
  split at key
  · rename_i n hn
    simp only [decide_eq_true_eq] at key
    refine ⟨n, ?_, key.1, key.2, rfl⟩
    simp only [intO, hn]
    rw [if_pos (by omega)]
  · cases key
/-- the word and the content of a run's token -/
def rtW (r : Str) (c0 : Nat) : Str := if resB r = true then "key" else if nameB r c0 = true then "name" else if figB r c0 = true then "number" else "bad"
def rtX (r : Str) (c0 : Nat) : T := if resB r = true then .str r else if nameB r c0 = true then .str r else if figB r c0 = true then .int (numV r) else .str ""
theorem rt_ok (A : Ad) {r : Str} {c0 : Nat} (h : Run r c0) : f_run_token A [.str r] = .ok (.tup [.str (rtW r c0), rtX r c0]) [none] := by
  have hS := hSz
  refine wE_out ?_
  unfold f_run_token rtW rtX
  refine runF rfl rfl ?_
  cases g1 : resB r
  · cases g2 : nameB r c0
    · cases g3 : figB r c0
      · simp (config := {decide := true}) [g1, g2, g3, ↓wE_eq (name_ok A h g1), ↓wE_eq (fig_ok A h)]
      · obtain ⟨n, e, _, _, e2⟩ := fig_num h g3
        simp (config := {decide := true}) [g1, g2, g3, ↓wE_eq (name_ok A h g1), ↓wE_eq (fig_ok A h), ↓wO_eq e, e2]
    · simp (config := {decide := true}) [g1, g2, ↓wE_eq (name_ok A h g1)]
  · simp (config := {decide := true}) [g1]
end K64
-- K64rb
set_option Elab.async false
set_option linter.all false
set_option maxRecDepth 100000
set_option maxHeartbeats 8000000
/-! K64rb: tokens of a text, by the program. -/
namespace K64
open PySem L2 VS
theorem sub_sig (l : List Nat) (i j : Nat) : sig (sub l i j) = (l.drop i).take (j - i) := by simp [sub, sig]
theorem sub_len {l : List Nat} {i j : Nat} (h : j ≤ l.length) : (sub l i j).length = j - i := by
  rw [← sig_len, sub_sig, List.length_take, List.length_drop]
  omega
theorem cut_sub {s : Str} {i j : Nat} (hj : j ≤ s.length) : cutS s (some (i : Int)) (some (j : Int)) = sub (sig s) i j := by
  unfold cutS sub
  rw [HT.sIx_nat, HT.sIx_nat]
  have hl := sig_len s
  congr 1
  congr 1
  by_cases h : i ≤ s.length
  · rw [Nat.min_eq_left h, Nat.min_eq_left hj]
  · rw [List.drop_of_length_le (by rw [hl]; omega), List.drop_of_length_le (by rw [hl]; omega)]
    simp
theorem run_sub {l : List Nat} {i c : Nat} (h : l[i]? = some c) (hc : isS c = true) (hn : l.length ≤ 10000) : Run (sub l i (runEnd l i)) c := by
  have h1 := runEnd_step h hc
  have h2 := runEnd_ge l (i + 1)
  have hi := (List.getElem?_eq_some_iff.mp h).1
  have h3 := runEnd_le (l := l) (i := i) (by omega)
  refine ⟨?_, ?_, ?_⟩
  · rw [sub_sig, List.getElem?_take]
    rw [if_pos (by omega), List.getElem?_drop]
    exact h
  · rw [sub_sig]
    exact run_all l i
  · rw [sub_len h3]
    omega
/-- the token at a place: word, content, end -/
def tkW (l : List Nat) (i c : Nat) : Str := if c = 10 then "line" else if c = 40 ∨ c = 41 then "mark" else if isS c = true then rtW (sub l i (runEnd l i)) c else "bad"
def tkX (l : List Nat) (i c : Nat) : T := if c = 10 then .str "" else if c = 40 ∨ c = 41 then .str (ch c) else if isS c = true then rtX (sub l i (runEnd l i)) c else .str ""
def tkE (l : List Nat) (i c : Nat) : Nat := if c = 10 then i + 1 else if c = 40 ∨ c = 41 then i + 1 else if isS c = true then runEnd l i else i
theorem ch_lit {c n : Nat} {x : String} (h : Str.ofString x = ch n) : (ch c == Str.ofString x) = decide (c = n) := by rw [h, eq_ch]
theorem l10 : Str.ofString "\n" = ch 10 := by decide +kernel
theorem l32 : Str.ofString " " = ch 32 := by decide +kernel
theorem ta_ok (A : Ad) {s : Str} (hs : s.length ≤ 10000) (hA : Asc s = true) {i c : Nat} (h : (sig s)[i]? = some c) : f_token_at A [.str s, .int i] = .ok (.tup [.str (tkW (sig s) i c), tkX (sig s) i c, .int (tkE (sig s) i c)]) [none, none] := by
  have hS := hSz
  have hl := sig_len s
  have hi := (List.getElem?_eq_some_iff.mp h).1
  have oc : PyData.strOk (ch c) = true := by
    have := List.all_eq_true.mp hA c (List.mem_of_getElem? h)
    simp only [decide_eq_true_eq] at this
    simp [PyData.strOk, ch]
    omega
  refine wE_out ?_
  unfold f_token_at tkW tkX tkE
  refine runF rfl rfl ?_
  have ix := wO_eq (ixS h (by omega))
  have e10 := ch_lit (c := c) l10
  by_cases g1 : c = 10
  · subst g1
    simp (config := {decide := true}) [↓ix, oc, e10]
  · have b1 : decide (c = 10) = false := by simp [g1]
    rw [b1] at e10
    by_cases g2 : c = 40 ∨ c = 41
    · have b2 : (decide (c = 40) || decide (c = 41)) = true := by simpa using g2
      simp (config := {decide := true}) [↓ix, oc, e10, g1, g2, b2]
    · have b2 : (decide (c = 40) || decide (c = 41)) = false := by simpa using g2
      cases g3 : isS c
      · have := runEnd_stop h g3
        simp (config := {decide := true}) [↓ix, oc, e10, g1, g2, b2, ↓wE_eq (eor_ok A s hs i (by omega)), this]
      · have h1 := runEnd_step h g3
        have h2 := runEnd_ge (sig s) (i + 1)
        have h3 := runEnd_le (l := sig s) (i := i) (by omega)
        have p1 : (i : Int) < (runEnd (sig s) i : Int) := by omega
        simp (config := {decide := true}) [↓ix, oc, e10, g1, g2, b2, ↓wE_eq (eor_ok A s hs i (by omega)), p1]
        refine ⟨by omega, ?_⟩
        rw [cut_sub (by omega)]
        simp [↓wE_eq (rt_ok A (run_sub h g3 (by omega)))]
        omega
def tk (w : Str) (x : T) (ln : Nat) (col : Int) : T := .tup [.str w, x, .int ln, .int col]
def go (l : List Nat) (i ln f : Nat) : List T :=
  if h : i < l.length then
    if l[i] = 32 then go l (i + 1) ln f
    else tk (tkW l i l[i]) (tkX l i l[i]) ln ((i : Int) - f + 1) :: (if tkW l i l[i] == "bad" then [] else go l (max (tkE l i l[i]) (i + 1)) (if l[i] = 10 then ln + 1 else ln) (if l[i] = 10 then tkE l i l[i] else f))
  else [tk "end" (.str "") ln ((i : Int) - f + 1)]
termination_by l.length - i
decreasing_by
  all_goals omega
section
variable {l : List Nat} {i ln f c : Nat}
theorem go_sp (h : l[i]? = some c) (hc : c = 32) : go l i ln f = go l (i + 1) ln f := by
  obtain ⟨hi, e⟩ := List.getElem?_eq_some_iff.mp h
  rw [go, dif_pos hi, e, if_pos hc]
theorem go_bad (h : l[i]? = some c) (hc : c ≠ 32) (hb : (tkW l i c == "bad") = true) : go l i ln f = [tk (tkW l i c) (tkX l i c) ln ((i : Int) - f + 1)] := by
  obtain ⟨hi, e⟩ := List.getElem?_eq_some_iff.mp h
  rw [go, dif_pos hi, e, if_neg hc, if_pos hb]
theorem go_end (h : l.length ≤ i) : go l i ln f = [tk "end" (.str "") ln ((i : Int) - f + 1)] := by
  rw [go, dif_neg (by omega)]
theorem tkE_gt (h : l[i]? = some c) (hb : (tkW l i c == "bad") = false) : i + 1 ≤ tkE l i c := by
  unfold tkW at hb
  unfold tkE
  by_cases g1 : c = 10
  · simp [g1]
  · by_cases g2 : c = 40 ∨ c = 41
    · simp [g2]
    · rw [if_neg g1, if_neg g2] at hb ⊢
      by_cases g3 : isS c = true
      · rw [if_pos g3]
        have := runEnd_step h g3
        have := runEnd_ge l (i + 1)
        omega
      · rw [if_neg g3] at hb
        exact absurd hb (by decide +kernel)
theorem tkE_le (h : l[i]? = some c) : tkE l i c ≤ l.length := by
  have hi := (List.getElem?_eq_some_iff.mp h).1
  have := runEnd_le (l := l) (i := i) (by omega)
  unfold tkE
  split <;> (try split) <;> (try split) <;> omega
theorem go_tk (h : l[i]? = some c) (hc : c ≠ 32) (hb : (tkW l i c == "bad") = false) : go l i ln f = tk (tkW l i c) (tkX l i c) ln ((i : Int) - f + 1) :: go l (tkE l i c) (if c = 10 then ln + 1 else ln) (if c = 10 then tkE l i c else f) := by
  obtain ⟨hi, e⟩ := List.getElem?_eq_some_iff.mp h
  have := tkE_gt h hb
  rw [go, dif_pos hi, e, if_neg hc, hb, Nat.max_eq_left this]
  simp
theorem rtW_or (r : Str) (c : Nat) : rtW r c = "key" ∨ rtW r c = "name" ∨ rtW r c = "number" ∨ rtW r c = "bad" := by
  unfold rtW
  split
  · exact .inl rfl
  · split
    · exact .inr (.inl rfl)
    · split
      · exact .inr (.inr (.inl rfl))
      · exact .inr (.inr (.inr rfl))
theorem tkW_tx (l : List Nat) (i c : Nat) : Tx (tkW l i c) 6 := by
  unfold tkW
  split
  · exact ⟨by decide +kernel, by decide +kernel⟩
  · split
    · exact ⟨by decide +kernel, by decide +kernel⟩
    · split
      · rcases rtW_or (sub l i (runEnd l i)) c with h | h | h | h <;> rw [h] <;> exact ⟨by decide +kernel, by decide +kernel⟩
      · exact ⟨by decide +kernel, by decide +kernel⟩
theorem tkW_line (l : List Nat) (i c : Nat) : (tkW l i c == Str.ofString "line") = decide (c = 10) := by
  unfold tkW
  by_cases g1 : c = 10
  · simp [g1]
  · rw [if_neg g1]
    rw [show decide (c = 10) = false by simp [g1]]
    split
    · decide +kernel
    · split
      · rcases rtW_or (sub l i (runEnd l i)) c with h | h | h | h <;> rw [h] <;> decide +kernel
      · decide +kernel
end
theorem scan_ok (A : Ad) (s : Str) (hs : s.length ≤ 6000) (hA : Asc s = true) : f_scanned A [.str s] = .ok (.tup (go (sig s) 0 1 0)) [none] := by
  have hS := hSz
  have hl := sig_len s
  refine wE_out ?_
  unfold f_scanned
  refine runF rfl rfl ?_
  simp (config := {decide := true})
  refine wS_whL (fun m e => ∃ (i ln f : Nat) (acc : List T) (o5 o6 o7 : Option T), e = [some (.str s), some (.lst acc), some (.int i), some (.int ln), some (.int f), o5, o6, o7] ∧ i ≤ s.length ∧ s.length - i ≤ m ∧ acc ++ go (sig s) i ln f = go (sig s) 0 1 0 ∧ acc.length ≤ i) ?_ 6000 20000 _ (by omega) ⟨0, 1, 0, [], none, none, none, rfl, by omega, by omega, by simp, by simp⟩
  rintro m e ⟨i, ln, f, acc, o5, o6, o7, rfl, hi, hm, hR, ha⟩
  by_cases h : i < s.length
  · obtain ⟨c, hc⟩ : ∃ c, (sig s)[i]? = some c := ⟨(sig s)[i]'(by omega), by simp⟩
    have oc : PyData.strOk (ch c) = true := by
      have := List.all_eq_true.mp hA c (List.mem_of_getElem? hc)
      simp only [decide_eq_true_eq] at this
      simp [PyData.strOk, ch]
      omega
    have e32 := ch_lit (c := c) l32
    have ix := wO_eq (ixS hc (by omega : s.length ≤ sizeLine))
    by_cases g1 : c = 32
    · have e := go_sp (ln := ln) (f := f) hc g1
      rw [show decide (c = 32) = true by simp [g1]] at e32
      simp (config := {decide := true}) [↓ix, oc, e32, h]
      refine ⟨by omega, m - 1, by omega, i + 1, ln, f, acc, ⟨rfl, by simp, rfl, rfl⟩, by omega, by omega, by rw [← e]; exact hR, by omega⟩
    · rw [show decide (c = 32) = false by simp [g1]] at e32
      have ow := (tkW_tx (sig s) i c).ok
      have wl := tkW_line (sig s) i c
      have te := tkE_le hc
      cases g2 : (tkW (sig s) i c == Str.ofString "bad")
      · have e := go_tk (ln := ln) (f := f) hc g1 g2
        have tg := tkE_gt hc g2
        by_cases g3 : c = 10
        · rw [show decide (c = 10) = true by simp [g3]] at wl
          rw [if_pos g3, if_pos g3] at e
          simp (config := {decide := true}) [↓ix, oc, e32, h, ↓wE_eq (ta_ok A (by omega : s.length ≤ 10000) hA hc), ow, g2, wl]
          refine ⟨by omega, m - 1, by omega, by omega, tkE (sig s) i c, ln + 1, tkE (sig s) i c, _, ⟨rfl, rfl, by simp, rfl⟩, by omega, by omega, ?_, by simp; omega⟩
          rw [e] at hR
          rw [← hR]
          simp [tk]
        · rw [show decide (c = 10) = false by simp [g3]] at wl
          rw [if_neg g3, if_neg g3] at e
          simp (config := {decide := true}) [↓ix, oc, e32, h, ↓wE_eq (ta_ok A (by omega : s.length ≤ 10000) hA hc), ow, g2, wl]
          refine ⟨by omega, m - 1, by omega, by omega, tkE (sig s) i c, ln, f, _, ⟨rfl, rfl, rfl, rfl⟩, by omega, by omega, ?_, by simp; omega⟩
          rw [e] at hR
          rw [← hR]
          simp [tk]
      · have e := go_bad (ln := ln) (f := f) hc g1 g2
        rw [e] at hR
        simp (config := {decide := true}) [↓ix, oc, e32, h, ↓wE_eq (ta_ok A (by omega : s.length ≤ 10000) hA hc), ow, g2]
        refine ⟨by omega, by omega, by omega, ?_⟩
        rw [← hR]
        simp [tk]
  · have : i = s.length := by omega
    subst this
    have e := go_end (l := sig s) (i := s.length) (ln := ln) (f := f) (by omega)
    rw [e] at hR
    simp (config := {decide := true})
    refine ⟨by omega, by omega, ?_⟩
    rw [← hR]
    simp [tk]
theorem tokens_ok (A : Ad) (s : Str) (hs : s.length ≤ 6000) (hA : Asc s = true) : f_tokens A [.str s] = .ok (.tup (go (sig s) 0 1 0)) [none] := by
  have hS := hSz
  refine wE_out ?_
  unfold f_tokens
  refine runF rfl rfl ?_
  have p : ¬ (6000 : Int) < (s.length : Int) := by omega
  simp (config := {decide := true}) [G_MOST_SIGNS, p, ↓wE_eq (scan_ok A s hs hA)]
  omega
end K64
-- K64rc
set_option Elab.async false
set_option linter.all false
set_option maxRecDepth 100000
set_option maxHeartbeats 8000000
/-! K64rc: tokens of a text, by the law's own runs: what is said of a run. -/
namespace K64
open PySem L2 VS
def figR (r : Str) (c : Nat) : Bool := ((sig r).filter fun c => !isD c).isEmpty && ((r == ("0" : Str) || !decide (c = 48)) && decide (r.length ≤ 2))
def nameR (r : Str) (c : Nat) : Bool := decide (r.length ≤ 8) && (isL c && ((sig r).filter fun c => !isS c).isEmpty)
theorem flt_emp {l : List Nat} {p : Nat → Bool} : (l.filter fun c => !p c).isEmpty = l.all p := by
  induction l with
  | nil => rfl
  | cons c r ih =>
    rw [List.filter_cons, List.all_cons]
    cases h : p c
    · simp
    · simp [← ih]
theorem figR_run {r : Str} {c : Nat} (h : Run r c) : figR r c = figB r c := by
  unfold figR figB
  rw [flt_emp]
  cases (sig r).all isD <;> cases (r == ("0" : Str) || !decide (c = 48)) <;> cases decide (r.length ≤ 2) <;> rfl
theorem nameR_run {r : Str} {c : Nat} (h : Run r c) : nameR r c = nameB r c := by
  unfold nameR nameB
  rw [flt_emp, List.all_eq_true.mpr h.all]
  simp
theorem res_hd : RES.all (fun w => decide (w.length ≤ 8) && match (sig w)[0]? with | some c => isS c | none => false) = true := by decide +kernel
theorem res_not {r : Str} {c : Nat} (h : (sig r)[0]? = some c) (hc : isS c = false) : resB r = false := by
  cases e : resB r with
  | false => rfl
  | true =>
    obtain ⟨w, hw, e2⟩ := List.any_eq_true.mp e
    have q := List.all_eq_true.mp res_hd w hw
    rw [eq_of_beq e2, h] at q
    simp [hc] at q
theorem res_long {r : Str} (h : 8 < r.length) : resB r = false := by
  cases e : resB r with
  | false => rfl
  | true =>
    obtain ⟨w, hw, e2⟩ := List.any_eq_true.mp e
    have q := List.all_eq_true.mp res_hd w hw
    rw [eq_of_beq e2] at q
    simp only [Bool.and_eq_true, decide_eq_true_eq] at q
    omega
theorem figR_not {r : Str} {c : Nat} (h : (sig r)[0]? = some c) (hc : isS c = false) : figR r c = false := by
  unfold figR
  rw [flt_emp]
  have : (sig r).all isD = false := by
    rw [List.all_eq_false]
    refine ⟨c, List.mem_of_getElem? h, ?_⟩
    simp only [isS, Bool.or_eq_false_iff] at hc
    simp [hc.2]
  simp [this]
theorem nameR_not {r : Str} {c : Nat} (h : (sig r)[0]? = some c) (hc : isS c = false) : nameR r c = false := by
  simp only [isS, Bool.or_eq_false_iff] at hc
  simp [nameR, hc.1]
theorem rt_long {r : Str} {c : Nat} (h : 8 < r.length) : rtW r c = "bad" ∧ rtX r c = .str "" := by
  have h1 := res_long h
  have h2 : nameB r c = false := by simp [nameB]; omega
  have h3 : figB r c = false := by
    have : decide (r.length ≤ 2) = false := by simp; omega
    simp [figB, this]
  simp [rtW, rtX, h1, h2, h3]
def SG : Str := "abcdefghijklmnopqrstuvwxyz0123456789"
theorem sg26 : cutS SG (some 26) none = "0123456789" := by decide +kernel
theorem sg0 : cutS SG none (some 26) = "abcdefghijklmnopqrstuvwxyz" := by decide +kernel
theorem sg_len : SG.length = 36 := by decide +kernel
def oneT (r : Str) : List T := (sig r).map fun c => .str (ch c)
theorem flt_ch {l : List Nat} {p : Nat → Bool} : (l.map fun c => T.str (ch c)).filter (fun x => match x with
    | .str z => p (z.cps.getD 0 0)
    | _ => false) = (l.filter p).map fun c => .str (ch c) := by
  induction l with
  | nil => rfl
  | cons c r ih =>
    rw [List.map_cons, List.filter_cons, List.filter_cons, ih]
    cases h : p c <;> simp [ch, h]
theorem dd_chs {l : List Nat} {s : Str} (h : Asc s = true) (hl : ∀ c ∈ l, c ∈ sig s) : Dd 64 (.lst (l.map fun c => .str (ch c))) := by
  refine (Dd.lst (k := 0) (.all fun t ht => ?_)).mono (by omega)
  obtain ⟨c, hc, rfl⟩ := List.mem_map.mp ht
  have := List.all_eq_true.mp h c (hl c hc)
  simp only [decide_eq_true_eq] at this
  refine .str ?_
  simp [PyData.strOk, ch]
  omega
section
variable (A : Ad) {o0 o1 o3 o4 o5 o6 o7 o8 o9 o10 o11 o13 o14 o15 : Option T} {r : Str} {c : Nat}
theorem figE (h0 : (sig r)[0]? = some c) (hl : r.length ≤ 10000) (ho : Asc r = true) {Q : T → VS.Env → Prop} :
    wE ((andV (op2 eqT (eLc [14] (iSeq (rd 12)) (gNm 14) (tst isBl (op2 notInT (rd 14) (slE (rd 2) (oSome (cst (.int 26))) oNone))) (rd 14)) (opL lstF (aNil))) (andV (orV (op2 eqT (rd 12) (cst (.str "0"))) (op2 neT (op2 ixT (rd 12) (cst (.int 0))) (cst (.str "0")))) (op2 leT (opL lenO (aCons (rd 12) (aNil))) (cst (.int 2)))))
      [o0, o1, some (.str SG), o3, o4, o5, o6, o7, o8, o9, o10, o11, some (.str r), o13, o14, o15]) Q = Q (.bl (figR r c)) [o0, o1, some (.str SG), o3, o4, o5, o6, o7, o8, o9, o10, o11, some (.str r), o13, o14, o15] := by
  have hS := hSz
  have hl' := sig_len r
  have oc : PyData.strOk (ch c) = true := by
    have := List.all_eq_true.mp ho c (List.mem_of_getElem? h0)
    simp only [decide_eq_true_eq] at this
    simp [PyData.strOk, ch]
    omega
  have or_ := asc_ok ho
  refine wE_eq (wE_out ?_) Q
  have ix : ∀ Q : T → Prop, wO (ixT (.str r) (.int 0)) Q = Q (.str (ch c)) := fun Q => wO_eq (ixS (j := 0) h0 (by omega)) Q
  have e48 : (ch c == Str.ofString "0") = decide (c = 48) := ch_lit (by decide +kernel)
  have i1 : ∀ Q : T → VS.Env → Prop, wLC [14] (gNm 14) (tst isBl (op2 notInT (rd 14) (slE (rd 2) (oSome (cst (.int 26))) oNone))) (rd 14) ((sig r).map fun c => .str (ch c)) [o0, o1, some (.str SG), o3, o4, o5, o6, o7, o8, o9, o10, o11, some (.str r), o13, o14, o15] Q = Q (.lst (((sig r).filter fun c => !isD c).map fun c => .str (ch c))) [o0, o1, some (.str SG), o3, o4, o5, o6, o7, o8, o9, o10, o11, some (.str r), o13, o14, o15] := by
    intro Q
    rw [wLC_flt (P := fun x => match x with
      | .str z => !isD (z.cps.getD 0 0)
      | _ => false) (by simp) (by rw [List.length_map, hl']; omega) (by
      intro x hx
      obtain ⟨d, hd, rfl⟩ := List.mem_map.mp hx
      simp (config := {decide := true}) [sg26, sg_len])]
    rw [flt_ch (p := fun c => !isD c)]
  have en := eqT_lst_nil (dd_chs (l := (sig r).filter fun c => !isD c) ho (fun c hc => (List.mem_filter.mp hc).1))
  rw [show (((sig r).filter fun c => !isD c).map fun c => T.str (ch c)).isEmpty = ((sig r).filter fun c => !isD c).isEmpty by cases (sig r).filter fun c => !isD c <;> rfl] at en
  cases g1 : ((sig r).filter fun c => !isD c).isEmpty
  · rw [g1] at en
    simp (config := {decide := true}) [↓i1, ↓wO_eq en, figR, g1]
  · rw [g1] at en
    cases g2 : (r == Str.ofString "0") <;> cases g3 : decide (c = 48) <;> by_cases g4 : r.length ≤ 2
    all_goals rw [g3] at e48
    all_goals have p2 : ((r.length : Int) ≤ 2) ↔ (r.length ≤ 2) := by omega
    all_goals simp (config := {decide := true}) [↓i1, ↓wO_eq en, figR, g1, g2, g3, g4, ↓ix, oc, or_, e48, p2]
    all_goals omega
theorem nameE (h0 : (sig r)[0]? = some c) (hl : r.length ≤ 10000) (ho : Asc r = true) {Q : T → VS.Env → Prop} :
    wE ((andV (op2 leT (opL lenO (aCons (rd 12) (aNil))) (cst (.int 8))) (andV (op2 inT (op2 ixT (rd 12) (cst (.int 0))) (slE (rd 2) oNone (oSome (cst (.int 26))))) (op2 eqT (eLc [14] (iSeq (rd 12)) (gNm 14) (tst isBl (op2 notInT (rd 14) (rd 2))) (rd 14)) (opL lstF (aNil)))))
      [o0, o1, some (.str SG), o3, o4, o5, o6, o7, o8, o9, o10, o11, some (.str r), o13, o14, o15]) Q = Q (.bl (nameR r c)) [o0, o1, some (.str SG), o3, o4, o5, o6, o7, o8, o9, o10, o11, some (.str r), o13, o14, o15] := by
  have hS := hSz
  have hl' := sig_len r
  refine wE_eq (wE_out ?_) Q
  have ix : ∀ Q : T → Prop, wO (ixT (.str r) (.int 0)) Q = Q (.str (ch c)) := fun Q => wO_eq (ixS (j := 0) h0 (by omega)) Q
  have i1 : ∀ Q : T → VS.Env → Prop, wLC [14] (gNm 14) (tst isBl (op2 notInT (rd 14) (rd 2))) (rd 14) ((sig r).map fun c => .str (ch c)) [o0, o1, some (.str SG), o3, o4, o5, o6, o7, o8, o9, o10, o11, some (.str r), o13, o14, o15] Q = Q (.lst (((sig r).filter fun c => !isS c).map fun c => .str (ch c))) [o0, o1, some (.str SG), o3, o4, o5, o6, o7, o8, o9, o10, o11, some (.str r), o13, o14, o15] := by
    intro Q
    rw [wLC_flt (P := fun x => match x with
      | .str z => !isS (z.cps.getD 0 0)
      | _ => false) (by simp) (by rw [List.length_map, hl']; omega) (by
      intro x hx
      obtain ⟨d, hd, rfl⟩ := List.mem_map.mp hx
      have := mem_LD1 (c := d)
      simp (config := {decide := true}) [SG])]
    rw [flt_ch (p := fun c => !isS c)]
  have en := eqT_lst_nil (dd_chs (l := (sig r).filter fun c => !isS c) ho (fun c hc => (List.mem_filter.mp hc).1))
  rw [show (((sig r).filter fun c => !isS c).map fun c => T.str (ch c)).isEmpty = ((sig r).filter fun c => !isS c).isEmpty by cases (sig r).filter fun c => !isS c <;> rfl] at en
  have p2 : ((r.length : Int) ≤ 8) ↔ (r.length ≤ 8) := by omega
  by_cases g4 : r.length ≤ 8
  · cases g1 : isL c
    · simp (config := {decide := true}) [nameR, g1, g4, ↓ix, p2, sg0, sg_len]
      omega
    · simp (config := {decide := true}) [↓i1, ↓wO_eq en, nameR, g1, g4, ↓ix, p2, sg0, sg_len]
      omega
  · simp (config := {decide := true}) [nameR, g4, p2]
    omega
theorem in_lst (ho : PyData.strOk r = true) : inO (.str r) (.lst (RES.map .str)) = some (resB r) := by
  have h1 : ∀ ss : List Str, toDs (ss.map .str) = some (ss.map PyData.str) := by
    intro ss
    induction ss with
    | nil => simp [toDs]
    | cons s t ih => simp [toDs, toD, ih]
  have h2 : SeqAt.shaped (.list (RES.map PyData.str)) = true := by decide +kernel
  have h3 : ∀ ss : List Str, (ss.map PyData.str).any (fun z => PyData.eqv z (.str r)) = ss.any (· == r) := by
    intro ss
    induction ss with
    | nil => rfl
    | cons s t ih => rw [List.map_cons, List.any_cons, List.any_cons, ih]; simp [PyData.eqv]
  simp only [inO, toD, h1, shaped_str ho, h2, Bool.and_self, if_true, h3]
  rfl
def WD : Str := "and ascends below claim compares down drop else empty end ends flag greatest if in is keep least less not or out plus put same skip up while"
theorem split_ok : splitT (.str WD) [.str " "] = some (.lst (RES.map .str)) := by kernel_rfl
/-- the token of a run, by the law -/
def W0 (r : Str) (c : Nat) : Str := if resB r = true then "key" else if nameR r c = true then "name" else if figR r c = true then "number" else "bad"
def X0 (r : Str) (c : Nat) : T := if resB r = true then .str r else if nameR r c = true then .str r else if figR r c = true then .int (numV r) else .str ""
theorem wx_run (h : Run r c) : W0 r c = rtW r c ∧ X0 r c = rtX r c := by
  unfold W0 X0 rtW rtX
  rw [nameR_run h, figR_run h]
  exact ⟨rfl, rfl⟩
theorem wx_not (h : (sig r)[0]? = some c) (hc : isS c = false) : W0 r c = "bad" ∧ X0 r c = .str "" := by
  unfold W0 X0
  rw [res_not h hc, nameR_not h hc, figR_not h hc]
  exact ⟨rfl, rfl⟩
theorem fig_hd (h0 : (sig r)[0]? = some c) (hl : r.length ≤ 10000) (hf : figR r c = true) : ∃ n : Int, intO [.str r] = some (.int n) ∧ numV r = n := by
  have hc : isS c = true := by
    cases h : isS c with
    | true => rfl
    | false => rw [figR_not h0 h] at hf; cases hf
  have ha : (sig r).all isD = true := by
    unfold figR at hf
    rw [flt_emp] at hf
    simp only [Bool.and_eq_true] at hf
    exact hf.1
  have hr : Run r c := ⟨h0, fun d hd => by simp [isS, List.all_eq_true.mp ha d hd], hl⟩
  rw [figR_run hr] at hf
  obtain ⟨n, e, _, _, e2⟩ := fig_num hr hf
  exact ⟨n, e, e2⟩
theorem tokE (h0 : (sig r)[0]? = some c) (hl : r.length ≤ 10000) (ho : Asc r = true) {Q : T → VS.Env → Prop} :
    wE (VS.ife (tst isBl (op2 inT (rd 12) (VS.mS splitT (rd 1) (aCons (cst (.str " ")) (aNil))))) (opL tupF (aCons (cst (.str "key")) (aCons (rd 12) (aNil)))) (VS.ife (tst isBl (rd 15)) (opL tupF (aCons (cst (.str "name")) (aCons (rd 12) (aNil)))) (VS.ife (tst isBl (rd 13)) (opL tupF (aCons (cst (.str "number")) (aCons (opL intO (aCons (rd 12) (aNil))) (aNil)))) (opL tupF (aCons (cst (.str "bad")) (aCons (cst (.str "")) (aNil))))))
      [o0, some (.str WD), o1, o3, o4, o5, o6, o7, o8, o9, o10, o11, some (.str r), some (.bl (figR r c)), o14, some (.bl (nameR r c))]) Q = Q (.tup [.str (W0 r c), X0 r c]) [o0, some (.str WD), o1, o3, o4, o5, o6, o7, o8, o9, o10, o11, some (.str r), some (.bl (figR r c)), o14, some (.bl (nameR r c))] := by
  refine wE_eq (wE_out ?_) Q
  have or_ := asc_ok ho
  have hi : inT (.str r) (.lst (RES.map .str)) = some (.bl (resB r)) := by simp [inT, in_lst or_]
  cases g1 : resB r
  · cases g2 : nameR r c
    · cases g3 : figR r c
      · simp (config := {decide := true}) [↓wO_eq split_ok, ↓wO_eq hi, g1, g2, g3, W0, X0, isStr]
      · obtain ⟨n, e, e2⟩ := fig_hd h0 hl g3
        simp (config := {decide := true}) [↓wO_eq split_ok, ↓wO_eq hi, g1, g2, g3, W0, X0, isStr, ↓wO_eq e, e2]
    · simp (config := {decide := true}) [↓wO_eq split_ok, ↓wO_eq hi, g1, g2, W0, X0, isStr]
  · simp (config := {decide := true}) [↓wO_eq split_ok, ↓wO_eq hi, g1, W0, X0, isStr]
end
end K64
-- K64rd
set_option Elab.async false
set_option linter.all false
set_option maxRecDepth 100000
set_option maxHeartbeats 8000000
/-! K64rd: tokens of a text, by the law's own runs. -/
namespace K64
open PySem L2 VS
theorem runEnd_stopLe {l : List Nat} : ∀ (k i j d : Nat), j - i ≤ k → i ≤ j → l[j]? = some d → isS d = false → runEnd l i ≤ j
  | 0, i, j, d, hk, hij, hd, hs => by
    have : i = j := by omega
    subst this
    exact Nat.le_of_eq (runEnd_stop hd hs)
  | k + 1, i, j, d, hk, hij, hd, hs => by
    by_cases e : i = j
    · subst e
      exact Nat.le_of_eq (runEnd_stop hd hs)
    · have hj := (List.getElem?_eq_some_iff.mp hd).1
      obtain ⟨c, hc⟩ : ∃ c, l[i]? = some c := ⟨l[i]'(by omega), by simp⟩
      cases hs2 : isS c
      · rw [runEnd_stop hc hs2]; exact hij
      · rw [runEnd_step hc hs2]
        exact runEnd_stopLe k (i + 1) j d (by omega) (by omega) hd hs
theorem runEnd_ext {l : List Nat} : ∀ (k i j d : Nat), j - i ≤ k → i ≤ j → j ≤ runEnd l i → l[j]? = some d → isS d = true → j + 1 ≤ runEnd l i
  | 0, i, j, d, hk, hij, hr, hd, hs => by
    have : i = j := by omega
    subst this
    rw [runEnd_step hd hs]
    exact runEnd_ge l (i + 1)
  | k + 1, i, j, d, hk, hij, hr, hd, hs => by
    by_cases e : i = j
    · subst e
      rw [runEnd_step hd hs]
      exact runEnd_ge l (i + 1)
    · have hj := (List.getElem?_eq_some_iff.mp hd).1
      obtain ⟨c, hc⟩ : ∃ c, l[i]? = some c := ⟨l[i]'(by omega), by simp⟩
      cases hs2 : isS c
      · rw [runEnd_stop hc hs2] at hr; omega
      · rw [runEnd_step hc hs2] at hr ⊢
        exact runEnd_ext k (i + 1) j d (by omega) (by omega) hr hd hs
theorem two62 {x : Int} (h : 0 ≤ x) (k : x ≤ 1000000) : -(2 ^ 62) ≤ x ∧ x < 2 ^ 62 := by
  have e : (2 : Int) ^ 62 = 4611686018427387904 := by decide +kernel
  rw [e]
  omega
theorem rg2_nat {i M : Nat} (h : i + M ≤ 1000000) : rg2O [.int i, .int ((i + M : Nat) : Int)] = some (rgL i M) := by
  have a := two62 (x := (i : Int)) (by omega) (by omega)
  have b := two62 (x := ((i + M : Nat) : Int)) (by omega) (by omega)
  have e : (((i + M : Nat) : Int) - (i : Int)).toNat = M := by omega
  simp only [rg2O]
  rw [if_pos ⟨a.1, a.2, b.1, b.2⟩, e]
theorem rg1_nat {n : Nat} (h : n ≤ 1000000) : rg1O [.int (n : Int)] = some (rgL 0 n) := by
  have a := two62 (x := (n : Int)) (by omega) (by omega)
  simp only [rg1O]
  rw [if_pos a]
  simp
section
variable (A : Ad) {s : Str} {i c : Nat} {D : VS.Fin} {o1 o3 o4 o5 o7 o8 o10 o11 o12 o13 o14 o15 : Option T}
theorem innerE (hs : s.length ≤ 6000) (hc : (sig s)[i]? = some c)
    (h : ∀ (E : Nat) (o11 : Option T), i + 1 ≤ E → E ≤ s.length → (isS c = true → E = min (runEnd (sig s) i) (i + 50)) → D.nx [some (.str s), o1, some (.str SG), o3, o4, o5, some (.int i), o7, o8, some (.int E), o10, o11, o12, o13, o14, o15]) :
    wS (sFor (iOpt rg2O (aCons (rd 6) (aCons (opL min2O (aCons (opL lenO (aCons (rd 0) (aNil))) (aCons (op2 addT (rd 6) (cst (.int 50))) (aNil)))) (aNil)))) (gNm 11) (sSet 9 (VS.ife (andT (tst isBl (op2 leT (rd 11) (opL max2O (aCons (rd 9) (aCons (rd 6) (aNil)))))) (tst isBl (op2 inT (op2 ixT (rd 0) (rd 11)) (rd 2)))) (op2 addT (rd 11) (cst (.int 1))) (rd 9)))
      [some (.str s), o1, some (.str SG), o3, o4, o5, some (.int i), o7, o8, some (.int ((i : Int) + 1)), o10, o11, o12, o13, o14, o15]) D := by
  have hS := hSz
  have hl := sig_len s
  have hi := (List.getElem?_eq_some_iff.mp hc).1
  obtain ⟨M, hM1, hM2⟩ : ∃ M : Nat, i + M = min s.length (i + 50) ∧ (if (i : Int) + 50 < (s.length : Int) then (i : Int) + 50 else (s.length : Int)) = (i + M : Nat) := by
    refine ⟨min s.length (i + 50) - i, by omega, ?_⟩
    split <;> omega
  have hrg : rg2O [.int i, .int ((i + M : Nat) : Int)] = some (rgL i M) := rg2_nat (by omega)
  have hr1 : isS c = true → i + 1 ≤ runEnd (sig s) i := fun h1 => by
    rw [runEnd_step hc h1]
    exact runEnd_ge _ _
  rw [r_sFor]
  simp (config := {decide := true, implicitDefEqProofs := false}) only [↓r_iOpt, ↓r_aCons, ↓r_rd, ↓r_wI6, ↓r_wI0, ↓r_opL, ↓r_aNil, ↓r_lenStr, ↓r_op2, ↓r_cst, ↓r_addT_int, ↓r_min2, hM2, ↓wO_eq hrg]
  refine ⟨by omega, ?_⟩
  refine wS_forL (fun k e => ∃ (E : Nat) (o11 : Option T), e = [some (.str s), o1, some (.str SG), o3, o4, o5, some (.int i), o7, o8, some (.int E), o10, o11, o12, o13, o14, o15] ∧ i + 1 ≤ E ∧ E ≤ s.length ∧ (isS c = true → E = min (runEnd (sig s) i) (max (i + k) (i + 1)))) _ 0 _ ⟨i + 1, o11, by simp, by omega, by omega, fun h1 => by have := hr1 h1; omega⟩ ?_ ?_
  · intro k x e hx ⟨E, o11, he, h1, h2, h3⟩
    subst he
    have hk : k < M := by
      have := (List.getElem?_eq_some_iff.mp hx).1
      simpa [rgL] using this
    have ex : x = .int ((i + k : Nat) : Int) := by
      simp [rgL, hk] at hx
      rw [← hx]
      simp
    subst ex
    obtain ⟨d, hd⟩ : ∃ d, (sig s)[i + k]? = some d := ⟨(sig s)[i + k]'(by omega), by simp⟩
    have ix := wO_eq (ixS hd (by omega : s.length ≤ sizeLine))
    have g0 : ¬ ((E : Int) < (i : Int)) := by omega
    simp only [Nat.zero_add] at h3 ⊢
    by_cases g1 : i + k ≤ E
    · have g1' : ((i + k : Nat) : Int) ≤ (E : Int) := by omega
      cases g2 : isS d
      · simp (config := {decide := true, implicitDefEqProofs := false}) only [↓r_tgB, ↓r_gNm, ↓r_wP11, ↓r_sSet, ↓r_ife, ↓r_andT, ↓r_tst, ↓r_op2, ↓r_rd, ↓r_wI11, ↓r_opL, ↓r_aCons, ↓r_aNil, ↓r_wI9, ↓r_wI6, ↓r_max2, gt_iff_lt, g0, if_false, ↓r_leT, g1', ↓r_isBl, if_true, ↓r_wI0, ↓ix, ↓r_wI2, ↓r_inC, SG, mem_LD1, g2, Bool.false_eq_true, ↓r_wP9, decide_true]
        refine ⟨E, _, rfl, h1, h2, fun h4 => ?_⟩
        have q1 := h3 h4
        have q2 := runEnd_stopLe (l := sig s) k i (i + k) d (by omega) (by omega) hd g2
        omega
      · simp (config := {decide := true, implicitDefEqProofs := false}) only [↓r_tgB, ↓r_gNm, ↓r_wP11, ↓r_sSet, ↓r_ife, ↓r_andT, ↓r_tst, ↓r_op2, ↓r_rd, ↓r_wI11, ↓r_opL, ↓r_aCons, ↓r_aNil, ↓r_wI9, ↓r_wI6, ↓r_max2, gt_iff_lt, g0, if_false, ↓r_leT, g1', ↓r_isBl, if_true, ↓r_wI0, ↓ix, ↓r_wI2, ↓r_inC, SG, mem_LD1, g2, Bool.false_eq_true, ↓r_wP9, decide_true, ↓r_cst, ↓r_addT_int]
        refine ⟨i + k + 1, _, rfl, by omega, by omega, fun h4 => ?_⟩
        have q1 := h3 h4
        have q2 := runEnd_ext (l := sig s) k i (i + k) d (by omega) (by omega) (by have := hr1 h4; omega) hd g2
        omega
    · have g1' : ¬ (((i + k : Nat) : Int) ≤ (E : Int)) := by omega
      simp (config := {decide := true, implicitDefEqProofs := false}) only [↓r_tgB, ↓r_gNm, ↓r_wP11, ↓r_sSet, ↓r_ife, ↓r_andT, ↓r_tst, ↓r_op2, ↓r_rd, ↓r_wI11, ↓r_opL, ↓r_aCons, ↓r_aNil, ↓r_wI9, ↓r_wI6, ↓r_max2, gt_iff_lt, g0, if_false, ↓r_leT, g1', ↓r_isBl, decide_false, Bool.false_eq_true, ↓r_wP9]
      refine ⟨E, _, rfl, h1, h2, fun h4 => ?_⟩
      have q1 := h3 h4
      omega
  · rintro e ⟨E, o11, rfl, h1, h2, h3⟩
    have hlen : (rgL (i : Int) M).length = M := by simp [rgL]
    rw [hlen] at h3
    refine h E o11 h1 h2 fun h4 => ?_
    have q1 := h3 h4
    have q2 := runEnd_le (l := sig s) (i := i) (by omega)
    omega
end
end K64
-- K64re
set_option Elab.async false
set_option linter.all false
set_option maxRecDepth 100000
set_option maxHeartbeats 8000000
/-! K64re: tokens of a text, by the law's own runs: the loop. -/
namespace K64
open PySem L2 VS
theorem W0_tx (r : Str) (c : Nat) : Tx (W0 r c) 6 := by
  unfold W0
  split
  · exact ⟨by decide +kernel, by decide +kernel⟩
  · split
    · exact ⟨by decide +kernel, by decide +kernel⟩
    · split
      · exact ⟨by decide +kernel, by decide +kernel⟩
      · exact ⟨by decide +kernel, by decide +kernel⟩
theorem sub_hd {l : List Nat} {i E c : Nat} (h : l[i]? = some c) (hE : i + 1 ≤ E) : (sig (sub l i E))[0]? = some c := by
  rw [sub_sig, List.getElem?_take, if_pos (by omega), List.getElem?_drop]
  exact h
theorem sub_asc {s : Str} {i E : Nat} (h : Asc s = true) : Asc (sub (sig s) i E) = true := by
  unfold Asc
  rw [List.all_eq_true]
  intro c hc
  rw [show (sub (sig s) i E).cps.toList = ((sig s).drop i).take (E - i) from sub_sig _ _ _] at hc
  exact List.all_eq_true.mp h c (List.mem_of_mem_drop (List.mem_of_mem_take hc))
section
variable (A : Ad) {s : Str} {i c E ln f : Nat} {D : VS.Fin} {acc : List T} {o7 o8 o11 o12 o13 o14 o15 : Option T}
theorem tailE (hs : s.length ≤ 6000) (hA : Asc s = true) (hc : (sig s)[i]? = some c) (h1 : i + 1 ≤ E) (h2 : E ≤ s.length) (ha : acc.length ≤ 10000) {col : Int}
    (hb : (W0 (sub (sig s) i E) c == Str.ofString "bad") = true → ∀ (o : Option T) (e : VS.Env), D.rt (.lst (acc ++ [tk (W0 (sub (sig s) i E) c) (X0 (sub (sig s) i E) c) ln col])) (o :: e))
    (hn : (W0 (sub (sig s) i E) c == Str.ofString "bad") = false → ∀ o12 o13 o15, D.nx [some (.str s), some (.str WD), some (.str SG), some (.lst (acc ++ [tk (W0 (sub (sig s) i E) c) (X0 (sub (sig s) i E) c) ln col])), some (.int ln), some (.int f), some (.int i), o7, o8, some (.int E), some (.tup [.int ln, .int col]), o11, o12, o13, o14, o15]) :
    wS (sSeq (sSet 12 (slE (rd 0) (oSome (rd 6)) (oSome (rd 9)))) (sSeq (sSet 13 (andV (op2 eqT (eLc [14] (iSeq (rd 12)) (gNm 14) (tst isBl (op2 notInT (rd 14) (slE (rd 2) (oSome (cst (.int 26))) oNone))) (rd 14)) (opL lstF (aNil))) (andV (orV (op2 eqT (rd 12) (cst (.str "0"))) (op2 neT (op2 ixT (rd 12) (cst (.int 0))) (cst (.str "0")))) (op2 leT (opL lenO (aCons (rd 12) (aNil))) (cst (.int 2)))))) (sSeq (sSet 15 (andV (op2 leT (opL lenO (aCons (rd 12) (aNil))) (cst (.int 8))) (andV (op2 inT (op2 ixT (rd 12) (cst (.int 0))) (slE (rd 2) oNone (oSome (cst (.int 26))))) (op2 eqT (eLc [14] (iSeq (rd 12)) (gNm 14) (tst isBl (op2 notInT (rd 14) (rd 2))) (rd 14)) (opL lstF (aNil)))))) (sSeq (sEx (VS.mtO 3 apM (aCons (op2 addT (VS.ife (tst isBl (op2 inT (rd 12) (VS.mS splitT (rd 1) (aCons (cst (.str " ")) (aNil))))) (opL tupF (aCons (cst (.str "key")) (aCons (rd 12) (aNil)))) (VS.ife (tst isBl (rd 15)) (opL tupF (aCons (cst (.str "name")) (aCons (rd 12) (aNil)))) (VS.ife (tst isBl (rd 13)) (opL tupF (aCons (cst (.str "number")) (aCons (opL intO (aCons (rd 12) (aNil))) (aNil)))) (opL tupF (aCons (cst (.str "bad")) (aCons (cst (.str "")) (aNil))))))) (rd 10)) (aNil)))) (sIf (tst isBl (op2 eqT (op2 ixT (VS.ixO 3 (op1 negT (cst (.int 1)))) (cst (.int 0))) (cst (.str "bad")))) (sRet (rd 3)) (sNil)))))
      [some (.str s), some (.str WD), some (.str SG), some (.lst acc), some (.int ln), some (.int f), some (.int i), o7, o8, some (.int E), some (.tup [.int ln, .int col]), o11, o12, o13, o14, o15]) D := by
  have hS := hSz
  have hl := sig_len s
  have hr0 := sub_hd hc h1
  have hrl : (sub (sig s) i E).length ≤ 10000 := by rw [sub_len (by omega)]; omega
  have hra := sub_asc (i := i) (E := E) hA
  have hcut := cut_sub (s := s) (i := i) (j := E) h2
  generalize sub (sig s) i E = r at *
  have ow := (W0_tx r c).ok
  rw [r_sSeq]
  simp (config := {decide := true, implicitDefEqProofs := false}) only [↓r_sSet, ↓r_slE, ↓r_rd, ↓r_wI0, ↓r_oSome, ↓r_wI6, ↓r_wI9, ↓r_wInt, ↓r_slTs, hcut, ↓r_wP12]
  refine ⟨by omega, ?_⟩
  rw [r_sSeq, r_sSet, figE hr0 hrl hra]
  simp (config := {decide := true, implicitDefEqProofs := false}) only [↓r_wP13]
  rw [r_sSeq, r_sSet, nameE hr0 hrl hra]
  simp (config := {decide := true, implicitDefEqProofs := false}) only [↓r_wP15]
  rw [r_sSeq, r_sEx, r_mtO, r_wH3, r_aCons, r_op2, tokE hr0 hrl hra]
  cases g : (W0 r c == Str.ofString "bad")
  · have := hn g
    simp (config := {decide := true, implicitDefEqProofs := false}) [ow, g]
    exact ⟨by omega, this _ _ _⟩
  · have := hb g
    simp (config := {decide := true, implicitDefEqProofs := false}) [ow, g]
    exact ⟨by omega, this _ _⟩
end
theorem key_ok {s : Str} {i c E : Nat} (hs : s.length ≤ 6000) (hc : (sig s)[i]? = some c) (h1 : i + 1 ≤ E) (h2 : E ≤ s.length) (h3 : isS c = true → E = min (runEnd (sig s) i) (i + 50)) (c10 : c ≠ 10) (cm : ¬ (c = 40 ∨ c = 41)) :
    W0 (sub (sig s) i E) c = tkW (sig s) i c ∧ X0 (sub (sig s) i E) c = tkX (sig s) i c ∧ ((tkW (sig s) i c == Str.ofString "bad") = false → E = tkE (sig s) i c) := by
  have hl := sig_len s
  have hi := (List.getElem?_eq_some_iff.mp hc).1
  have hr0 := sub_hd hc h1
  unfold tkW tkX tkE
  rw [if_neg c10, if_neg c10, if_neg c10, if_neg cm, if_neg cm, if_neg cm]
  cases hS : isS c
  · obtain ⟨a, b⟩ := wx_not hr0 hS
    rw [a, b]
    simp only [Bool.false_eq_true, if_false]
    exact ⟨trivial, trivial, fun h => absurd h (by decide +kernel)⟩
  · have q3 := h3 hS
    have hrun := run_sub hc hS (by omega)
    have q4 := runEnd_le (l := sig s) (i := i) (by omega)
    simp only [if_true]
    by_cases hb : runEnd (sig s) i ≤ i + 50
    · have : E = runEnd (sig s) i := by omega
      subst this
      obtain ⟨a, b⟩ := wx_run hrun
      exact ⟨a, b, fun _ => rfl⟩
    · have : E = i + 50 := by omega
      have l1 : (sub (sig s) i E).length = 50 := by rw [sub_len (by omega)]; omega
      have l2 : 8 < (sub (sig s) i (runEnd (sig s) i)).length := by rw [sub_len (by omega)]; omega
      have r1 : Run (sub (sig s) i E) c := ⟨hr0, fun d hd => run_all (sig s) i d (by
        rw [sub_sig] at hd
        have e : ((sig s).drop i).take (E - i) = (((sig s).drop i).take (runEnd (sig s) i - i)).take (E - i) := by rw [List.take_take, Nat.min_eq_left (by omega)]
        rw [e] at hd
        exact List.mem_of_mem_take hd), by omega⟩
      obtain ⟨a, b⟩ := wx_run r1
      obtain ⟨a1, b1⟩ := rt_long (c := c) (by omega : 8 < (sub (sig s) i E).length)
      obtain ⟨a2, b2⟩ := rt_long (c := c) l2
      rw [a, b, a1, b1, a2, b2]
      exact ⟨rfl, rfl, fun h => absurd h (by decide +kernel)⟩
theorem runs_ok (A : Ad) (s : Str) (hs : s.length ≤ 6000) (hA : Asc s = true) : f__law_runs A [.str s] = .ok (.lst (go (sig s) 0 1 0)) [none] := by
  have hS := hSz
  have hl := sig_len s
  refine wE_out ?_
  unfold f__law_runs
  refine runF rfl rfl ?_
  generalize hIN : (sFor (iOpt rg2O (aCons (rd 6) (aCons (opL min2O (aCons (opL lenO (aCons (rd 0) (aNil))) (aCons (op2 addT (rd 6) (cst (.int 50))) (aNil)))) (aNil)))) (gNm 11) (sSet 9 (VS.ife (andT (tst isBl (op2 leT (rd 11) (opL max2O (aCons (rd 9) (aCons (rd 6) (aNil)))))) (tst isBl (op2 inT (op2 ixT (rd 0) (rd 11)) (rd 2)))) (op2 addT (rd 11) (cst (.int 1))) (rd 9)))) = IN
  generalize hTL : (sSeq (sSet 12 (slE (rd 0) (oSome (rd 6)) (oSome (rd 9)))) (sSeq (sSet 13 (andV (op2 eqT (eLc [14] (iSeq (rd 12)) (gNm 14) (tst isBl (op2 notInT (rd 14) (slE (rd 2) (oSome (cst (.int 26))) oNone))) (rd 14)) (opL lstF (aNil))) (andV (orV (op2 eqT (rd 12) (cst (.str "0"))) (op2 neT (op2 ixT (rd 12) (cst (.int 0))) (cst (.str "0")))) (op2 leT (opL lenO (aCons (rd 12) (aNil))) (cst (.int 2)))))) (sSeq (sSet 15 (andV (op2 leT (opL lenO (aCons (rd 12) (aNil))) (cst (.int 8))) (andV (op2 inT (op2 ixT (rd 12) (cst (.int 0))) (slE (rd 2) oNone (oSome (cst (.int 26))))) (op2 eqT (eLc [14] (iSeq (rd 12)) (gNm 14) (tst isBl (op2 notInT (rd 14) (rd 2))) (rd 14)) (opL lstF (aNil)))))) (sSeq (sEx (VS.mtO 3 apM (aCons (op2 addT (VS.ife (tst isBl (op2 inT (rd 12) (VS.mS splitT (rd 1) (aCons (cst (.str " ")) (aNil))))) (opL tupF (aCons (cst (.str "key")) (aCons (rd 12) (aNil)))) (VS.ife (tst isBl (rd 15)) (opL tupF (aCons (cst (.str "name")) (aCons (rd 12) (aNil)))) (VS.ife (tst isBl (rd 13)) (opL tupF (aCons (cst (.str "number")) (aCons (opL intO (aCons (rd 12) (aNil))) (aNil)))) (opL tupF (aCons (cst (.str "bad")) (aCons (cst (.str "")) (aNil))))))) (rd 10)) (aNil)))) (sIf (tst isBl (op2 eqT (op2 ixT (VS.ixO 3 (op1 negT (cst (.int 1)))) (cst (.int 0))) (cst (.str "bad")))) (sRet (rd 3)) (sNil)))))) = TL
  simp (config := {decide := true, implicitDefEqProofs := false}) [wS_sParO, setE, ↓wO_eq (rg1_nat (by omega : s.length ≤ 1000000))]
  refine ⟨by omega, ?_⟩
  refine wS_forL (fun k e => ∃ (i ln f : Nat) (acc : List T) (o7 o8 o9 o10 o11 o12 o13 o14 o15 : Option T), e = [some (.str s), some (.str WD), some (.str SG), some (.lst acc), some (.int ln), some (.int f), some (.int i), o7, o8, o9, o10, o11, o12, o13, o14, o15] ∧ i ≤ s.length ∧ (k ≤ i ∨ i = s.length) ∧ acc ++ go (sig s) i ln f = go (sig s) 0 1 0 ∧ acc.length ≤ i) _ 0 _ ⟨0, 1, 0, [], none, none, none, none, none, none, none, none, none, rfl, by omega, by omega, by simp, by simp⟩ ?_ ?_
  · intro k x e hx ⟨i, ln, f, acc, o7, o8, o9, o10, o11, o12, o13, o14, o15, he, hi, hk, hR, ha⟩
    subst he
    by_cases h : i < s.length
    · have g0 : ¬ ((s.length : Int) ≤ (i : Int)) := by omega
      obtain ⟨c, hc⟩ : ∃ c, (sig s)[i]? = some c := ⟨(sig s)[i]'(by omega), by simp⟩
      have oc : PyData.strOk (ch c) = true := by
        have := List.all_eq_true.mp hA c (List.mem_of_getElem? hc)
        simp only [decide_eq_true_eq] at this
        simp [PyData.strOk, ch]
        omega
      have ix := wO_eq (ixS hc (by omega : s.length ≤ sizeLine))
      have e10 := ch_lit (c := c) l10
      have e32 := ch_lit (c := c) l32
      by_cases c10 : c = 10
      · subst c10
        have e : go (sig s) i ln f = tk "line" (.str "") ln ((i : Int) - f + 1) :: go (sig s) (i + 1) (ln + 1) (i + 1) := by
          have := go_tk (ln := ln) (f := f) hc (by decide) (by simp only [tkW, if_true]; decide +kernel)
          simpa [tkW, tkX, tkE] using this
        simp (config := {decide := true, implicitDefEqProofs := false}) [↓ix, oc, e10, e32, g0]
        refine ⟨by omega, by omega, i + 1, ln + 1, i + 1, _, ⟨rfl, by simp, by simp, by simp⟩, by omega, by omega, ?_, by simp; omega⟩
        rw [e] at hR
        rw [← hR]
        simp [tk]
      · rw [show decide (c = 10) = false by simp [c10]] at e10
        by_cases cm : c = 40 ∨ c = 41
        · have b2 : (decide (c = 40) || decide (c = 41)) = true := by simpa using cm
          have c32 : c ≠ 32 := by omega
          have e : go (sig s) i ln f = tk "mark" (.str (ch c)) ln ((i : Int) - f + 1) :: go (sig s) (i + 1) ln f := by
            have := go_tk (ln := ln) (f := f) hc c32 (by simp only [tkW, c10, cm, if_true, if_false]; decide +kernel)
            simpa [tkW, tkX, tkE, c10, cm] using this
          simp (config := {decide := true, implicitDefEqProofs := false}) [↓ix, oc, e10, e32, g0, cm]
          refine ⟨by omega, by omega, i + 1, ln, f, _, ⟨rfl, rfl, rfl, by simp⟩, by omega, by omega, ?_, by simp; omega⟩
          rw [e] at hR
          rw [← hR]
          simp [tk]
        · by_cases c32 : c = 32
          · have e := go_sp (ln := ln) (f := f) hc c32
            rw [show decide (c = 32) = true by simp [c32]] at e32
            simp (config := {decide := true, implicitDefEqProofs := false}) [↓ix, oc, e10, e32, g0, cm]
            refine ⟨by omega, i + 1, ln, f, acc, ⟨rfl, rfl, rfl, by simp⟩, by omega, by omega, ?_, by omega⟩
            rw [← e]
            exact hR
          · rw [show decide (c = 32) = false by simp [c32]] at e32
            simp (config := {decide := true, implicitDefEqProofs := false}) [↓ix, oc, e10, e32, g0, cm]
            refine ⟨by omega, ?_⟩
            subst hIN
            refine innerE hs hc fun E o11 h1 h2 h3 => ?_
            obtain ⟨k1, k2, k3⟩ := key_ok hs hc h1 h2 h3 c10 cm
            subst hTL
            refine tailE hs hA hc h1 h2 (by omega) (fun hb o e => ?_) (fun hn o12 o13 o15 => ?_)
            · rw [k1] at hb
              have e := go_bad (ln := ln) (f := f) hc c32 hb
              rw [e] at hR
              rw [k1, k2]
              simp
              exact hR
            · rw [k1] at hn
              have e := go_tk (ln := ln) (f := f) hc c32 hn
              rw [if_neg c10, if_neg c10] at e
              have k4 := k3 hn
              rw [e, ← k4] at hR
              rw [k1, k2]
              simp
              refine ⟨E, ln, f, _, ⟨rfl, rfl, rfl, rfl⟩, by omega, by omega, ?_, by simp; omega⟩
              rw [← hR]
              simp
    · have : i = s.length := by omega
      subst this
      simp (config := {decide := true, implicitDefEqProofs := false})
      refine ⟨by omega, s.length, ln, f, acc, ⟨rfl, rfl, rfl, rfl⟩, by omega, by omega, hR, by omega⟩
  · rintro e ⟨i, ln, f, acc, o7, o8, o9, o10, o11, o12, o13, o14, o15, rfl, hi, hk, hR, ha⟩
    have hlen : (rgL 0 s.length).length = s.length := by simp [rgL]
    rw [hlen] at hk
    have : i = s.length := by omega
    subst this
    have e := go_end (l := sig s) (i := s.length) (ln := ln) (f := f) (by omega)
    rw [e] at hR
    simp (config := {decide := true, implicitDefEqProofs := false})
    refine ⟨by omega, by omega, ?_⟩
    rw [← hR]
    simp [tk]
end K64
-- K64rf
set_option Elab.async false
set_option linter.all false
set_option maxRecDepth 100000
set_option maxHeartbeats 8000000
/-! K64rf: repr of tokens. -/
namespace K64
open PySem L2 VS
open PySem.Builtin.Str in
theorem rep_chr : (List.range 128).all (fun c => (reprChar 39 c).all (fun d => decide (d < 128)) && (reprChar 34 c).all (fun d => decide (d < 128))) = true := by decide +kernel
theorem rep_asc {x : Str} (h : Asc x = true) : Asc (reprText x) = true := by
  have hq : reprQuote x = 39 ∨ reprQuote x = 34 := by
    unfold reprQuote
    split <;> simp
  have hc : ∀ c ∈ x.cps.toList, ∀ d ∈ Builtin.Str.reprChar (reprQuote x) c, d < 128 := by
    intro c hc d hd
    have h1 := List.all_eq_true.mp h c hc
    simp only [decide_eq_true_eq] at h1
    have q := List.all_eq_true.mp rep_chr c (by simpa using h1)
    simp only [Bool.and_eq_true, List.all_eq_true, decide_eq_true_eq] at q
    rcases hq with e | e <;> rw [e] at hd
    · exact q.1 d hd
    · exact q.2 d hd
  have key : ∀ (l : List Nat) (acc : Array Nat), (∀ c ∈ l, ∀ d ∈ Builtin.Str.reprChar (reprQuote x) c, d < 128) → (∀ d ∈ acc.toList, d < 128) → ∀ d ∈ (l.foldl (fun out c => out ++ (Builtin.Str.reprChar (reprQuote x) c).toArray) acc).toList, d < 128 := by
    intro l
    induction l with
    | nil => intro acc _ h; exact h
    | cons c r ih =>
      intro acc h1 h2
      refine ih _ (fun c hc => h1 c (by simp [hc])) fun d hd => ?_
      simp at hd
      rcases hd with hd | hd
      · exact h2 d (by simpa using hd)
      · exact h1 c (by simp) d hd
  unfold Asc
  rw [List.all_eq_true]
  intro d hd
  simp only [decide_eq_true_eq]
  unfold reprText at hd
  rw [← Array.foldl_toList] at hd
  simp only [Array.toList_push, List.mem_append, List.mem_singleton] at hd
  rcases hd with hd | rfl
  · exact key x.cps.toList #[reprQuote x] hc (by simp; rcases hq with e | e <;> rw [e] <;> omega) d hd
  · rcases hq with e | e <;> rw [e] <;> omega
theorem dch_lt : ∀ m : Nat, m < 10 → (Nat.digitChar m).toNat < 128 := by decide
theorem tdc : ∀ (fuel k n : Nat) (ds : List Char), 1 ≤ k → n < 10 ^ k → (∀ c ∈ ds, c.toNat < 128) → (Nat.toDigitsCore 10 fuel n ds).length ≤ ds.length + k ∧ ∀ c ∈ Nat.toDigitsCore 10 fuel n ds, c.toNat < 128
  | 0, k, n, ds, hk, hn, hd => by
    simp only [Nat.toDigitsCore]
    exact ⟨by omega, hd⟩
  | fuel + 1, k, n, ds, hk, hn, hd => by
    have hd' : ∀ c ∈ Nat.digitChar (n % 10) :: ds, c.toNat < 128 := fun c hc => by
      rcases List.mem_cons.mp hc with rfl | hc
      · exact dch_lt _ (Nat.mod_lt _ (by omega))
      · exact hd c hc
    simp only [Nat.toDigitsCore]
    split
    · exact ⟨by simp; omega, hd'⟩
    · rename_i h0
      have hk2 : 2 ≤ k := by
        rcases Nat.lt_or_ge k 2 with h | h
        · have : k = 1 := by omega
          subst this
          exact absurd (Nat.div_eq_of_lt (by simpa using hn)) h0
        · exact h
      obtain ⟨a, b⟩ := tdc fuel (k - 1) (n / 10) _ (by omega) (by
        rw [Nat.div_lt_iff_lt_mul (by omega)]
        rw [← Nat.pow_succ, show (k - 1).succ = k by omega]; exact hn) hd'
      exact ⟨by simp at a; omega, b⟩
theorem int_tx {i : Int} (h0 : 0 ≤ i) (h1 : i < 6200) : Tx (Str.ofString (toString i)) 5 := by
  obtain ⟨m, rfl⟩ := Int.eq_ofNat_of_zero_le h0
  obtain ⟨a, b⟩ := tdc (m + 1) 5 m [] (by omega) (by omega) (by simp)
  have e := PySem.W.KIN.signs_num m
  refine ⟨?_, ?_⟩
  · rw [← sig_len]
    unfold sig
    rw [e, List.length_map]
    have a' : (Nat.toDigits 10 m).length ≤ 0 + 5 := a
    omega
  · unfold Asc
    rw [e, List.all_eq_true]
    intro c hc
    obtain ⟨d, hd, rfl⟩ := List.mem_map.mp hc
    have := b d hd
    simpa using this
/-- plain data that can be shown in few plain signs -/
def Sh (k n : Nat) (t : T) : Prop := ∃ d, toD t = some d ∧ d.canLay0 = true ∧ d.depth ≤ k ∧ d.showable = true ∧ Tx d.shown n
def ShL (k n : Nat) (ts : List T) : Prop := ∃ ds, toDs ts = some ds ∧ PyData.canLayAll0 ds = true ∧ PyData.depthAll ds ≤ k ∧ PyData.showableAll ds = true ∧ ∀ s ∈ PyData.shownAll ds, Tx s n
theorem shownAll_len : ∀ ds : List PyData, (PyData.shownAll ds).length = ds.length
  | [] => by simp [PyData.shownAll]
  | d :: r => by simp [PyData.shownAll, shownAll_len r]
theorem toDs_len : ∀ {ts : List T} {ds : List PyData}, toDs ts = some ds → ds.length = ts.length
  | [], ds, h => by simp [toDs] at h; subst h; rfl
  | t :: r, ds, h => by
    simp only [toDs] at h
    cases e1 : toD t with
    | none => simp [e1] at h
    | some d =>
      cases e2 : toDs r with
      | none => simp [e1, e2] at h
      | some dr =>
        simp [e1, e2] at h
        subst h
        simp [toDs_len e2]
theorem ShL.nil {k n : Nat} : ShL k n [] := ⟨[], by simp [toDs], by simp [PyData.canLayAll0], by simp [PyData.depthAll], by simp [PyData.showableAll], by simp [PyData.shownAll]⟩
theorem ShL.cons {k n : Nat} {t : T} {ts : List T} (h : Sh k n t) (r : ShL k n ts) : ShL k n (t :: ts) := by
  obtain ⟨d, a, b, c, e, f⟩ := h
  obtain ⟨ds, a2, b2, c2, e2, f2⟩ := r
  refine ⟨d :: ds, by simp [toDs, a, a2], by simp [PyData.canLayAll0, b, b2], by simp only [PyData.depthAll]; omega, by simp [PyData.showableAll, e, e2], fun s hs => ?_⟩
  simp only [PyData.shownAll, List.mem_cons] at hs
  rcases hs with rfl | hs
  · exact f
  · exact f2 s hs
theorem ShL.all {k n : Nat} : ∀ {ts : List T}, (∀ t ∈ ts, Sh k n t) → ShL k n ts
  | [], _ => .nil
  | _ :: _, h => .cons (h _ (by simp)) (ShL.all fun t ht => h t (by simp [ht]))
theorem sum_le {n : Nat} : ∀ {ss : List Str}, (∀ s ∈ ss, Tx s n) → (ss.map (·.length)).sum ≤ ss.length * n
  | [], _ => by simp
  | s :: r, h => by
    have h1 := (h s (by simp)).len
    have h2 := sum_le (n := n) (ss := r) fun t ht => h t (by simp [ht])
    simp only [List.map_cons, List.sum_cons, List.length_cons, Nat.succ_mul]
    omega
theorem Sh.tup {k n : Nat} {ts : List T} (h : ShL k n ts) : Sh (k + 1) (ts.length * (n + 2) + 3) (.tup ts) := by
  obtain ⟨ds, a, b, c, e, f⟩ := h
  refine ⟨.tuple ds, by simp [toD, a], by simpa [PyData.canLay0] using b, by simp only [PyData.depth]; omega, by simpa [PyData.showable] using e, ?_⟩
  have hl : (PyData.shownAll ds).length = ts.length := by rw [shownAll_len, toDs_len a]
  have hj := Tx.join (sep := ", ") (n := 2) ⟨by decide +kernel, by decide +kernel⟩ (ss := PyData.shownAll ds) fun s hs => (f s hs).asc
  have hs := sum_le f
  have ej : Txt.join ", " (PyData.shownAll ds) = Str.join ", " (PyData.shownAll ds) := StrLaws.glued_eq_join _ _
  rw [ej] at hj
  rw [hl] at hj hs
  have e1 : PyData.shown (.tuple ds) = tupleText (PyData.shownAll ds) := by simp [PyData.shown]
  rw [e1]
  unfold tupleText
  have t1 : Tx ("(" : Str) 1 := ⟨by decide +kernel, by decide +kernel⟩
  have t3 : Tx (Str.ofString (if (PyData.shownAll ds).length == 1 then ",)" else ")" : String)) 2 := by
    split <;> exact ⟨by decide +kernel, by decide +kernel⟩
  refine ((t1.add hj).add t3).mono ?_
  rw [Nat.mul_add]
  omega
theorem Sh.str {k n m : Nat} {s : Str} (h : Tx s n) (hm : 10 * n + 2 ≤ m) : Sh k m (.str s) := by
  have hl := h.len
  have hr := StrLaws.reprText_len s fun c hc => by
    have := List.all_eq_true.mp h.asc c hc
    simp only [decide_eq_true_eq] at this
    omega
  exact ⟨.str s, by simp [toD], by simpa [PyData.canLay0] using h.ok, by simp [PyData.depth], by simp [PyData.showable], by
    simp only [PyData.shown]
    exact ⟨by omega, rep_asc h.asc⟩⟩
theorem Sh.int {k n : Nat} {i : Int} (h0 : 0 ≤ i) (h1 : i < 6200) (hn : 5 ≤ n) : Sh k n (.int i) := by
  have hx := int_tx h0 h1
  refine ⟨.int i, by simp [toD], by simp [PyData.canLay0], by simp [PyData.depth], ?_, by simp only [PyData.shown]; exact hx.mono hn⟩
  simp only [PyData.showable, decide_eq_true_eq]
  by_cases hz : i.natAbs = 0
  · rw [hz]; decide
  · have : i.natAbs.log2 < 13 := (Nat.log2_lt hz).mpr (by omega)
    omega
/-- a token as it stands in a text of few signs -/
theorem tk_sh {w : Str} {x : T} {ln : Nat} {col : Int} (hw : Tx w 6) (hx : Sh 0 82 x) (hl : ln < 6200) (h0 : 0 ≤ col) (h1 : col < 6200) : Sh 1 400 (tk w x ln col) := by
  have hws : Sh 0 82 (.str w) := Sh.str hw (by omega)
  have h := Sh.tup (.cons hws (.cons hx (.cons (Sh.int (k := 0) (n := 82) (i := (ln : Int)) (by omega) (by omega) (by omega)) (.cons (Sh.int (k := 0) (n := 82) h0 h1 (by omega)) .nil))))
  obtain ⟨d, a, b, c, e, f⟩ := h
  exact ⟨d, a, b, c, e, f.mono (by simp)⟩
theorem res_le {r : Str} (h : resB r = true) : r.length ≤ 8 := by
  rcases Nat.lt_or_ge 8 r.length with hl | hl
  · rw [res_long hl] at h; cases h
  · exact hl
theorem tkX_sh {l : List Nat} {i c : Nat} (hl : l.length ≤ 10000) (hc : l[i]? = some c) : Sh 0 82 (tkX l i c) := by
  have he : Sh 0 82 (.str "") := Sh.str (n := 0) ⟨by decide +kernel, by decide +kernel⟩ (by omega)
  unfold tkX
  split
  · exact he
  · split
    · rename_i h
      refine Sh.str (n := 1) ⟨by simp [ch, Str.length], ?_⟩ (by omega)
      rcases h with rfl | rfl <;> decide +kernel
    · split
      · rename_i h
        have hr := run_sub hc h hl
        unfold rtX
        split
        · rename_i h2
          exact Sh.str (n := 8) ⟨res_le h2, hr.ok⟩ (by omega)
        · split
          · rename_i h2
            simp only [nameB, Bool.and_eq_true, decide_eq_true_eq] at h2
            exact Sh.str (n := 8) ⟨h2.1, hr.ok⟩ (by omega)
          · split
            · rename_i h2
              obtain ⟨n, _, h3, h4, h5⟩ := fig_num hr h2
              rw [h5]
              exact Sh.int h3 (by omega) (by omega)
            · exact he
      · exact he
theorem go_all {l : List Nat} (hl : l.length ≤ 6000) : ∀ (k i ln f : Nat), l.length - i ≤ k → i ≤ l.length → f ≤ i → ln ≤ i + 1 → (∀ t ∈ go l i ln f, Sh 1 400 t) ∧ (go l i ln f).length ≤ k + 1 := by
  intro k
  induction k with
  | zero =>
    intro i ln f hk hi hf hn
    have : i = l.length := by omega
    subst this
    rw [go_end (by omega)]
    refine ⟨fun t ht => ?_, by simp⟩
    simp only [List.mem_singleton] at ht
    subst ht
    exact tk_sh ⟨by decide +kernel, by decide +kernel⟩ (Sh.str (n := 0) ⟨by decide +kernel, by decide +kernel⟩ (by omega)) (by omega) (by omega) (by omega)
  | succ k ih =>
    intro i ln f hk hi hf hn
    by_cases h : i < l.length
    · obtain ⟨c, hc⟩ : ∃ c, l[i]? = some c := ⟨l[i], by simp⟩
      by_cases c32 : c = 32
      · rw [go_sp hc c32]
        obtain ⟨a, b⟩ := ih (i + 1) ln f (by omega) (by omega) (by omega) (by omega)
        exact ⟨a, by omega⟩
      · have ht := tk_sh (ln := ln) (col := (i : Int) - f + 1) (tkW_tx l i c) (tkX_sh (by omega) hc) (by omega) (by omega) (by omega)
        cases hb : (tkW l i c == Str.ofString "bad")
        · have h1 := tkE_gt hc hb
          have h2 := tkE_le hc
          rw [go_tk hc c32 hb]
          obtain ⟨a, b⟩ := ih (tkE l i c) (if c = 10 then ln + 1 else ln) (if c = 10 then tkE l i c else f) (by omega) (by omega) (by split <;> omega) (by split <;> omega)
          refine ⟨fun t h => ?_, by simp; omega⟩
          rcases List.mem_cons.mp h with rfl | h
          · exact ht
          · exact a t h
        · rw [go_bad hc c32 hb]
          refine ⟨fun t h => ?_, by simp⟩
          simp only [List.mem_singleton] at h
          subst h
          exact ht
    · have : i = l.length := by omega
      subst this
      rw [go_end (by omega)]
      refine ⟨fun t ht => ?_, by simp⟩
      simp only [List.mem_singleton] at ht
      subst ht
      exact tk_sh ⟨by decide +kernel, by decide +kernel⟩ (Sh.str (n := 0) ⟨by decide +kernel, by decide +kernel⟩ (by omega)) (by omega) (by omega) (by omega)
theorem Sh.dd {k n : Nat} {t : T} (h : Sh k n t) (hk : k ≤ 64) : Dd 64 t := by
  obtain ⟨d, a, b, c, _, _⟩ := h
  exact ⟨d, a, b, by omega⟩
theorem repr_sh {k n : Nat} {t : T} (h : Sh k n t) (hk : k ≤ 64) (hn : n ≤ 16000000) (hr : isRefT t = true) : ∃ r, reprO [t] = some (.str r) ∧ PyData.strOk r = true := by
  obtain ⟨d, a, b, c, e, f⟩ := h
  have hS := hSz
  have := f.len
  refine ⟨d.shown, ?_, f.ok⟩
  have h1 : decide (d.shown.length ≤ sizeLine) = true := by simp; omega
  simp only [reprO, a, hr, shaped_of b (by omega), e, h1, Bool.and_self, if_true]
theorem alike_ok (A : Ad) {k n : Nat} {t : T} (h : Sh k n t) (hk : k ≤ 64) (hn : n ≤ 16000000) (hr : isRefT t = true) : f__law_alike A [t, t] = .ok (.bl true) [none, none] := by
  obtain ⟨r, e, ho⟩ := repr_sh h hk hn hr
  have e2 := eqT_self (h.dd hk)
  refine wE_out ?_
  unfold f__law_alike
  refine runF rfl rfl ?_
  simp (config := {decide := true, implicitDefEqProofs := false}) [↓wO_eq e, ↓wO_eq e2, ho]
theorem toks_sh {s : Str} (hs : s.length ≤ 6000) : Sh 2 2500000 (.tup (go (sig s) 0 1 0)) := by
  have hl := sig_len s
  obtain ⟨a, b⟩ := go_all (l := sig s) (by omega) (sig s).length 0 1 0 (by omega) (by omega) (by omega) (by omega)
  obtain ⟨d, a1, b1, c1, e1, f1⟩ := Sh.tup (ShL.all a)
  refine ⟨d, a1, b1, c1, e1, f1.mono ?_⟩
  have : (go (sig s) 0 1 0).length * (400 + 2) ≤ 6001 * (400 + 2) := Nat.mul_le_mul_right _ (by omega)
  omega
end K64
-- K64rg
set_option Elab.async false
set_option linter.all false
set_option maxRecDepth 100000
set_option maxHeartbeats 8000000
/-! K64rg: errors. -/
namespace K64
open PySem L2 VS
section
variable (A : Ad)
theorem nm_MergeError : A.nmOf A.C_MergeError = some "MergeError" := by simp [Ad.nmOf]
theorem nm_BadText (h : A.Cs.Nodup) : A.nmOf A.C_BadText = some "BadText" := by
  simp only [Ad.Cs, List.nodup_cons, List.mem_cons, List.not_mem_nil, or_false, not_or] at h
  simp only [Ad.nmOf]
  grind
theorem nm_BadKind (h : A.Cs.Nodup) : A.nmOf A.C_BadKind = some "BadKind" := by
  simp only [Ad.Cs, List.nodup_cons, List.mem_cons, List.not_mem_nil, or_false, not_or] at h
  simp only [Ad.nmOf]
  grind
theorem nm_BadLists (h : A.Cs.Nodup) : A.nmOf A.C_BadLists = some "BadLists" := by
  simp only [Ad.Cs, List.nodup_cons, List.mem_cons, List.not_mem_nil, or_false, not_or] at h
  simp only [Ad.nmOf]
  grind
theorem nm_NoCommand (h : A.Cs.Nodup) : A.nmOf A.C_NoCommand = some "NoCommand" := by
  simp only [Ad.Cs, List.nodup_cons, List.mem_cons, List.not_mem_nil, or_false, not_or] at h
  simp only [Ad.nmOf]
  grind
theorem nm_Nothing (h : A.Cs.Nodup) : A.nmOf A.C_Nothing = some "Nothing" := by
  simp only [Ad.Cs, List.nodup_cons, List.mem_cons, List.not_mem_nil, or_false, not_or] at h
  simp only [Ad.nmOf]
  grind
theorem nm_TooLarge (h : A.Cs.Nodup) : A.nmOf A.C_TooLarge = some "TooLarge" := by
  simp only [Ad.Cs, List.nodup_cons, List.mem_cons, List.not_mem_nil, or_false, not_or] at h
  simp only [Ad.nmOf]
  grind
theorem wS_tryAs {i : Nat} {mt : Addr → Option Bool} {f : FS} {g : Exc → Addr → Addr → FS} {env env' : VS.Env} {x : Exc} {o : SOut} {D : VS.Fin} (hf : f env = .exc x env') (hm : mt x.C = some true) (hi : i < env'.length)
    (hg : ∀ a d, clr i (g x a d (env'.set i (some (xval a d x)))) = o) (ho : wS o D) : wS (sTryAs i mt f g env) D := by
  unfold sTryAs
  rw [hf]
  simp only [hm, if_pos hi]
  rw [sameO_eq hg]
  exact ho
/-- what is made of an error -/
def erC (A : Ad) : Nat → Addr
  | 0 => A.C_BadText | 1 => A.C_BadKind | 2 => A.C_BadLists | 3 => A.C_NoCommand | 4 => A.C_TooLarge | 5 => A.C_Nothing | _ => A.C_MergeError
def erN : Nat → List Str
  | 0 => ["line", "column"] | 1 => ["where", "fault"] | 2 => ["name", "fault"] | 3 => ["line"] | 4 => ["what", "limit"] | _ => []
def erV (x y : T) : Nat → List T
  | 3 => [x] | 5 => [] | 6 => [] | _ => [x, y]
def erW : Nat → Str
  | 0 => "BadText" | 1 => "BadKind" | 2 => "BadLists" | 3 => "NoCommand" | 4 => "TooLarge" | 5 => "Nothing" | _ => "MergeError"
theorem lk2 {a b : Str} {x y : T} (h : (b == a) = false) : List.lookup b [(a, x), (b, y)] = some y := by simp [List.lookup, h]
theorem er_ok (x y : T) : ∀ n : Nat, n < 7 → f__law_error A [.int n, .lst [x, y]] = .ok (.tup [.ins (erC A n) (erN n) (erV x y n), .tup (erV x y n), .tup (erV x y n), .str (erW n)]) [none, none]
  | 0, _ => by
    refine wE_out ?_
    unfold f__law_error
    refine runF rfl rfl ?_
    simp (config := {decide := true, implicitDefEqProofs := false}) [erC, erN, erV, erW, mkErr, fldT, Ad.Cs, lk2]
  | 1, _ => by
    refine wE_out ?_
    unfold f__law_error
    refine runF rfl rfl ?_
    simp (config := {decide := true, implicitDefEqProofs := false}) [erC, erN, erV, erW, mkErr, fldT, Ad.Cs, lk2]
  | 2, _ => by
    refine wE_out ?_
    unfold f__law_error
    refine runF rfl rfl ?_
    simp (config := {decide := true, implicitDefEqProofs := false}) [erC, erN, erV, erW, mkErr, fldT, Ad.Cs, lk2]
  | 3, _ => by
    refine wE_out ?_
    unfold f__law_error
    refine runF rfl rfl ?_
    simp (config := {decide := true, implicitDefEqProofs := false}) [erC, erN, erV, erW, mkErr, fldT, Ad.Cs, lk2]
  | 4, _ => by
    refine wE_out ?_
    unfold f__law_error
    refine runF rfl rfl ?_
    simp (config := {decide := true, implicitDefEqProofs := false}) [erC, erN, erV, erW, mkErr, fldT, Ad.Cs, lk2]
  | 5, _ => by
    refine wE_out ?_
    unfold f__law_error
    refine runF rfl rfl ?_
    simp (config := {decide := true, implicitDefEqProofs := false}) [erC, erN, erV, erW]
  | 6, _ => by
    refine wE_out ?_
    unfold f__law_error
    refine runF rfl rfl ?_
    simp (config := {decide := true, implicitDefEqProofs := false}) [erC, erN, erV, erW]
  | n + 7, h => absurd h (by omega)
theorem raised_ok (hA : A.Cs.Nodup) (x y : T) : ∀ n : Nat, n < 7 → f__law_raised A [.int n, .lst [x, y]] = .ok (.str (if n < 6 then erW n else "Nothing")) [none, none] := by
  intro n hn
  refine wE_out ?_
  unfold f__law_raised
  refine runF rfl rfl ?_
  rw [r_sSeq]
  simp (config := {decide := true, implicitDefEqProofs := false}) only [↓r_sAsg, ↓r_rd, ↓r_wI1, List.map, List.replicate, List.cons_append, List.nil_append, ↓r_gLi2, ↓r_gCo, ↓r_gNm, ↓r_gNl, ↓r_wP2, ↓r_wP3]
  have a0 := nm_BadText A hA
  have a1 := nm_BadKind A hA
  have a2 := nm_BadLists A hA
  have a3 := nm_NoCommand A hA
  have a4 := nm_TooLarge A hA
  have a5 := nm_Nothing A hA
  match n, hn with
  | 0, _ =>
    refine wS_tryAs (x := ⟨A.C_BadText, ["line", "column"], [x, y]⟩) (env' := [some (.int 0), some (.lst [x, y]), some x, some y, none]) (o := .ret (.str "BadText") [some (.int 0), some (.lst [x, y]), some x, some y, none]) ?_ ?_ (by simp) (fun a d => ?_) ?_
    · simp (config := {decide := true, implicitDefEqProofs := false}) [sRaiseE, sRaise0]
    · simp [mtIn, Ad.M_MergeError]
    · simp (config := {decide := true, implicitDefEqProofs := false}) [cnS, cnK, xval, clr, a0]
    · simp [wS, erW]
  | 1, _ =>
    refine wS_tryAs (x := ⟨A.C_BadKind, ["where", "fault"], [x, y]⟩) (env' := [some (.int 1), some (.lst [x, y]), some x, some y, none]) (o := .ret (.str "BadKind") [some (.int 1), some (.lst [x, y]), some x, some y, none]) ?_ ?_ (by simp) (fun a d => ?_) ?_
    · simp (config := {decide := true, implicitDefEqProofs := false}) [sRaiseE, sRaise0]
    · simp [mtIn, Ad.M_MergeError]
    · simp (config := {decide := true, implicitDefEqProofs := false}) [cnS, cnK, xval, clr, a1]
    · simp [wS, erW]
  | 2, _ =>
    refine wS_tryAs (x := ⟨A.C_BadLists, ["name", "fault"], [x, y]⟩) (env' := [some (.int 2), some (.lst [x, y]), some x, some y, none]) (o := .ret (.str "BadLists") [some (.int 2), some (.lst [x, y]), some x, some y, none]) ?_ ?_ (by simp) (fun a d => ?_) ?_
    · simp (config := {decide := true, implicitDefEqProofs := false}) [sRaiseE, sRaise0]
    · simp [mtIn, Ad.M_MergeError]
    · simp (config := {decide := true, implicitDefEqProofs := false}) [cnS, cnK, xval, clr, a2]
    · simp [wS, erW]
  | 3, _ =>
    refine wS_tryAs (x := ⟨A.C_NoCommand, ["line"], [x]⟩) (env' := [some (.int 3), some (.lst [x, y]), some x, some y, none]) (o := .ret (.str "NoCommand") [some (.int 3), some (.lst [x, y]), some x, some y, none]) ?_ ?_ (by simp) (fun a d => ?_) ?_
    · simp (config := {decide := true, implicitDefEqProofs := false}) [sRaiseE, sRaise0]
    · simp [mtIn, Ad.M_MergeError]
    · simp (config := {decide := true, implicitDefEqProofs := false}) [cnS, cnK, xval, clr, a3]
    · simp [wS, erW]
  | 4, _ =>
    refine wS_tryAs (x := ⟨A.C_TooLarge, ["what", "limit"], [x, y]⟩) (env' := [some (.int 4), some (.lst [x, y]), some x, some y, none]) (o := .ret (.str "TooLarge") [some (.int 4), some (.lst [x, y]), some x, some y, none]) ?_ ?_ (by simp) (fun a d => ?_) ?_
    · simp (config := {decide := true, implicitDefEqProofs := false}) [sRaiseE, sRaise0]
    · simp [mtIn, Ad.M_MergeError]
    · simp (config := {decide := true, implicitDefEqProofs := false}) [cnS, cnK, xval, clr, a4]
    · simp [wS, erW]
  | 5, _ =>
    refine wS_tryAs (x := ⟨A.C_Nothing, [], []⟩) (env' := [some (.int 5), some (.lst [x, y]), some x, some y, none]) (o := .ret (.str "Nothing") [some (.int 5), some (.lst [x, y]), some x, some y, none]) ?_ ?_ (by simp) (fun a d => ?_) ?_
    · simp (config := {decide := true, implicitDefEqProofs := false}) [sRaiseE, sRaise0]
    · simp [mtIn, Ad.M_MergeError]
    · simp (config := {decide := true, implicitDefEqProofs := false}) [cnS, cnK, xval, clr, a5]
    · simp [wS, erW]
  | 6, _ =>
    refine wS_tryAs (x := ⟨A.C_Nothing, [], []⟩) (env' := [some (.int 6), some (.lst [x, y]), some x, some y, none]) (o := .ret (.str "Nothing") [some (.int 6), some (.lst [x, y]), some x, some y, none]) ?_ ?_ (by simp) (fun a d => ?_) ?_
    · simp (config := {decide := true, implicitDefEqProofs := false}) [sRaiseE, sRaise0]
    · simp [mtIn, Ad.M_MergeError]
    · simp (config := {decide := true, implicitDefEqProofs := false}) [cnS, cnK, xval, clr, a5]
    · simp [wS, erW]
  | n + 7, h => exact absurd h (by omega)
end
end K64
-- K64rh
set_option Elab.async false
set_option linter.all false
set_option maxRecDepth 100000
set_option maxHeartbeats 8000000
/-! K64rh: the parts of the law. -/
namespace K64
open PySem L2 VS
theorem bag_ok (A : Ad) (ns : List Int) (hl : ns.length ≤ 63) : ∃ b, f__law_bag A [.scr ns] = .ok b [none] ∧ Bag b := by
  have hS := hSz
  let cells : List Int := (cutT ns none (some 63)).map fun c => if c < 0 then -c else c
  have hc : (cutT ns none (some 63)).length ≤ 63 := by
    rw [cutT_hi (by omega)]
    simp
    omega
  refine ⟨bagT 0 1234567891 0 cells, wE_out ?_, 0, 1234567891, 0, cells, rfl, by omega, by omega, by omega, by simpa [cells] using hc, fun c h => ?_⟩
  · unfold f__law_bag
    refine runF rfl rfl ?_
    have i1 : ∀ (Q : T → VS.Env → Prop), wLC [1] (gNm 1) tYesF (opL absO (aCons (rd 1) aNil)) ((cutT ns none (some 63)).map .int) [some (.scr ns), none] Q = Q (.lst (cells.map .int)) [some (.scr ns), none] := by
      intro Q
      rw [wLC_map (F := fun x => match x with
        | .int c => .int (if c < 0 then -c else c)
        | _ => .non) (by simp) (by simp; omega) (by
        intro x hx
        obtain ⟨c, hc, rfl⟩ := List.mem_map.mp hx
        simp)]
      simp [cells, Function.comp_def]
    simp (config := {decide := true, implicitDefEqProofs := false}) [↓i1, bagT]
  · obtain ⟨d, hd, rfl⟩ := List.mem_map.mp h
    split <;> omega
theorem wS_tryO {mt : Addr → Option Bool} {f : FS} {g : Exc → FS} {env env' : VS.Env} {x : Exc} {D : VS.Fin} (hf : f env = .exc x env') (hm : mt x.C = some true) (ho : wS (noX (g x env')) D) : wS (sTryO mt f g env) D := by
  unfold sTryO
  rw [hf]
  simp only [hm]
  exact ho
/-! ### errors -/
def menu : List T := [.int 0, .int 7, .str "x", .non, .tup [.str "line", .int 3]]
theorem Sh.non {k n : Nat} (h : 4 ≤ n) : Sh k n .non := ⟨.none, by simp [toD], by simp [PyData.canLay0], by simp [PyData.depth], by simp [PyData.showable], by simp only [PyData.shown]; exact Tx.mono (n := 4) ⟨by decide +kernel, by decide +kernel⟩ h⟩
theorem Sh.mono {k m n p : Nat} {t : T} (h : Sh k n t) (hk : k ≤ m) (hn : n ≤ p) : Sh m p t := let ⟨d, a, b, c, e, f⟩ := h; ⟨d, a, b, Nat.le_trans c hk, e, f.mono hn⟩
theorem menu_sh {x : T} (h : x ∈ menu) : Sh 1 200 x := by
  simp only [menu, List.mem_cons, List.not_mem_nil, or_false] at h
  rcases h with rfl | rfl | rfl | rfl | rfl
  · exact .int (by omega) (by omega) (by omega)
  · exact .int (by omega) (by omega) (by omega)
  · exact .str (n := 1) ⟨by decide +kernel, by decide +kernel⟩ (by omega)
  · exact .non (by omega)
  · exact (Sh.tup (k := 0) (n := 50) (.cons (.str (n := 4) ⟨by decide +kernel, by decide +kernel⟩ (by omega)) (.cons (.int (by omega) (by omega) (by omega)) .nil))).mono (by omega) (by simp)
theorem erV_sh {x y : T} (hx : x ∈ menu) (hy : y ∈ menu) (n : Nat) : Sh 2 1000 (.tup (erV x y n)) := by
  have h0 : Sh 2 1000 (.tup []) := (Sh.tup (k := 0) (n := 0) .nil).mono (by omega) (by simp)
  have h1 : Sh 2 1000 (.tup [x]) := (Sh.tup (.cons (menu_sh hx) .nil)).mono (by omega) (by simp)
  have h2 : Sh 2 1000 (.tup [x, y]) := (Sh.tup (.cons (menu_sh hx) (.cons (menu_sh hy) .nil))).mono (by omega) (by simp)
  unfold erV
  split
  · exact h1
  · exact h0
  · exact h0
  · exact h2
section
variable (A : Ad) {bag : T} {D : VS.Fin} {o0 o2 o3 o4 o5 o6 o7 o8 o9 o10 o11 o12 o13 : Option T}
theorem r_lcN {b : T → VS.Env → Out (Option T)} {acc : List T} {env : VS.Env} {Q : List T → VS.Env → Prop} : wE (lcL b [] acc env) Q = Q acc env := rfl
theorem r_lcC {b : T → VS.Env → Out (Option T)} {x : T} {xs acc : List T} {env : VS.Env} {Q : List T → VS.Env → Prop} : wE (lcL b (x :: xs) acc env) Q = wE (b x env) fun o e => wE (lcL b xs (acc ++ o.toList) e) Q := by
  show wE (match b x env with
    | .ok (some y) env' => lcL b xs (acc ++ [y]) env'
    | .ok none env' => lcL b xs acc env'
    | _ => .stk) Q = _
  cases b x env with
  | ok o e => cases o <;> simp
  | exc _ _ => rfl
  | stk => rfl
theorem dataE (B : Bag bag) {Q : T → VS.Env → Prop} (h : ∀ x y b, x ∈ menu → y ∈ menu → Bag b → Q (.lst [x, y]) [o0, some b, o2, o3, o4, o5, o6, o7, o8, o9, o10, o11, o12, o13]) :
    wE ((eLc [4] (iOpt rg1O (aCons (cst (.int 2)) (aNil))) (gNm 4) (tYesF) (VS.cal1 (f__law_some A) 1 (aCons (opL lstF (aCons (cst (.int 0)) (aCons (cst (.int 7)) (aCons (cst (.str "x")) (aCons (cst .non) (aCons (opL tupF (aCons (cst (.str "line")) (aCons (cst (.int 3)) (aNil)))) (aNil))))))) (aNil)))) [o0, some bag, o2, o3, o4, o5, o6, o7, o8, o9, o10, o11, o12, o13]) Q := by
  obtain ⟨x, b1, e1, hx, B1⟩ := some_ok A B (xs := menu) (by simp [menu]) (by simp [menu])
  obtain ⟨y, b2, e2, hy, B2⟩ := some_ok A B1 (xs := menu) (by simp [menu]) (by simp [menu])
  have q := h x y b2 hx hy B2
  unfold menu at e1 e2
  have r2 : rg1O [.int 2] = some [.int 0, .int 1] := rg1_nat (n := 2) (by omega)
  simp (config := {decide := true, implicitDefEqProofs := false}) [↓wO_eq r2, wLC, ↓r_lcN, ↓r_lcC, ↓wE_lcB, ↓wE_eq e1, ↓wE_eq e2, wipeE, restE]
  exact q
end
end K64
-- K64ri
set_option Elab.async false
set_option linter.all false
set_option maxRecDepth 100000
set_option maxHeartbeats 8000000
/-! K64ri: the law, part by part. -/
namespace K64
open PySem L2 VS
section
variable (A : Ad) {bag : T} {D : VS.Fin} {o0 o2 o3 o4 o5 o6 o7 o8 o9 o10 o11 o12 o13 : Option T}
theorem er_in : ∀ n, n < 7 → erC A n ∈ A.Cs
  | 0, _ => by simp [erC, Ad.Cs]
  | 1, _ => by simp [erC, Ad.Cs]
  | 2, _ => by simp [erC, Ad.Cs]
  | 3, _ => by simp [erC, Ad.Cs]
  | 4, _ => by simp [erC, Ad.Cs]
  | 5, _ => by simp [erC, Ad.Cs]
  | 6, _ => by simp [erC, Ad.Cs]
  | n + 7, h => absurd h (by omega)
theorem er_nm (hA : A.Cs.Nodup) : ∀ n, n < 7 → A.nmOf (erC A n) = some (erW n)
  | 0, _ => nm_BadText A hA
  | 1, _ => nm_BadKind A hA
  | 2, _ => nm_BadLists A hA
  | 3, _ => nm_NoCommand A hA
  | 4, _ => nm_TooLarge A hA
  | 5, _ => nm_Nothing A hA
  | 6, _ => nm_MergeError A
  | n + 7, h => absurd h (by omega)
theorem er_cn : ∀ n, n < 7 → ("class_name" : Str) ∉ erN n
  | 0, _ => by decide +kernel
  | 1, _ => by decide +kernel
  | 2, _ => by decide +kernel
  | 3, _ => by decide +kernel
  | 4, _ => by decide +kernel
  | 5, _ => by decide +kernel
  | 6, _ => by decide +kernel
  | n + 7, h => absurd h (by omega)
theorem er_tx : ∀ n, n < 7 → PyData.strOk (erW n) = true
  | 0, _ => by decide +kernel
  | 1, _ => by decide +kernel
  | 2, _ => by decide +kernel
  | 3, _ => by decide +kernel
  | 4, _ => by decide +kernel
  | 5, _ => by decide +kernel
  | 6, _ => by decide +kernel
  | n + 7, h => absurd h (by omega)
theorem law1b (hA : A.Cs.Nodup) (B : Bag bag) {n : Nat} (hn : n < 7) (h : ∀ (b : T) (o3 o5 o6 o7 o8 : Option T), Bag b → D.nx [o0, some b, some (.int n), o3, o4, o5, o6, o7, o8, o9, o10, o11, o12, o13]) :
    wS ((sSeq (sSet 3 (eLc [4] (iOpt rg1O (aCons (cst (.int 2)) (aNil))) (gNm 4) (tYesF) (VS.cal1 (f__law_some A) 1 (aCons (opL lstF (aCons (cst (.int 0)) (aCons (cst (.int 7)) (aCons (cst (.str "x")) (aCons (cst .non) (aCons (opL tupF (aCons (cst (.str "line")) (aCons (cst (.int 3)) (aNil)))) (aNil))))))) (aNil))))) (sSeq (sAsg (VS.cal0 (f__law_error A) (aCons (rd 2) (aCons (rd 3) (aNil)))) (gTu (gCo (gNm 5) (gCo (gNm 6) (gCo (gNm 7) (gCo (gNm 8) (gNl))))) 4)) (sSeq (sIf (orT (notT (tst isBl (opL (isiEO A.Cs (.ref A.C_MergeError)) (aCons (rd 5) (aCons (cst (.ref A.C_MergeError)) (aNil)))))) (orT (notT (tst isBl (opL (isiEO A.Cs (.ty "ValueError")) (aCons (rd 5) (aCons (cst (.ty "ValueError")) (aNil)))))) (notT (tst isBl (VS.cal0 (f__law_alike A) (aCons (rd 6) (aCons (rd 7) (aNil)))))))) (sRet (cst (.bl false))) (sNil)) (sIf (orT (tst isBl (op2 neT (op1 (cnT A.nmOf) (rd 5)) (rd 8))) (tst isBl (op2 neT (VS.cal0 (f__law_raised A) (aCons (rd 2) (aCons (rd 3) (aNil)))) (VS.ife (tst isBl (op2 ltT (rd 2) (cst (.int 6)))) (rd 8) (cst (.str "Nothing")))))) (sRet (cst (.bl false))) (sNil))))) [o0, some bag, some (.int n), o3, o4, o5, o6, o7, o8, o9, o10, o11, o12, o13]) D := by
  rw [r_sSeq, r_sSet]
  refine dataE A B fun x y b hx hy B1 => ?_
  have e1 := er_ok A x y n hn
  have s1 := er_in A n hn
  have s2 := er_nm A hA n hn
  have s3 := er_cn n hn
  have s4 := er_tx n hn
  have e2 := alike_ok A (erV_sh hx hy n) (by omega) (by omega) rfl
  have e3 := raised_ok A hA x y n hn
  have i1 : ∀ Q : T → Prop, wO (isiEO A.Cs (.ref A.C_MergeError) [.ins (erC A n) (erN n) (erV x y n), .ref A.C_MergeError]) Q = Q (.bl true) := fun Q => by simp [isiEO, isClsT, s1]
  have i2 : ∀ Q : T → Prop, wO (isiEO A.Cs (.ty "ValueError") [.ins (erC A n) (erN n) (erV x y n), .ty "ValueError"]) Q = Q (.bl true) := fun Q => by simp [isiEO, isClsT, s1]
  have i3 : ∀ Q : T → Prop, wO (cnT A.nmOf (.ins (erC A n) (erN n) (erV x y n))) Q = Q (.str (erW n)) := fun Q => by simp [cnT, s2, s3]
  have q := fun o3 o5 o6 o7 o8 => h b o3 o5 o6 o7 o8 B1
  by_cases h6 : n < 6
  · have h6' : (n : Int) < 6 := by omega
    rw [if_pos h6] at e3
    simp (config := {decide := true, implicitDefEqProofs := false}) [↓wE_eq e1, ↓wE_eq e2, ↓wE_eq e3, ↓i1, ↓i2, ↓i3, s4, h6']
    exact q _ _ _ _ _
  · have h6' : ¬ (n : Int) < 6 := by omega
    rw [if_neg h6] at e3
    simp (config := {decide := true, implicitDefEqProofs := false}) [↓wE_eq e1, ↓wE_eq e2, ↓wE_eq e3, ↓i1, ↓i2, ↓i3, s4, h6']
    exact q _ _ _ _ _
theorem law1 (hA : A.Cs.Nodup) (B : Bag bag) (h : ∀ (b : T) (o2 o3 o5 o6 o7 o8 : Option T), Bag b → D.nx [o0, some b, o2, o3, o4, o5, o6, o7, o8, o9, o10, o11, o12, o13]) :
    wS ((sFor (iOpt rg1O (aCons (cst (.int 7)) (aNil))) (gNm 2) (sSeq (sSet 3 (eLc [4] (iOpt rg1O (aCons (cst (.int 2)) (aNil))) (gNm 4) (tYesF) (VS.cal1 (f__law_some A) 1 (aCons (opL lstF (aCons (cst (.int 0)) (aCons (cst (.int 7)) (aCons (cst (.str "x")) (aCons (cst .non) (aCons (opL tupF (aCons (cst (.str "line")) (aCons (cst (.int 3)) (aNil)))) (aNil))))))) (aNil))))) (sSeq (sAsg (VS.cal0 (f__law_error A) (aCons (rd 2) (aCons (rd 3) (aNil)))) (gTu (gCo (gNm 5) (gCo (gNm 6) (gCo (gNm 7) (gCo (gNm 8) (gNl))))) 4)) (sSeq (sIf (orT (notT (tst isBl (opL (isiEO A.Cs (.ref A.C_MergeError)) (aCons (rd 5) (aCons (cst (.ref A.C_MergeError)) (aNil)))))) (orT (notT (tst isBl (opL (isiEO A.Cs (.ty "ValueError")) (aCons (rd 5) (aCons (cst (.ty "ValueError")) (aNil)))))) (notT (tst isBl (VS.cal0 (f__law_alike A) (aCons (rd 6) (aCons (rd 7) (aNil)))))))) (sRet (cst (.bl false))) (sNil)) (sIf (orT (tst isBl (op2 neT (op1 (cnT A.nmOf) (rd 5)) (rd 8))) (tst isBl (op2 neT (VS.cal0 (f__law_raised A) (aCons (rd 2) (aCons (rd 3) (aNil)))) (VS.ife (tst isBl (op2 ltT (rd 2) (cst (.int 6)))) (rd 8) (cst (.str "Nothing")))))) (sRet (cst (.bl false))) (sNil)))))) [o0, some bag, o2, o3, o4, o5, o6, o7, o8, o9, o10, o11, o12, o13]) D := by
  have r7 : rg1O [.int 7] = some (rgL 0 7) := rg1_nat (n := 7) (by omega)
  rw [r_sFor, r_iOpt, r_aCons, r_cst, r_aNil, wO_eq r7]
  refine wS_forL (fun k e => ∃ (b : T) (o2 o3 o5 o6 o7 o8 : Option T), e = [o0, some b, o2, o3, o4, o5, o6, o7, o8, o9, o10, o11, o12, o13] ∧ Bag b) _ 0 _ ⟨bag, o2, o3, o5, o6, o7, o8, rfl, B⟩ ?_ ?_
  · rintro k x e hx ⟨b, o2, o3, o5, o6, o7, o8, rfl, B1⟩
    have hk : k < 7 := by
      have := (List.getElem?_eq_some_iff.mp hx).1
      simpa [rgL] using this
    have ex : x = .int (k : Nat) := by
      simp [rgL, hk] at hx
      rw [← hx]
    subst ex
    rw [r_tgB, r_gNm, r_wP2]
    exact law1b A hA B1 hk fun b o3 o5 o6 o7 o8 B2 => ⟨b, _, o3, o5, o6, o7, o8, rfl, B2⟩
  · rintro e ⟨b, o2, o3, o5, o6, o7, o8, rfl, B1⟩
    exact h b o2 o3 o5 o6 o7 o8 B1
end
end K64
-- K64rj
set_option Elab.async false
set_option linter.all false
set_option maxRecDepth 100000
set_option maxHeartbeats 8000000
/-! K64rj: the law's texts. -/
namespace K64
open PySem L2 VS
theorem cut_lo {s : Str} {j : Nat} (hj : j ≤ s.length) : cutS s none (some (j : Int)) = sub (sig s) 0 j := by
  unfold cutS sub
  rw [HT.sIx_nat, HT.sIx_none, Nat.min_eq_left hj]
theorem cut_hi {s : Str} {j : Nat} (hj : j ≤ s.length) : cutS s (some (j : Int)) none = sub (sig s) j s.length := by
  unfold cutS sub
  rw [HT.sIx_nat, HT.sIx_none, Nat.min_eq_left hj]
def pieces : List Str := ["", " ", "\n", "(", "-", "07", "99", "100", "A", "aaaaaaaaa", "0a", "?", "9 9", "\t", "x1"]
theorem pieces_tx : pieces.all (fun z => decide (z.length ≤ 9) && Asc z) = true := by decide +kernel
theorem mul9 : mulST (.str "a") (.int 9) = some (.str "aaaaaaaaa") := by kernel_rfl
section
variable (A : Ad) {bag : T} {D : VS.Fin} {o0 o2 o3 o4 o5 o6 o7 o8 o9 o10 o11 o12 o13 : Option T}
theorem insE (B : Bag bag) {s : Str} {m : Nat} (hs : Tx s m) (hm : m ≤ 5000) (h : ∀ (b : T) (s : Str) (o11 : Option T), Bag b → Tx s (m + 9) → D.nx [o0, some b, o2, o3, o4, o5, o6, o7, o8, some (.str s), o10, o11, o12, o13]) :
    wS ((sSeq (sSet 11 (VS.cal1 (f__law_take A) 1 (aCons (op2 addT (opL lenO (aCons (rd 9) (aNil))) (cst (.int 1))) (aNil)))) (sSet 9 (op2 addT (op2 addT (slE (rd 9) oNone (oSome (rd 11))) (VS.cal1 (f__law_some A) 1 (aCons (opL lstF (aCons (cst (.str "")) (aCons (cst (.str " ")) (aCons (cst (.str "\n")) (aCons (cst (.str "(")) (aCons (cst (.str "-")) (aCons (cst (.str "07")) (aCons (cst (.str "99")) (aCons (cst (.str "100")) (aCons (cst (.str "A")) (aCons (op2 mulST (cst (.str "a")) (cst (.int 9))) (aCons (cst (.str "0a")) (aCons (cst (.str "?")) (aCons (cst (.str "9 9")) (aCons (cst (.str "\t")) (aCons (cst (.str "x1")) (aNil))))))))))))))))) (aNil)))) (slE (rd 9) (oSome (rd 11)) oNone)))) [o0, some bag, o2, o3, o4, o5, o6, o7, o8, some (.str s), o10, o11, o12, o13]) D := by
  have hS := hSz
  have hl := hs.len
  have hsl := sig_len s
  obtain ⟨d, b1, e1, h0, h1, B1⟩ := take_ok A B (many := (s.length : Int) + 1) (by omega) (by omega)
  obtain ⟨j, rfl⟩ := Int.eq_ofNat_of_zero_le h0
  obtain ⟨x, b2, e2, hx, B2⟩ := some_ok A B1 (xs := pieces.map .str) (by simp [pieces]) (by simp [pieces])
  obtain ⟨z, hz, rfl⟩ := List.mem_map.mp hx
  have pz := List.all_eq_true.mp pieces_tx z hz
  simp only [Bool.and_eq_true, decide_eq_true_eq] at pz
  have c1 := cut_lo (s := s) (j := j) (by omega)
  have c2 := cut_hi (s := s) (j := j) (by omega)
  have l1 : (sub (sig s) 0 j).length = j := by rw [sub_len (by omega)]; omega
  have l2 : (sub (sig s) j s.length).length = s.length - j := by rw [sub_len (by omega)]
  have a1 := sub_asc (i := 0) (E := j) hs.asc
  have a2 := sub_asc (i := j) (E := s.length) hs.asc
  have q := h b2 (sub (sig s) 0 j ++ z ++ sub (sig s) j s.length) (some (.int j)) B2 ⟨by simp only [Str.length_append, l1, l2]; omega, asc_app (asc_app a1 pz.2) a2⟩
  simp only [pieces, List.map] at e2
  simp (config := {decide := true, implicitDefEqProofs := false}) [↓wE_eq e1, ↓wE_eq e2, ↓wO_eq mul9, c1, c2, PySem.Str.length_append, l1, l2]
  refine ⟨by omega, by omega, by omega, by omega, q⟩
theorem insL (B : Bag bag) {s : Str} (hs : Tx s 3200) (h : ∀ (b : T) (s : Str) (o10 o11 : Option T), Bag b → Tx s 3218 → D.nx [o0, some b, o2, o3, o4, o5, o6, o7, o8, some (.str s), o10, o11, o12, o13]) :
    wS ((sFor (iOpt rg1O (aCons (VS.cal1 (f__law_take A) 1 (aCons (cst (.int 3)) (aNil))) (aNil))) (gNm 10) (sSeq (sSet 11 (VS.cal1 (f__law_take A) 1 (aCons (op2 addT (opL lenO (aCons (rd 9) (aNil))) (cst (.int 1))) (aNil)))) (sSet 9 (op2 addT (op2 addT (slE (rd 9) oNone (oSome (rd 11))) (VS.cal1 (f__law_some A) 1 (aCons (opL lstF (aCons (cst (.str "")) (aCons (cst (.str " ")) (aCons (cst (.str "\n")) (aCons (cst (.str "(")) (aCons (cst (.str "-")) (aCons (cst (.str "07")) (aCons (cst (.str "99")) (aCons (cst (.str "100")) (aCons (cst (.str "A")) (aCons (op2 mulST (cst (.str "a")) (cst (.int 9))) (aCons (cst (.str "0a")) (aCons (cst (.str "?")) (aCons (cst (.str "9 9")) (aCons (cst (.str "\t")) (aCons (cst (.str "x1")) (aNil))))))))))))))))) (aNil)))) (slE (rd 9) (oSome (rd 11)) oNone))))) [o0, some bag, o2, o3, o4, o5, o6, o7, o8, some (.str s), o10, o11, o12, o13]) D := by
  obtain ⟨d, b1, e1, h0, h1, B1⟩ := take_ok A B (many := 3) (by omega) (by omega)
  obtain ⟨n, rfl⟩ := Int.eq_ofNat_of_zero_le h0
  have r7 : rg1O [.int (n : Int)] = some (rgL 0 n) := rg1_nat (n := n) (by omega)
  rw [r_sFor]
  simp (config := {decide := true, implicitDefEqProofs := false}) only [↓r_iOpt, ↓r_aCons, ↓r_cal1, ↓r_wI1, ↓r_cst, ↓r_aNil, ↓wE_eq e1, List.headD_cons, ↓r_wP1, ↓wO_eq r7]
  refine wS_forL (fun k e => ∃ (b : T) (s : Str) (o10 o11 : Option T), e = [o0, some b, o2, o3, o4, o5, o6, o7, o8, some (.str s), o10, o11, o12, o13] ∧ Bag b ∧ Tx s (3200 + 9 * k)) _ 0 _ ⟨b1, s, o10, o11, rfl, B1, hs⟩ ?_ ?_
  · rintro k x e hx ⟨b, s, o10, o11, rfl, B1, hs⟩
    have hk : k < n := by
      have := (List.getElem?_eq_some_iff.mp hx).1
      simpa [rgL] using this
    rw [r_tgB, r_gNm, r_wP10]
    exact insE A B1 hs (by omega) fun b s o11 B2 hs2 => ⟨b, s, _, o11, rfl, B2, hs2.mono (by omega)⟩
  · rintro e ⟨b, s, o10, o11, rfl, B1, hs⟩
    have hlen : (rgL 0 n).length = n := by simp [rgL]
    rw [hlen] at hs
    exact h b s o10 o11 B1 (hs.mono (by omega))
theorem law2b (B : Bag bag) (h : ∀ (b : T) (o9 o10 o11 : Option T), Bag b → D.nx [o0, some b, o2, o3, o4, o5, o6, o7, o8, o9, o10, o11, o12, o13]) :
    wS ((sSeq (sSet 9 (VS.cal0 (f__law_plan_text A) (aCons (VS.cal1 (f__law_drawn_plan A) 1 (aNil)) (aNil)))) (sSeq (sFor (iOpt rg1O (aCons (VS.cal1 (f__law_take A) 1 (aCons (cst (.int 3)) (aNil))) (aNil))) (gNm 10) (sSeq (sSet 11 (VS.cal1 (f__law_take A) 1 (aCons (op2 addT (opL lenO (aCons (rd 9) (aNil))) (cst (.int 1))) (aNil)))) (sSet 9 (op2 addT (op2 addT (slE (rd 9) oNone (oSome (rd 11))) (VS.cal1 (f__law_some A) 1 (aCons (opL lstF (aCons (cst (.str "")) (aCons (cst (.str " ")) (aCons (cst (.str "\n")) (aCons (cst (.str "(")) (aCons (cst (.str "-")) (aCons (cst (.str "07")) (aCons (cst (.str "99")) (aCons (cst (.str "100")) (aCons (cst (.str "A")) (aCons (op2 mulST (cst (.str "a")) (cst (.int 9))) (aCons (cst (.str "0a")) (aCons (cst (.str "?")) (aCons (cst (.str "9 9")) (aCons (cst (.str "\t")) (aCons (cst (.str "x1")) (aNil))))))))))))))))) (aNil)))) (slE (rd 9) (oSome (rd 11)) oNone))))) (sIf (notT (tst isBl (VS.cal0 (f__law_alike A) (aCons (VS.cal0 (f_tokens A) (aCons (rd 9) (aNil))) (aCons (opL tupleO (aCons (VS.cal0 (f__law_runs A) (aCons (rd 9) (aNil))) (aNil))) (aNil)))))) (sRet (cst (.bl false))) (sNil)))) [o0, some bag, o2, o3, o4, o5, o6, o7, o8, o9, o10, o11, o12, o13]) D := by
  have hS := hSz
  obtain ⟨p, b1, e1, B1, hp⟩ := drawn_ok A B
  obtain ⟨s, e2, hs⟩ := plan_text_ok A p (by have := hp.d; omega) (by have := hp.t; omega) (by have := hp.c; omega) hp.n hp.m
  rw [r_sSeq]
  simp (config := {decide := true, implicitDefEqProofs := false}) only [↓r_sSet, ↓r_cal0, ↓r_aCons, ↓r_cal1, ↓r_wI1, ↓r_aNil, ↓wE_eq e1, List.headD_cons, ↓r_wP1, ↓wE_eq e2, ↓r_wP9]
  rw [r_sSeq]
  refine insL A B1 (hs.mono (by have := hp.c; omega)) fun b s o10 o11 B2 hs2 => ?_
  have hl := hs2.len
  have e3 := tokens_ok A s (by omega) hs2.asc
  have e4 := runs_ok A s (by omega) hs2.asc
  have e5 := alike_ok A (toks_sh (s := s) (by omega)) (by omega) (by omega) rfl
  have q := h b (some (.str s)) o10 o11 B2
  simp (config := {decide := true, implicitDefEqProofs := false}) [↓wE_eq e3, ↓wE_eq e4, ↓wE_eq e5]
  exact q
theorem law2 (B : Bag bag) (h : ∀ (b : T) (o4 o9 o10 o11 : Option T), Bag b → D.nx [o0, some b, o2, o3, o4, o5, o6, o7, o8, o9, o10, o11, o12, o13]) :
    wS ((sFor (iOpt rg1O (aCons (cst (.int 8)) (aNil))) (gNm 4) (sSeq (sSet 9 (VS.cal0 (f__law_plan_text A) (aCons (VS.cal1 (f__law_drawn_plan A) 1 (aNil)) (aNil)))) (sSeq (sFor (iOpt rg1O (aCons (VS.cal1 (f__law_take A) 1 (aCons (cst (.int 3)) (aNil))) (aNil))) (gNm 10) (sSeq (sSet 11 (VS.cal1 (f__law_take A) 1 (aCons (op2 addT (opL lenO (aCons (rd 9) (aNil))) (cst (.int 1))) (aNil)))) (sSet 9 (op2 addT (op2 addT (slE (rd 9) oNone (oSome (rd 11))) (VS.cal1 (f__law_some A) 1 (aCons (opL lstF (aCons (cst (.str "")) (aCons (cst (.str " ")) (aCons (cst (.str "\n")) (aCons (cst (.str "(")) (aCons (cst (.str "-")) (aCons (cst (.str "07")) (aCons (cst (.str "99")) (aCons (cst (.str "100")) (aCons (cst (.str "A")) (aCons (op2 mulST (cst (.str "a")) (cst (.int 9))) (aCons (cst (.str "0a")) (aCons (cst (.str "?")) (aCons (cst (.str "9 9")) (aCons (cst (.str "\t")) (aCons (cst (.str "x1")) (aNil))))))))))))))))) (aNil)))) (slE (rd 9) (oSome (rd 11)) oNone))))) (sIf (notT (tst isBl (VS.cal0 (f__law_alike A) (aCons (VS.cal0 (f_tokens A) (aCons (rd 9) (aNil))) (aCons (opL tupleO (aCons (VS.cal0 (f__law_runs A) (aCons (rd 9) (aNil))) (aNil))) (aNil)))))) (sRet (cst (.bl false))) (sNil))))) [o0, some bag, o2, o3, o4, o5, o6, o7, o8, o9, o10, o11, o12, o13]) D := by
  have r7 : rg1O [.int 8] = some (rgL 0 8) := rg1_nat (n := 8) (by omega)
  rw [r_sFor, r_iOpt, r_aCons, r_cst, r_aNil, wO_eq r7]
  refine wS_forL (fun k e => ∃ (b : T) (o4 o9 o10 o11 : Option T), e = [o0, some b, o2, o3, o4, o5, o6, o7, o8, o9, o10, o11, o12, o13] ∧ Bag b) _ 0 _ ⟨bag, o4, o9, o10, o11, rfl, B⟩ ?_ ?_
  · rintro k x e hx ⟨b, o4, o9, o10, o11, rfl, B1⟩
    rw [r_tgB, r_gNm, r_wP4]
    exact law2b A B1 fun b o9 o10 o11 B2 => ⟨b, _, o9, o10, o11, rfl, B2⟩
  · rintro e ⟨b, o4, o9, o10, o11, rfl, B1⟩
    exact h b o4 o9 o10 o11 B1
end
end K64
-- K64rk
set_option Elab.async false
set_option linter.all false
set_option maxRecDepth 100000
set_option maxHeartbeats 8000000
/-! K64rk: the law's odd things, the text of too many signs; the law. -/
namespace K64
open PySem L2 VS
section
variable (A : Ad) {bag : T} {D : VS.Fin} {o0 o1 o2 o3 o4 o5 o6 o7 o8 o9 o10 o11 o12 o13 : Option T}
theorem odd_ok {x : T} (h : x = .non ∨ x = .int 7 ∨ x = .lst [.str "a"]) : f_tokens A [x] = .exc ⟨A.C_Nothing, [], []⟩ [none] := by
  rcases h with rfl | rfl | rfl <;> rfl
theorem law3b {x : T} (hx : x = .non ∨ x = .int 7 ∨ x = .lst [.str "a"]) (h : D.ct [o0, o1, o2, o3, o4, o5, o6, o7, o8, o9, o10, o11, some x, o13]) : wS ((sTryO (mtIn A.M_Nothing) (sSeq (sEx (VS.cal0 (f_tokens A) (aCons (rd 12) (aNil)))) (sRet (cst (.bl false)))) (fun x => sCnt)) [o0, o1, o2, o3, o4, o5, o6, o7, o8, o9, o10, o11, some x, o13]) D := by
  refine wS_tryO (x := ⟨A.C_Nothing, [], []⟩) (env' := [o0, o1, o2, o3, o4, o5, o6, o7, o8, o9, o10, o11, some x, o13]) ?_ (by simp [mtIn, Ad.M_Nothing]) ?_
  · have e := odd_ok A hx
    simp (config := {decide := true, implicitDefEqProofs := false}) [e, Out.bindS]
  · exact h
theorem law3 (h : ∀ o12, D.nx [o0, o1, o2, o3, o4, o5, o6, o7, o8, o9, o10, o11, o12, o13]) : wS ((sFor (iSeq (opL tupF (aCons (cst .non) (aCons (cst (.int 7)) (aCons (opL lstF (aCons (cst (.str "a")) (aNil))) (aNil)))))) (gNm 12) (sTryO (mtIn A.M_Nothing) (sSeq (sEx (VS.cal0 (f_tokens A) (aCons (rd 12) (aNil)))) (sRet (cst (.bl false)))) (fun x => sCnt))) [o0, o1, o2, o3, o4, o5, o6, o7, o8, o9, o10, o11, o12, o13]) D := by
  rw [r_sFor]
  generalize hb : (sTryO (mtIn A.M_Nothing) (sSeq (sEx (VS.cal0 (f_tokens A) (aCons (rd 12) (aNil)))) (sRet (cst (.bl false)))) (fun x => sCnt)) = TB
  simp (config := {decide := true, implicitDefEqProofs := false})
  subst hb
  refine law3b A (.inl rfl) ?_
  simp (config := {decide := true, implicitDefEqProofs := false})
  refine law3b A (.inr (.inl rfl)) ?_
  simp (config := {decide := true, implicitDefEqProofs := false})
  refine law3b A (.inr (.inr rfl)) ?_
  simp (config := {decide := true, implicitDefEqProofs := false})
  exact h _
/-- blanks alone -/
@[irreducible] def blanks (n : Nat) : Str := ⟨(List.replicate n (Str.ofString " ").cps).foldl (· ++ ·) #[]⟩
theorem blanks_sig (n : Nat) : sig (blanks n) = List.replicate n 32 := by
  have h : ∀ (n : Nat) (acc : Array Nat), ((List.replicate n (Str.ofString " ").cps).foldl (· ++ ·) acc).toList = acc.toList ++ List.replicate n 32 := by
    intro n
    induction n with
    | zero => intro acc; simp
    | succ n ih =>
      intro acc
      rw [List.replicate_succ, List.foldl_cons, ih]
      have e : (Str.ofString " ").cps.toList = [32] := by decide +kernel
      simp [e, List.replicate_succ]
  have := h n #[]
  simpa [blanks, sig] using this
theorem blanks_len (n : Nat) : (blanks n).length = n := by rw [← sig_len, blanks_sig, List.length_replicate]
theorem mul_blanks {n : Nat} {i : Int} (h : n ≤ 7000) (hi : i = (n : Int)) : mulST (.str " ") (.int i) = some (.str (blanks n)) := by
  subst hi
  have hS := hSz
  have hl : (Str.ofString " ").length = 1 := rfl
  simp only [mulST, hl]
  rw [if_pos (by omega)]
  unfold blanks
  rfl
theorem big_ok : f_tokens A [.str (blanks 6001)] = .exc ⟨A.C_TooLarge, ["what", "limit"], [.str "signs", .int 6000]⟩ [none] := by
  have hS := hSz
  have hl := blanks_len 6001
  have hz : (blanks 6001).length ≤ sizeLine := by omega
  generalize blanks 6001 = s at *
  unfold f_tokens defF
  simp (config := {decide := true, implicitDefEqProofs := false}) [isiO, tyName, isiB, hl, hz, G_MOST_SIGNS, sRaiseE, hS]
def lastT : T := .tup [.tup [.str "end", .str "", .int 1, .int 6001]]
theorem hscan_ok : fT_scanned A [.str (blanks 6000)] = .ok lastT [none] := by
  have hS := hSz
  have hl := blanks_len 6000
  have hc : ∀ j, j < 6000 → (sig (blanks 6000))[j]? = some 32 := fun j hj => by rw [blanks_sig, List.getElem?_replicate, if_pos hj]
  generalize blanks 6000 = s at *
  refine wE_out ?_
  unfold fT_scanned
  refine runF rfl rfl ?_
  simp (config := {decide := true, implicitDefEqProofs := false})
  refine wS_whL (fun m e => ∃ (i : Nat) (o5 o6 o7 : Option T), e = [some (.str s), some (.lst []), some (.int i), some (.int 1), some (.int 0), o5, o6, o7] ∧ i ≤ 6000 ∧ m = 6000 - i) ?_ 6000 20000 _ (by omega) ⟨0, none, none, none, rfl, by omega, by omega⟩
  rintro m e ⟨i, o5, o6, o7, rfl, hi, rfl⟩
  by_cases h : i < 6000
  · have ix := wO_eq (ixS (hc i h) (by omega : s.length ≤ sizeLine))
    have oc : PyData.strOk (ch 32) = true := by decide +kernel
    have e32 := ch_lit (c := 32) l32
    rw [decide_eq_true rfl] at e32
    have h' : (i : Int) < 6000 := by omega
    simp (config := {decide := true, implicitDefEqProofs := false}) [↓ix, hl, oc, e32, h']
    exact ⟨6000 - (i + 1), by omega, i + 1, by simp, by omega, rfl⟩
  · have : i = 6000 := by omega
    subst this
    simp (config := {decide := true, implicitDefEqProofs := false}) [hl, lastT]
theorem htokens_ok : fT_tokens A [.str (blanks 6000)] = .ok lastT [none] := by
  have hS := hSz
  have hl := blanks_len 6000
  have e := hscan_ok A
  generalize blanks 6000 = s at *
  refine wE_out ?_
  unfold fT_tokens
  refine runF rfl rfl ?_
  simp (config := {decide := true, implicitDefEqProofs := false}) [G_MOST_SIGNS, hl, ↓wE_eq e]
theorem last_sh : Sh 2 1000 lastT := (Sh.tup (k := 1) (n := 300) (.cons ((Sh.tup (k := 0) (n := 50) (.cons (.str (n := 3) ⟨by decide +kernel, by decide +kernel⟩ (by omega)) (.cons (.str (n := 0) ⟨by decide +kernel, by decide +kernel⟩ (by omega)) (.cons (.int (by omega) (by omega) (by omega)) (.cons (.int (by omega) (by omega) (by omega)) .nil))))).mono (by omega) (by simp)) .nil)).mono (by omega) (by simp)
theorem halike_ok {k n : Nat} {t : T} (h : Sh k n t) (hk : k ≤ 64) (hn : n ≤ 16000000) (hr : isRefT t = true) : fT__law_alike A [t, t] = .ok (.bl true) [none, none] := by
  obtain ⟨r, e, ho⟩ := repr_sh h hk hn hr
  have e2 := eqT_self (h.dd hk)
  refine wE_out ?_
  unfold fT__law_alike
  refine runF rfl rfl ?_
  simp (config := {decide := true, implicitDefEqProofs := false}) [↓wO_eq e, ↓wO_eq e2, ho]
end
end K64
-- K64rl
set_option Elab.async false
set_option linter.all false
set_option maxRecDepth 100000
set_option maxHeartbeats 400000
/-! K64rl: the law. -/
namespace K64
open PySem L2 VS
section
variable (A : Ad) {bag : T} {D : VS.Fin} {o0 o1 o2 o3 o4 o5 o6 o7 o8 o9 o10 o11 o12 o13 : Option T}
theorem law4 (h : D.rt (.bl true) [o0, o1, o2, o3, o4, o5, o6, o7, o8, o9, o10, o11, o12, none]) : wS ((sTryAs 13 (mtIn A.M_TooLarge) (sSeq (sEx (VS.cal0 (f_tokens A) (aCons (op2 mulST (cst (.str " ")) (cst (.int 6001))) (aNil)))) (sRet (cst (.bl false)))) (fun x a dd => sRet (andV (op2 eqT (opL tupF (aCons (VS.xfS x 13 a dd "what") (aCons (VS.xfS x 13 a dd "limit") (aNil)))) (opL tupF (aCons (cst (.str "signs")) (aCons (cst (.int 6000)) (aNil))))) (VS.cal0 (fT__law_alike A) (aCons (VS.cal0 (fT_tokens A) (aCons (op2 mulST (cst (.str " ")) (cst (.int 6000))) (aNil))) (aCons (opL tupF (aCons (opL tupF (aCons (cst (.str "end")) (aCons (cst (.str "")) (aCons (cst (.int 1)) (aCons (cst (.int 6001)) (aNil)))))) (aNil))) (aNil))))))) [o0, o1, o2, o3, o4, o5, o6, o7, o8, o9, o10, o11, o12, none]) D := by
  have m1 : mulST (.str " ") (.int 6001) = some (.str (blanks 6001)) := mul_blanks (by omega) (by omega)
  have m2 : mulST (.str " ") (.int 6000) = some (.str (blanks 6000)) := mul_blanks (by omega) (by omega)
  have e1 := big_ok A
  have e2 := htokens_ok A
  have e3 := halike_ok A last_sh (by omega) (by omega) rfl
  generalize hF : (sSeq (sEx (VS.cal0 (f_tokens A) (aCons (op2 mulST (cst (.str " ")) (cst (.int 6001))) (aNil)))) (sRet (cst (.bl false)))) = F
  generalize hG : (fun x a dd => sRet (andV (op2 eqT (opL tupF (aCons (VS.xfS x 13 a dd "what") (aCons (VS.xfS x 13 a dd "limit") (aNil)))) (opL tupF (aCons (cst (.str "signs")) (aCons (cst (.int 6000)) (aNil))))) (VS.cal0 (fT__law_alike A) (aCons (VS.cal0 (fT_tokens A) (aCons (op2 mulST (cst (.str " ")) (cst (.int 6000))) (aNil))) (aCons (opL tupF (aCons (opL tupF (aCons (cst (.str "end")) (aCons (cst (.str "")) (aCons (cst (.int 1)) (aCons (cst (.int 6001)) (aNil)))))) (aNil))) (aNil)))))) = G
  refine wS_tryAs (x := ⟨A.C_TooLarge, ["what", "limit"], [.str "signs", .int 6000]⟩) (env' := [o0, o1, o2, o3, o4, o5, o6, o7, o8, o9, o10, o11, o12, none]) (o := .ret (.bl true) [o0, o1, o2, o3, o4, o5, o6, o7, o8, o9, o10, o11, o12, none]) ?_ (by simp [mtIn, Ad.M_TooLarge]) (by simp) (fun a d => ?_) h
  · subst hF
    generalize blanks 6001 = s at *
    simp (config := {decide := true, implicitDefEqProofs := false}) [m1, e1, Out.bindS]
  · have eq : eqT (.tup [.str "signs", .int 6000]) (.tup [.str "signs", .int 6000]) = some (.bl true) := eqT_self ((Dd.tup (k := 0) (.cons (.str (by decide +kernel)) (.cons .int .nil))).mono (by omega))
    unfold lastT at e2 e3
    subst hG
    generalize blanks 6000 = s at *
    simp (config := {decide := true, implicitDefEqProofs := false}) [xfS, xfK, xval, lk2, clr, m2, e2, e3, eq, List.lookup]
theorem law_true (hA : A.Cs.Nodup) (ns : List Int) (hl : ns.length ≤ 63) : ∃ env', f_law A [.scr ns] = .ok (.bl true) env' := by
  have key : wE (f_law A [.scr ns]) fun v _ => v = .bl true := by
    obtain ⟨b, e, B⟩ := bag_ok A ns hl
    unfold f_law
    generalize hP1 : (sFor (iOpt rg1O (aCons (cst (.int 7)) (aNil))) (gNm 2) (sSeq (sSet 3 (eLc [4] (iOpt rg1O (aCons (cst (.int 2)) (aNil))) (gNm 4) (tYesF) (VS.cal1 (f__law_some A) 1 (aCons (opL lstF (aCons (cst (.int 0)) (aCons (cst (.int 7)) (aCons (cst (.str "x")) (aCons (cst .non) (aCons (opL tupF (aCons (cst (.str "line")) (aCons (cst (.int 3)) (aNil)))) (aNil))))))) (aNil))))) (sSeq (sAsg (VS.cal0 (f__law_error A) (aCons (rd 2) (aCons (rd 3) (aNil)))) (gTu (gCo (gNm 5) (gCo (gNm 6) (gCo (gNm 7) (gCo (gNm 8) (gNl))))) 4)) (sSeq (sIf (orT (notT (tst isBl (opL (isiEO A.Cs (.ref A.C_MergeError)) (aCons (rd 5) (aCons (cst (.ref A.C_MergeError)) (aNil)))))) (orT (notT (tst isBl (opL (isiEO A.Cs (.ty "ValueError")) (aCons (rd 5) (aCons (cst (.ty "ValueError")) (aNil)))))) (notT (tst isBl (VS.cal0 (f__law_alike A) (aCons (rd 6) (aCons (rd 7) (aNil)))))))) (sRet (cst (.bl false))) (sNil)) (sIf (orT (tst isBl (op2 neT (op1 (cnT A.nmOf) (rd 5)) (rd 8))) (tst isBl (op2 neT (VS.cal0 (f__law_raised A) (aCons (rd 2) (aCons (rd 3) (aNil)))) (VS.ife (tst isBl (op2 ltT (rd 2) (cst (.int 6)))) (rd 8) (cst (.str "Nothing")))))) (sRet (cst (.bl false))) (sNil)))))) = P1
    generalize hP2 : (sFor (iOpt rg1O (aCons (cst (.int 8)) (aNil))) (gNm 4) (sSeq (sSet 9 (VS.cal0 (f__law_plan_text A) (aCons (VS.cal1 (f__law_drawn_plan A) 1 (aNil)) (aNil)))) (sSeq (sFor (iOpt rg1O (aCons (VS.cal1 (f__law_take A) 1 (aCons (cst (.int 3)) (aNil))) (aNil))) (gNm 10) (sSeq (sSet 11 (VS.cal1 (f__law_take A) 1 (aCons (op2 addT (opL lenO (aCons (rd 9) (aNil))) (cst (.int 1))) (aNil)))) (sSet 9 (op2 addT (op2 addT (slE (rd 9) oNone (oSome (rd 11))) (VS.cal1 (f__law_some A) 1 (aCons (opL lstF (aCons (cst (.str "")) (aCons (cst (.str " ")) (aCons (cst (.str "\n")) (aCons (cst (.str "(")) (aCons (cst (.str "-")) (aCons (cst (.str "07")) (aCons (cst (.str "99")) (aCons (cst (.str "100")) (aCons (cst (.str "A")) (aCons (op2 mulST (cst (.str "a")) (cst (.int 9))) (aCons (cst (.str "0a")) (aCons (cst (.str "?")) (aCons (cst (.str "9 9")) (aCons (cst (.str "\t")) (aCons (cst (.str "x1")) (aNil))))))))))))))))) (aNil)))) (slE (rd 9) (oSome (rd 11)) oNone))))) (sIf (notT (tst isBl (VS.cal0 (f__law_alike A) (aCons (VS.cal0 (f_tokens A) (aCons (rd 9) (aNil))) (aCons (opL tupleO (aCons (VS.cal0 (f__law_runs A) (aCons (rd 9) (aNil))) (aNil))) (aNil)))))) (sRet (cst (.bl false))) (sNil))))) = P2
    generalize hP3 : (sFor (iSeq (opL tupF (aCons (cst .non) (aCons (cst (.int 7)) (aCons (opL lstF (aCons (cst (.str "a")) (aNil))) (aNil)))))) (gNm 12) (sTryO (mtIn A.M_Nothing) (sSeq (sEx (VS.cal0 (f_tokens A) (aCons (rd 12) (aNil)))) (sRet (cst (.bl false)))) (fun x => sCnt))) = P3
    generalize hP4 : (sTryAs 13 (mtIn A.M_TooLarge) (sSeq (sEx (VS.cal0 (f_tokens A) (aCons (op2 mulST (cst (.str " ")) (cst (.int 6001))) (aNil)))) (sRet (cst (.bl false)))) (fun x a dd => sRet (andV (op2 eqT (opL tupF (aCons (VS.xfS x 13 a dd "what") (aCons (VS.xfS x 13 a dd "limit") (aNil)))) (opL tupF (aCons (cst (.str "signs")) (aCons (cst (.int 6000)) (aNil))))) (VS.cal0 (fT__law_alike A) (aCons (VS.cal0 (fT_tokens A) (aCons (op2 mulST (cst (.str " ")) (cst (.int 6000))) (aNil))) (aCons (opL tupF (aCons (opL tupF (aCons (cst (.str "end")) (aCons (cst (.str "")) (aCons (cst (.int 1)) (aCons (cst (.int 6001)) (aNil)))))) (aNil))) (aNil))))))) = P4
    refine runF rfl rfl ?_
    simp only [List.map, List.replicate, List.cons_append, List.nil_append]
    rw [r_sSeq]
    simp (config := {decide := true, implicitDefEqProofs := false}) only [↓r_sSet, ↓r_cal0, ↓r_aCons, ↓r_rd, ↓r_wI0, ↓r_aNil, ↓wE_eq e, ↓r_wP1]
    rw [r_sSeq]
    subst hP1
    refine law1 A hA B fun b o2 o3 o5 o6 o7 o8 B1 => ?_
    dsimp only
    rw [r_sSeq]
    subst hP2
    refine law2 A B1 fun b o4 o9 o10 o11 B2 => ?_
    dsimp only
    rw [r_sSeq]
    subst hP3
    refine law3 A fun o12 => ?_
    dsimp only
    generalize hE : VS.Fin.mk _ _ _ _ = DD
    have q := @law4 A DD
    rw [hP4] at q
    refine q ?_
    subst hE
    rfl
  obtain ⟨v, e, h1, rfl⟩ := wE_ex key
  exact ⟨e, h1⟩
end
end K64
-- K64h
set_option Elab.async false
set_option linter.all false
set_option maxRecDepth 100000
open PySem PySem.W PyProof.Rows L2 VS in
set_option maxHeartbeats 0 in
theorem PySem.Challenge.cw_mergewright_k64_errors_and_tokens_holds : PySem.Challenge.rw_mergewright_k64_errors_and_tokens.Holds := by
  w_on; o_law; k_head; (case hw => w_witness2)
  k_fill
  refine VS.walkG (l := PySem.Challenge.rw_mergewright_k64_errors_and_tokens) (k := 30) (x := "script") rfl rfl (VS.roomG_caller (by decide) VS.roomH_caller) (fun w h Y => PySem.W.kIn_of Y) ?F
  case F =>
    intro w mg fa h KX G hmg0
    have hmg : mg "law" = some (.ref fa) := hmg0
    clear hmg0
    refine' Exists.elim (K64.txt_mk KX G ?n_is_name ?F_is_name ?n_end_of_run ?F_end_of_run ?n_is_figures ?F_is_figures ?n_run_token ?F_run_token ?n_token_at ?F_token_at ?n_scanned ?F_scanned ?n_tokens ?F_tokens ?n__law_bag ?F__law_bag ?n__law_take ?F__law_take ?n__law_some ?F__law_some ?n__law_alike ?F__law_alike ?n__law_test_text ?F__law_test_text ?n__law_line_rows ?F__law_line_rows ?n__law_rows_of ?F__law_rows_of ?n__law_part_text ?F__law_part_text ?n__law_term_text ?F__law_term_text ?n__law_claim_text ?F__law_claim_text ?n__law_plan_text ?F__law_plan_text ?n__law_take_one ?F__law_take_one ?n__law_not ?F__law_not ?n__law_both ?F__law_both ?n__law_rest ?F__law_rest ?n__law_three ?F__law_three ?n__law_family ?F__law_family ?n__law_drawn_term ?F__law_drawn_term ?n__law_statements ?F__law_statements ?n__law_replaced ?F__law_replaced ?n__law_turned_test ?F__law_turned_test ?n__law_bent_statement ?F__law_bent_statement ?n__law_bent ?F__law_bent ?n__law_drawn_plan ?F__law_drawn_plan ?n__law_error ?F__law_error ?n__law_raised ?F__law_raised ?n__law_runs ?F__law_runs ?n_law ?F_law ?c_LETTERS ?c_DIGITS ?c_MOST_LETTERS ?c_RESERVED ?l_RESERVED ?v_RESERVED ?z_RESERVED ?c_MOST_SIGNS ?c_MOST_FIGURES ?c_MARKS ?z_len ?z_abs ?z_all ?z_any ?z_isinstance ?z_repr ?z_sum ?z_max ?z_min ?z_int ?z_str ?z_tuple ?z_list ?z_range ?z_enumerate ?z_ValueError ?g_MergeError ?g_BadText ?g_BadKind ?g_BadLists ?g_NoCommand ?g_Nothing ?g_TooLarge ?e_MergeError ?p_MergeError ?e_BadText ?j_BadText ?s_BadText ?e_BadKind ?j_BadKind ?s_BadKind ?e_BadLists ?j_BadLists ?s_BadLists ?e_NoCommand ?j_NoCommand ?s_NoCommand ?e_Nothing ?p_Nothing ?e_TooLarge ?j_TooLarge ?s_TooLarge ?k_MergeError ?k_BadText ?k_BadKind ?k_BadLists ?k_NoCommand ?k_Nothing ?k_TooLarge ?cnC ?y_MergeError_line ?y_BadText_line ?y_BadKind_line ?y_BadLists_line ?y_NoCommand_line ?y_Nothing_line ?y_TooLarge_line ?y_MergeError_column ?y_BadText_column ?y_BadKind_column ?y_BadLists_column ?y_NoCommand_column ?y_Nothing_column ?y_TooLarge_column ?y_MergeError_where ?y_BadText_where ?y_BadKind_where ?y_BadLists_where ?y_NoCommand_where ?y_Nothing_where ?y_TooLarge_where ?y_MergeError_fault ?y_BadText_fault ?y_BadKind_fault ?y_BadLists_fault ?y_NoCommand_fault ?y_Nothing_fault ?y_TooLarge_fault ?y_MergeError_name ?y_BadText_name ?y_BadKind_name ?y_BadLists_name ?y_NoCommand_name ?y_Nothing_name ?y_TooLarge_name ?y_MergeError_what ?y_BadText_what ?y_BadKind_what ?y_BadLists_what ?y_NoCommand_what ?y_Nothing_what ?y_TooLarge_what ?y_MergeError_limit ?y_BadText_limit ?y_BadKind_limit ?y_BadLists_limit ?y_NoCommand_limit ?y_Nothing_limit ?y_TooLarge_limit ?ik_MergeError_MergeError ?ik_BadText_MergeError ?ik_BadKind_MergeError ?ik_BadLists_MergeError ?ik_NoCommand_MergeError ?ik_Nothing_MergeError ?ik_TooLarge_MergeError ?ik_MergeError_ValueError ?ik_BadText_ValueError ?ik_BadKind_ValueError ?ik_BadLists_ValueError ?ik_NoCommand_ValueError ?ik_Nothing_ValueError ?ik_TooLarge_ValueError ?mt_MergeError_MergeError ?mt_BadText_MergeError ?mt_BadKind_MergeError ?mt_BadLists_MergeError ?mt_NoCommand_MergeError ?mt_Nothing_MergeError ?mt_TooLarge_MergeError ?mt_Nothing_Nothing ?mt_TooLarge_TooLarge) ?main
    (case n_is_name => k_is)
    (case F_is_name => refine' fun_mk ?l ?c ?k; (case l => k_is); (case c => k_is); (case k => k_is))
    (case n_end_of_run => k_is)
    (case F_end_of_run => refine' fun_mk ?l ?c ?k; (case l => k_is); (case c => k_is); (case k => k_is))
    (case n_is_figures => k_is)
    (case F_is_figures => refine' fun_mk ?l ?c ?k; (case l => k_is); (case c => k_is); (case k => k_is))
    (case n_run_token => k_is)
    (case F_run_token => refine' fun_mk ?l ?c ?k; (case l => k_is); (case c => k_is); (case k => k_is))
    (case n_token_at => k_is)
    (case F_token_at => refine' fun_mk ?l ?c ?k; (case l => k_is); (case c => k_is); (case k => k_is))
    (case n_scanned => k_is)
    (case F_scanned => refine' fun_mk ?l ?c ?k; (case l => k_is); (case c => k_is); (case k => k_is))
    (case n_tokens => k_is)
    (case F_tokens => refine' fun_mk ?l ?c ?k; (case l => k_is); (case c => k_is); (case k => k_is))
    (case n__law_bag => k_is)
    (case F__law_bag => refine' fun_mk ?l ?c ?k; (case l => k_is); (case c => k_is); (case k => k_is))
    (case n__law_take => k_is)
    (case F__law_take => refine' fun_mk ?l ?c ?k; (case l => k_is); (case c => k_is); (case k => k_is))
    (case n__law_some => k_is)
    (case F__law_some => refine' fun_mk ?l ?c ?k; (case l => k_is); (case c => k_is); (case k => k_is))
    (case n__law_alike => k_is)
    (case F__law_alike => refine' fun_mk ?l ?c ?k; (case l => k_is); (case c => k_is); (case k => k_is))
    (case n__law_test_text => k_is)
    (case F__law_test_text => refine' fun_mk ?l ?c ?k; (case l => k_is); (case c => k_is); (case k => k_is))
    (case n__law_line_rows => k_is)
    (case F__law_line_rows => refine' fun_mk ?l ?c ?k; (case l => k_is); (case c => k_is); (case k => k_is))
    (case n__law_rows_of => k_is)
    (case F__law_rows_of => refine' fun_mk ?l ?c ?k; (case l => k_is); (case c => k_is); (case k => k_is))
    (case n__law_part_text => k_is)
    (case F__law_part_text => refine' fun_mk ?l ?c ?k; (case l => k_is); (case c => k_is); (case k => k_is))
    (case n__law_term_text => k_is)
    (case F__law_term_text => refine' fun_mk ?l ?c ?k; (case l => k_is); (case c => k_is); (case k => k_is))
    (case n__law_claim_text => k_is)
    (case F__law_claim_text => refine' fun_mk ?l ?c ?k; (case l => k_is); (case c => k_is); (case k => k_is))
    (case n__law_plan_text => k_is)
    (case F__law_plan_text => refine' fun_mk ?l ?c ?k; (case l => k_is); (case c => k_is); (case k => k_is))
    (case n__law_take_one => k_is)
    (case F__law_take_one => refine' fun_mk ?l ?c ?k; (case l => k_is); (case c => k_is); (case k => k_is))
    (case n__law_not => k_is)
    (case F__law_not => refine' fun_mk ?l ?c ?k; (case l => k_is); (case c => k_is); (case k => k_is))
    (case n__law_both => k_is)
    (case F__law_both => refine' fun_mk ?l ?c ?k; (case l => k_is); (case c => k_is); (case k => k_is))
    (case n__law_rest => k_is)
    (case F__law_rest => refine' fun_mk ?l ?c ?k; (case l => k_is); (case c => k_is); (case k => k_is))
    (case n__law_three => k_is)
    (case F__law_three => refine' fun_mk ?l ?c ?k; (case l => k_is); (case c => k_is); (case k => k_is))
    (case n__law_family => k_is)
    (case F__law_family => refine' fun_mk ?l ?c ?k; (case l => k_is); (case c => k_is); (case k => k_is))
    (case n__law_drawn_term => k_is)
    (case F__law_drawn_term => refine' fun_mk ?l ?c ?k; (case l => k_is); (case c => k_is); (case k => k_is))
    (case n__law_statements => k_is)
    (case F__law_statements => refine' fun_mk ?l ?c ?k; (case l => k_is); (case c => k_is); (case k => k_is))
    (case n__law_replaced => k_is)
    (case F__law_replaced => refine' fun_mk ?l ?c ?k; (case l => k_is); (case c => k_is); (case k => k_is))
    (case n__law_turned_test => k_is)
    (case F__law_turned_test => refine' fun_mk ?l ?c ?k; (case l => k_is); (case c => k_is); (case k => k_is))
    (case n__law_bent_statement => k_is)
    (case F__law_bent_statement => refine' fun_mk ?l ?c ?k; (case l => k_is); (case c => k_is); (case k => k_is))
    (case n__law_bent => k_is)
    (case F__law_bent => refine' fun_mk ?l ?c ?k; (case l => k_is); (case c => k_is); (case k => k_is))
    (case n__law_drawn_plan => k_is)
    (case F__law_drawn_plan => refine' fun_mk ?l ?c ?k; (case l => k_is); (case c => k_is); (case k => k_is))
    (case n__law_error => k_is)
    (case F__law_error => refine' fun_mk ?l ?c ?k; (case l => k_is); (case c => k_is); (case k => k_is))
    (case n__law_raised => k_is)
    (case F__law_raised => refine' fun_mk ?l ?c ?k; (case l => k_is); (case c => k_is); (case k => k_is))
    (case n__law_runs => k_is)
    (case F__law_runs => refine' fun_mk ?l ?c ?k; (case l => k_is); (case c => k_is); (case k => k_is))
    (case n_law => k_is)
    (case F_law => refine' fun_mk ?l ?c ?k; (case l => k_is); (case c => k_is); (case k => k_is))
    (case c_LETTERS => k_is)
    (case c_DIGITS => k_is)
    (case c_MOST_LETTERS => k_is)
    (case c_RESERVED => k_is)
    (case l_RESERVED => k_is)
    (case v_RESERVED => exact .cons ⟨_, rfl⟩ (.cons ⟨_, rfl⟩ (.cons ⟨_, rfl⟩ (.cons ⟨_, rfl⟩ (.cons ⟨_, rfl⟩ (.cons ⟨_, rfl⟩ (.cons ⟨_, rfl⟩ (.cons ⟨_, rfl⟩ (.cons ⟨_, rfl⟩ (.cons ⟨_, rfl⟩ (.cons ⟨_, rfl⟩ (.cons ⟨_, rfl⟩ (.cons ⟨_, rfl⟩ (.cons ⟨_, rfl⟩ (.cons ⟨_, rfl⟩ (.cons ⟨_, rfl⟩ (.cons ⟨_, rfl⟩ (.cons ⟨_, rfl⟩ (.cons ⟨_, rfl⟩ (.cons ⟨_, rfl⟩ (.cons ⟨_, rfl⟩ (.cons ⟨_, rfl⟩ (.cons ⟨_, rfl⟩ (.cons ⟨_, rfl⟩ (.cons ⟨_, rfl⟩ (.cons ⟨_, rfl⟩ (.cons ⟨_, rfl⟩ (.cons ⟨_, rfl⟩ (.nil)))))))))))))))))))))))))))))
    (case z_RESERVED => decide)
    (case c_MOST_SIGNS => k_is)
    (case c_MOST_FIGURES => k_is)
    (case c_MARKS => k_is)
    (case z_len => k_is)
    (case z_abs => k_is)
    (case z_all => k_is)
    (case z_any => k_is)
    (case z_isinstance => k_is)
    (case z_repr => k_is)
    (case z_sum => k_is)
    (case z_max => k_is)
    (case z_min => k_is)
    (case z_int => k_is)
    (case z_str => k_is)
    (case z_tuple => k_is)
    (case z_list => k_is)
    (case z_range => k_is)
    (case z_enumerate => k_is)
    (case z_ValueError => k_is)
    (case g_MergeError => k_is)
    (case g_BadText => k_is)
    (case g_BadKind => k_is)
    (case g_BadLists => k_is)
    (case g_NoCommand => k_is)
    (case g_Nothing => k_is)
    (case g_TooLarge => k_is)
    (case e_MergeError => exact { xf := ⟨by k_is, by k_is, by k_is, by k_is⟩, tyC := by k_is, ic := by k_is, ca := by k_is, sp := by k_is, tk := by k_is, ob := by k_is, op := by k_is, na := ⟨_, _, by k_is, by rfl⟩, fc := by k_is, sz := by decide })
    (case p_MergeError => exact ⟨{ cls := ⟨_, _, _, _, _, _, _, _, _, _, _, _, _, _, _, by k_is, by decide +kernel⟩, sa := by k_is, exC := by k_is, tyC := by k_is, kC := by k_is }, by first | k_is | kernel_rfl | rfl⟩)
    (case e_BadText => exact { xf := ⟨by k_is, by k_is, by k_is, by k_is⟩, tyC := by k_is, ic := by k_is, ca := by k_is, sp := by k_is, tk := by k_is, ob := by k_is, op := by k_is, na := ⟨_, _, by k_is, by rfl⟩, fc := by k_is, sz := by decide })
    (case j_BadText => k_is)
    (case s_BadText => exact { ox := { cls := ⟨_, _, _, _, _, _, _, _, _, _, _, _, _, _, _, by k_is, by decide +kernel⟩, sa := by k_is, exC := by k_is, tyC := by k_is, kC := by k_is }, fn := ⟨_, _, _, _, _, _, _, _, _, _, _, _, _, _, _, _, _, _, _, _, by k_is, by k_is, by k_is, by rfl, by decide +kernel, by k_is⟩, su := by k_is, top := by decide +kernel, sm := by k_is, op := by k_is, si := by first | k_is | kernel_rfl | rfl, ve := by k_is, iC := by k_is, tI := by k_is, hd := by rfl, ks := by rfl, kc := by rfl, kp := by decide +kernel, ncell := by decide +kernel, kind := by rfl, co := by rfl, gen := by rfl, fld := (by intro x hx; simp only [List.mem_cons, List.not_mem_nil, or_false] at hx; (rcases hx with rfl | rfl <;> k_is)) })
    (case e_BadKind => exact { xf := ⟨by k_is, by k_is, by k_is, by k_is⟩, tyC := by k_is, ic := by k_is, ca := by k_is, sp := by k_is, tk := by k_is, ob := by k_is, op := by k_is, na := ⟨_, _, by k_is, by rfl⟩, fc := by k_is, sz := by decide })
    (case j_BadKind => k_is)
    (case s_BadKind => exact { ox := { cls := ⟨_, _, _, _, _, _, _, _, _, _, _, _, _, _, _, by k_is, by decide +kernel⟩, sa := by k_is, exC := by k_is, tyC := by k_is, kC := by k_is }, fn := ⟨_, _, _, _, _, _, _, _, _, _, _, _, _, _, _, _, _, _, _, _, by k_is, by k_is, by k_is, by rfl, by decide +kernel, by k_is⟩, su := by k_is, top := by decide +kernel, sm := by k_is, op := by k_is, si := by first | k_is | kernel_rfl | rfl, ve := by k_is, iC := by k_is, tI := by k_is, hd := by rfl, ks := by rfl, kc := by rfl, kp := by decide +kernel, ncell := by decide +kernel, kind := by rfl, co := by rfl, gen := by rfl, fld := (by intro x hx; simp only [List.mem_cons, List.not_mem_nil, or_false] at hx; (rcases hx with rfl | rfl <;> k_is)) })
    (case e_BadLists => exact { xf := ⟨by k_is, by k_is, by k_is, by k_is⟩, tyC := by k_is, ic := by k_is, ca := by k_is, sp := by k_is, tk := by k_is, ob := by k_is, op := by k_is, na := ⟨_, _, by k_is, by rfl⟩, fc := by k_is, sz := by decide })
    (case j_BadLists => k_is)
    (case s_BadLists => exact { ox := { cls := ⟨_, _, _, _, _, _, _, _, _, _, _, _, _, _, _, by k_is, by decide +kernel⟩, sa := by k_is, exC := by k_is, tyC := by k_is, kC := by k_is }, fn := ⟨_, _, _, _, _, _, _, _, _, _, _, _, _, _, _, _, _, _, _, _, by k_is, by k_is, by k_is, by rfl, by decide +kernel, by k_is⟩, su := by k_is, top := by decide +kernel, sm := by k_is, op := by k_is, si := by first | k_is | kernel_rfl | rfl, ve := by k_is, iC := by k_is, tI := by k_is, hd := by rfl, ks := by rfl, kc := by rfl, kp := by decide +kernel, ncell := by decide +kernel, kind := by rfl, co := by rfl, gen := by rfl, fld := (by intro x hx; simp only [List.mem_cons, List.not_mem_nil, or_false] at hx; (rcases hx with rfl | rfl <;> k_is)) })
    (case e_NoCommand => exact { xf := ⟨by k_is, by k_is, by k_is, by k_is⟩, tyC := by k_is, ic := by k_is, ca := by k_is, sp := by k_is, tk := by k_is, ob := by k_is, op := by k_is, na := ⟨_, _, by k_is, by rfl⟩, fc := by k_is, sz := by decide })
    (case j_NoCommand => k_is)
    (case s_NoCommand => exact { ox := { cls := ⟨_, _, _, _, _, _, _, _, _, _, _, _, _, _, _, by k_is, by decide +kernel⟩, sa := by k_is, exC := by k_is, tyC := by k_is, kC := by k_is }, fn := ⟨_, _, _, _, _, _, _, _, _, _, _, _, _, _, _, _, _, _, _, _, by k_is, by k_is, by k_is, by rfl, by decide +kernel, by k_is⟩, su := by k_is, top := by decide +kernel, sm := by k_is, op := by k_is, si := by first | k_is | kernel_rfl | rfl, ve := by k_is, iC := by k_is, tI := by k_is, hd := by rfl, ks := by rfl, kc := by rfl, kp := by decide +kernel, ncell := by decide +kernel, kind := by rfl, co := by rfl, gen := by rfl, fld := (by intro x hx; simp only [List.mem_cons, List.not_mem_nil, or_false] at hx; subst hx; k_is) })
    (case e_Nothing => exact { xf := ⟨by k_is, by k_is, by k_is, by k_is⟩, tyC := by k_is, ic := by k_is, ca := by k_is, sp := by k_is, tk := by k_is, ob := by k_is, op := by k_is, na := ⟨_, _, by k_is, by rfl⟩, fc := by k_is, sz := by decide })
    (case p_Nothing => exact ⟨{ cls := ⟨_, _, _, _, _, _, _, _, _, _, _, _, _, _, _, by k_is, by decide +kernel⟩, sa := by k_is, exC := by k_is, tyC := by k_is, kC := by k_is }, by first | k_is | kernel_rfl | rfl⟩)
    (case e_TooLarge => exact { xf := ⟨by k_is, by k_is, by k_is, by k_is⟩, tyC := by k_is, ic := by k_is, ca := by k_is, sp := by k_is, tk := by k_is, ob := by k_is, op := by k_is, na := ⟨_, _, by k_is, by rfl⟩, fc := by k_is, sz := by decide })
    (case j_TooLarge => k_is)
    (case s_TooLarge => exact { ox := { cls := ⟨_, _, _, _, _, _, _, _, _, _, _, _, _, _, _, by k_is, by decide +kernel⟩, sa := by k_is, exC := by k_is, tyC := by k_is, kC := by k_is }, fn := ⟨_, _, _, _, _, _, _, _, _, _, _, _, _, _, _, _, _, _, _, _, by k_is, by k_is, by k_is, by rfl, by decide +kernel, by k_is⟩, su := by k_is, top := by decide +kernel, sm := by k_is, op := by k_is, si := by first | k_is | kernel_rfl | rfl, ve := by k_is, iC := by k_is, tI := by k_is, hd := by rfl, ks := by rfl, kc := by rfl, kp := by decide +kernel, ncell := by decide +kernel, kind := by rfl, co := by rfl, gen := by rfl, fld := (by intro x hx; simp only [List.mem_cons, List.not_mem_nil, or_false] at hx; (rcases hx with rfl | rfl <;> k_is)) })
    (case k_MergeError => k_is)
    (case k_BadText => k_is)
    (case k_BadKind => k_is)
    (case k_BadLists => k_is)
    (case k_NoCommand => k_is)
    (case k_Nothing => k_is)
    (case k_TooLarge => k_is)
    (case cnC => exact { S := K64.cnS_0, fn := ⟨_, _, _, _, _, _, _, _, _, _, by k_is, by k_is⟩, kp := by k_is, isf := by k_is })
    (case y_MergeError_line => k_is)
    (case y_BadText_line => k_is)
    (case y_BadKind_line => k_is)
    (case y_BadLists_line => k_is)
    (case y_NoCommand_line => k_is)
    (case y_Nothing_line => k_is)
    (case y_TooLarge_line => k_is)
    (case y_MergeError_column => k_is)
    (case y_BadText_column => k_is)
    (case y_BadKind_column => k_is)
    (case y_BadLists_column => k_is)
    (case y_NoCommand_column => k_is)
    (case y_Nothing_column => k_is)
    (case y_TooLarge_column => k_is)
    (case y_MergeError_where => k_is)
    (case y_BadText_where => k_is)
    (case y_BadKind_where => k_is)
    (case y_BadLists_where => k_is)
    (case y_NoCommand_where => k_is)
    (case y_Nothing_where => k_is)
    (case y_TooLarge_where => k_is)
    (case y_MergeError_fault => k_is)
    (case y_BadText_fault => k_is)
    (case y_BadKind_fault => k_is)
    (case y_BadLists_fault => k_is)
    (case y_NoCommand_fault => k_is)
    (case y_Nothing_fault => k_is)
    (case y_TooLarge_fault => k_is)
    (case y_MergeError_name => k_is)
    (case y_BadText_name => k_is)
    (case y_BadKind_name => k_is)
    (case y_BadLists_name => k_is)
    (case y_NoCommand_name => k_is)
    (case y_Nothing_name => k_is)
    (case y_TooLarge_name => k_is)
    (case y_MergeError_what => k_is)
    (case y_BadText_what => k_is)
    (case y_BadKind_what => k_is)
    (case y_BadLists_what => k_is)
    (case y_NoCommand_what => k_is)
    (case y_Nothing_what => k_is)
    (case y_TooLarge_what => k_is)
    (case y_MergeError_limit => k_is)
    (case y_BadText_limit => k_is)
    (case y_BadKind_limit => k_is)
    (case y_BadLists_limit => k_is)
    (case y_NoCommand_limit => k_is)
    (case y_Nothing_limit => k_is)
    (case y_TooLarge_limit => k_is)
    (case ik_MergeError_MergeError => first | k_is | kernel_rfl | rfl)
    (case ik_BadText_MergeError => first | k_is | kernel_rfl | rfl)
    (case ik_BadKind_MergeError => first | k_is | kernel_rfl | rfl)
    (case ik_BadLists_MergeError => first | k_is | kernel_rfl | rfl)
    (case ik_NoCommand_MergeError => first | k_is | kernel_rfl | rfl)
    (case ik_Nothing_MergeError => first | k_is | kernel_rfl | rfl)
    (case ik_TooLarge_MergeError => first | k_is | kernel_rfl | rfl)
    (case ik_MergeError_ValueError => first | k_is | kernel_rfl | rfl)
    (case ik_BadText_ValueError => first | k_is | kernel_rfl | rfl)
    (case ik_BadKind_ValueError => first | k_is | kernel_rfl | rfl)
    (case ik_BadLists_ValueError => first | k_is | kernel_rfl | rfl)
    (case ik_NoCommand_ValueError => first | k_is | kernel_rfl | rfl)
    (case ik_Nothing_ValueError => first | k_is | kernel_rfl | rfl)
    (case ik_TooLarge_ValueError => first | k_is | kernel_rfl | rfl)
    (case mt_MergeError_MergeError => first | k_is | kernel_rfl | rfl)
    (case mt_BadText_MergeError => first | k_is | kernel_rfl | rfl)
    (case mt_BadKind_MergeError => first | k_is | kernel_rfl | rfl)
    (case mt_BadLists_MergeError => first | k_is | kernel_rfl | rfl)
    (case mt_NoCommand_MergeError => first | k_is | kernel_rfl | rfl)
    (case mt_Nothing_MergeError => first | k_is | kernel_rfl | rfl)
    (case mt_TooLarge_MergeError => first | k_is | kernel_rfl | rfl)
    (case mt_Nothing_Nothing => first | k_is | kernel_rfl | rfl)
    (case mt_TooLarge_TooLarge => first | k_is | kernel_rfl | rfl)
    case main =>
      rintro A ⟨T, ha, bi⟩
      have e := ha.symm.trans hmg
      cases e
      exact ⟨A.fd_law, K64.f_law A, bi, fun base _ _ => K64.ok_law T, fun ns hl => K64.law_true A T.nd ns hl⟩
