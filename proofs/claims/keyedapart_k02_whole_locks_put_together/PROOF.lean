import PyProof.Rows.All
import Wide.All
import OpenK.AllK
import Wide.FinOn
import HandS.ForMost
import HandS.ForSpec
import HandS.Defaults
import HandS.Head2
import HandS.HeadEnd
import HandS.HeadHook1
import HandS.HeadHook2
import HandS.Walk
import HandS.ExcIs
import HandS.Flow
import HandS.TupLe
import HandS.TupAny
import HandS.TupMul
import HandS.Deep
import HandS.Style
import HandS.Wide
import HandS.ExcOwn
import HandS.WordsExc
import HandS.HeadHook4
import HandS.Zip
import HandS.Conv
import HandS.SetFor
import HandS.Strs
import HandS.SortInts
import HandS.IsInst
import PyProof.ReprRoads
import PyProof.CallFns
import OpenK.KMore
import HandS.EndBits
import PySem.Challenge.RW_keyedapart_k02_whole_locks_put_together
/-! # ML1 -/
set_option Elab.async false
set_option linter.all false
set_option maxRecDepth 100000
namespace ML
open PySem PySem.Spec PyProof.Rows L2
abbrev Slots := L2.St

/-! ## heaps with cells hidden -/
open Classical in
noncomputable def wo (H : Hp) (O : Addr → Prop) : Hp := fun b => if O b then none else H b
section
variable {H H' : Hp} {O O' : Addr → Prop} {a b : Addr} {o : HO}
theorem wo_iff : wo H O b = some o ↔ ¬ O b ∧ H b = some o := by
  unfold wo
  by_cases h : O b
  · rw [if_pos h]; exact ⟨(fun z => nomatch z), fun z => absurd h z.1⟩
  · rw [if_neg h]; exact ⟨fun z => ⟨h, z⟩, fun z => z.2⟩
theorem wo_same (hs : Same H H') (ho : ∀ b o, H b = some o → O' b → O b) : Same (wo H O) (wo H' O') := fun b o e => by
  obtain ⟨h1, h2⟩ := wo_iff.mp e
  exact wo_iff.mpr ⟨fun z => h1 (ho b o h2 z), hs b o h2⟩
theorem wo_low : Same (wo H O) H := fun b o e => (wo_iff.mp e).2
end
/-- what is not owned ahead stays, and is not owned behind -/
def Keep (H : Hp) (O : Addr → Prop) (H' : Hp) (O' : Addr → Prop) : Prop := ∀ b o, H b = some o → ¬ O b → H' b = some o ∧ ¬ O' b
theorem Keep.refl {H : Hp} {O : Addr → Prop} : Keep H O H O := fun _ _ h n => ⟨h, n⟩
theorem Keep.trans {H1 H2 H3 : Hp} {O1 O2 O3 : Addr → Prop} (h : Keep H1 O1 H2 O2) (k : Keep H2 O2 H3 O3) : Keep H1 O1 H3 O3 := fun b o e n =>
  let ⟨e2, n2⟩ := h b o e n
  k b o e2 n2
theorem Keep.less {H H' : Hp} {O O' O2 : Addr → Prop} (h : Keep H O H' O') (s : ∀ b, O2 b → O' b) : Keep H O H' O2 := fun b o e n =>
  let ⟨e2, n2⟩ := h b o e n
  ⟨e2, fun z => n2 (s b z)⟩
theorem Keep.same {H H' : Hp} {O : Addr → Prop} (h : Same H H') : Keep H O H' O := fun b o e n => ⟨h b o e, n⟩
theorem Keep.wo {H H' : Hp} {O O' hid hid' : Addr → Prop} (h : Keep H O H' O') (s : ∀ b o, H b = some o → ¬ O b → hid' b → hid b) : Same (wo H fun b => O b ∨ hid b) (wo H' fun b => O' b ∨ hid' b) := fun b o e => by
  obtain ⟨h1, h2⟩ := wo_iff.mp e
  obtain ⟨e2, n2⟩ := h b o h2 fun z => h1 (.inl z)
  exact wo_iff.mpr ⟨fun z => z.elim n2 fun z => h1 (.inr (s b o h2 (fun z => h1 (.inl z)) z)), e2⟩

/-! ## data in a heap -/
section
variable {K : PySem.W.Frag} {H H' : Hp} {a : Addr} {xs : List V}
theorem seqT_mono (h : Same H H') (q : SqT K H a xs) : SqT K H' a xs := by
  rcases q with (q | ⟨o, q⟩) | q
  · exact .inl (.inl (h _ _ q))
  · exact .inl (.inr ⟨o, h _ _ q⟩)
  · exact .inr q
end
mutual
inductive DV (K : PySem.W.Frag) (H : Hp) : V → PyData → Prop
  | non : DV K H .non .none
  | bl (b : Bool) : DV K H (.bl b) (.bool b)
  | int (i : Int) : DV K H (.int i) (.int i)
  | str (x : Str) : DV K H (.str x) (.str x)
  | lst {a : Addr} {xs : List V} {ds : List PyData} : H a = some (.lst xs) → DVs K H xs ds → DV K H (.ref a) (.list ds)
  | tup {a : Addr} {xs : List V} {ds : List PyData} : SqT K H a xs → DVs K H xs ds → DV K H (.ref a) (.tuple ds)
  | dic {a : Addr} : H a = some (.dK []) → DV K H (.ref a) (.dict [])
inductive DVs (K : PySem.W.Frag) (H : Hp) : List V → List PyData → Prop
  | nil : DVs K H [] []
  | cons {v : V} {vs : List V} {d : PyData} {ds : List PyData} : DV K H v d → DVs K H vs ds → DVs K H (v :: vs) (d :: ds)
end
section
variable {K : PySem.W.Frag} {H H' : Hp}
mutual
theorem DV.mono (h : Same H H') : ∀ {v : V} {d : PyData}, DV K H v d → DV K H' v d
  | _, _, .non => .non
  | _, _, .bl b => .bl b
  | _, _, .int i => .int i
  | _, _, .str x => .str x
  | _, _, .lst q r => .lst (h _ _ q) (DVs.mono h r)
  | _, _, .tup q r => .tup (seqT_mono h q) (DVs.mono h r)
  | _, _, .dic q => .dic (h _ _ q)
theorem DVs.mono (h : Same H H') : ∀ {vs : List V} {ds : List PyData}, DVs K H vs ds → DVs K H' vs ds
  | _, _, .nil => .nil
  | _, _, .cons q r => .cons (DV.mono h q) (DVs.mono h r)
end
theorem DVs.len : ∀ {vs : List V} {ds : List PyData}, DVs K H vs ds → vs.length = ds.length
  | _, _, .nil => rfl
  | _, _, .cons _ r => congrArg (· + 1) (DVs.len r)
theorem DVs.get : ∀ {vs : List V} {ds : List PyData} {i : Nat} {v : V}, DVs K H vs ds → vs[i]? = some v → ∃ d, ds[i]? = some d ∧ DV K H v d
  | _, _, _, _, .nil, e => by simp at e
  | _, _, 0, _, .cons q _, e => by simp at e; subst e; exact ⟨_, rfl, q⟩
  | _, _, i + 1, _, .cons _ r, e => by
    obtain ⟨d, h1, h2⟩ := DVs.get (i := i) r (by simpa using e)
    exact ⟨d, by simpa using h1, h2⟩
theorem DVs.getD : ∀ {vs : List V} {ds : List PyData} {i : Nat} {d : PyData}, DVs K H vs ds → ds[i]? = some d → ∃ v, vs[i]? = some v ∧ DV K H v d
  | _, _, _, _, .nil, e => by simp at e
  | _, _, 0, _, .cons q _, e => by simp at e; subst e; exact ⟨_, rfl, q⟩
  | _, _, i + 1, _, .cons _ r, e => by
    obtain ⟨d, h1, h2⟩ := DVs.getD (i := i) r (by simpa using e)
    exact ⟨d, by simpa using h1, h2⟩
theorem DVs.append : ∀ {vs ws : List V} {ds es : List PyData}, DVs K H vs ds → DVs K H ws es → DVs K H (vs ++ ws) (ds ++ es)
  | _, _, _, _, .nil, s => s
  | _, _, _, _, .cons q r, s => .cons q (DVs.append r s)
theorem DVs.take : ∀ {vs : List V} {ds : List PyData} (n : Nat), DVs K H vs ds → DVs K H (vs.take n) (ds.take n)
  | _, _, 0, _ => .nil
  | _, _, _ + 1, .nil => .nil
  | _, _, n + 1, .cons q r => .cons q (DVs.take n r)
theorem DVs.drop : ∀ {vs : List V} {ds : List PyData} (n : Nat), DVs K H vs ds → DVs K H (vs.drop n) (ds.drop n)
  | _, _, 0, r => r
  | _, _, _ + 1, .nil => .nil
  | _, _, n + 1, .cons _ r => DVs.drop n r
theorem DVs.set {v : V} {d : PyData} (q : DV K H v d) : ∀ {vs : List V} {ds : List PyData} (i : Nat), DVs K H vs ds → DVs K H (vs.set i v) (ds.set i d)
  | _, _, _, .nil => .nil
  | _, _, 0, .cons _ r => .cons q r
  | _, _, i + 1, .cons p r => .cons p (DVs.set q i r)
theorem DVs.erase : ∀ {vs : List V} {ds : List PyData} (i : Nat), DVs K H vs ds → DVs K H (vs.eraseIdx i) (ds.eraseIdx i)
  | _, _, _, .nil => .nil
  | _, _, 0, .cons _ r => r
  | _, _, i + 1, .cons p r => .cons p (DVs.erase i r)
theorem DVs.reverse {vs : List V} {ds : List PyData} (h : DVs K H vs ds) : DVs K H vs.reverse ds.reverse := by
  induction vs generalizing ds with
  | nil => cases h; exact .nil
  | cons v vs ih =>
    cases h with
    | cons q r =>
      rw [List.reverse_cons, List.reverse_cons]
      exact (ih r).append (.cons q .nil)
theorem DVs.rep {vs : List V} {ds : List PyData} (h : DVs K H vs ds) : ∀ k : Nat, DVs K H (List.replicate k vs).flatten (List.replicate k ds).flatten
  | 0 => .nil
  | k + 1 => by
    rw [List.replicate_succ, List.replicate_succ, List.flatten_cons, List.flatten_cons]
    exact h.append (DVs.rep h k)
end

section
variable {X : Cx} {pins : List (Addr × Obj)} {σ : Slots} {H : Hp} {s : Shared}
mutual
theorem DV.reads (I : Inv X pins σ H s) : ∀ (d : PyData) (v : V) (u : Value), DV X.K H v d → RelV v u → ∃ as, Reads s.heap u d as
  | .none, _, _, h, r => by cases h; cases r; exact ⟨_, Reads.none⟩
  | .bool b, _, _, h, r => by cases h; cases r; exact ⟨_, Reads.bool b⟩
  | .int i, _, _, h, r => by cases h; obtain ⟨t, rfl⟩ := r; exact ⟨_, Reads.int i t⟩
  | .str x, _, _, h, r => by cases h; obtain ⟨t, rfl⟩ := r; exact ⟨_, Reads.str x t⟩
  | .list ds, _, _, h, r => by
    cases h with
    | lst hs hr =>
      cases r
      obtain ⟨its, rv, ⟨o, n, ho, hc, _, hd⟩, _⟩ := I.list (SqL.of hs)
      obtain ⟨as, q⟩ := DVs.reads I ds _ its hr rv
      exact ⟨_, Reads.list ho hc hd q⟩
  | .tuple ds, _, _, h, r => by
    cases h with
    | tup hs hr =>
      cases r
      obtain ⟨its, rv, ⟨o, ho, hc, n, hd⟩, _⟩ := I.tuple hs
      obtain ⟨as, q⟩ := DVs.reads I ds _ its hr rv
      exact ⟨_, Reads.tuple ho hc hd q⟩
  | .dict kvs, _, _, h, r => by
    cases h with
    | dic e =>
      cases r
      obtain ⟨_, _, vs, rk, o, es, ep, ho, hx, hd, _, he, _⟩ := I.hok _ _ e
      cases rk
      have e0 : es.toList = [] := by
        cases q : es.toList with
        | nil => rfl
        | cons y ys =>
          rw [q] at he
          exact nomatch he
      exact ⟨_, Reads.dict (as := []) (bs := []) ho hx.1 hd (by rw [e0]; exact .nil) (by rw [e0]; exact .nil)⟩
theorem DVs.reads (I : Inv X pins σ H s) : ∀ (ds : List PyData) (vs : List V) (us : List Value), DVs X.K H vs ds → Vals vs us → ∃ as, ReadsAll s.heap us ds as
  | [], _, _, h, r => by cases h; cases r; exact ⟨_, ReadsAll.nil⟩
  | d :: ds, _, _, h, r => by
    cases h with
    | cons h1 h2 =>
      cases r with
      | cons r1 r2 =>
        obtain ⟨as, q1⟩ := DV.reads I d _ _ h1 r1
        obtain ⟨bs, q2⟩ := DVs.reads I ds _ _ h2 r2
        exact ⟨_, ReadsAll.cons q1 q2⟩
end
end

/-! ## what a slot holds -/
/-- a slot's content: data (nobody changes it any more), a list of its own, an exception, the script -/
inductive B where
  | val (d : PyData)
  | lst (ds : List PyData)
  | exc (c : Str) (fs : List (Str × PyData))
  | scr (ns : List Int)
abbrev Env' := List (Option B)
def B.own : B → Bool
  | .lst _ => true
  | _ => false
def B.fz : B → Option PyData
  | .val d => some d
  | .lst ds => some (.list ds)
  | .exc _ _ => none
  | .scr _ => none

/-- an exception object of the class C, its fields in the dict at d -/
def ExcO (a : Addr) (C : Addr) (d : Option Addr) : HO := .ext fun h => ∃ oe vs, h.get? a = some oe ∧ Zc (.ref C) d oe ∧ oe.data = .fields vs
inductive FldOk (K : PySem.W.Frag) (H : Hp) : List (Str × V) → List (Str × PyData) → Prop
  | nil : FldOk K H [] []
  | cons {f : Str} {v : V} {d : PyData} {r : List (Str × V)} {r' : List (Str × PyData)} : DV K H v d → FldOk K H r r' → FldOk K H ((f, v) :: r) ((f, d) :: r')
/-- the exception's dict -/
def DctOk (K : PySem.W.Frag) (H : Hp) (d : Option Addr) (fs : List (Str × PyData)) : Prop :=
  (fs = [] ∧ d = none) ∨ ∃ dd ks, d = some dd ∧ fs ≠ [] ∧ H dd = some (.xd ks) ∧ FldOk K H ks fs
def OwnB (K : PySem.W.Frag) (Hf H : Hp) (v : V) (b : B) (P : Addr → Prop) : Prop := match b with
  | .val d => DV K Hf v d
  | .lst ds => ∃ a vs, v = .ref a ∧ P a ∧ H a = some (.lst vs) ∧ DVs K Hf vs ds
  | .exc c fs => ∃ a d, v = .ref a ∧ Hf a = some (ExcO a (He.ga K c) d) ∧ DctOk K Hf d fs
  | .scr ns => ∃ a, v = .ref a ∧ SqL K Hf a (ns.map V.int)
section
variable {K : PySem.W.Frag} {H H' Hf Hf' : Hp}
theorem FldOk.mono (h : Same H H') : ∀ {ks : List (Str × V)} {fs : List (Str × PyData)}, FldOk K H ks fs → FldOk K H' ks fs
  | _, _, .nil => .nil
  | _, _, .cons q r => .cons (q.mono h) (FldOk.mono h r)
theorem DctOk.mono (h : Same H H') {d : Option Addr} {fs : List (Str × PyData)} (q : DctOk K H d fs) : DctOk K H' d fs := by
  rcases q with q | ⟨dd, ks, e, n, hk, r⟩
  · exact .inl q
  · exact .inr ⟨dd, ks, e, n, h _ _ hk, r.mono h⟩
theorem OwnB.mono {v : V} {b : B} {P : Addr → Prop} (hf : Same Hf Hf') (hp : ∀ a o, P a → H a = some o → H' a = some o) (q : OwnB K Hf H v b P) : OwnB K Hf' H' v b P := by
  cases b with
  | val d => exact DV.mono hf q
  | lst ds =>
    obtain ⟨a, vs, e, p, h, r⟩ := q
    exact ⟨a, vs, e, p, hp _ _ p h, r.mono hf⟩
  | exc c fs =>
    obtain ⟨a, d, e, h, r⟩ := q
    exact ⟨a, d, e, hf _ _ h, r.mono hf⟩
  | scr ns =>
    obtain ⟨a, e, h⟩ := q
    exact ⟨a, e, hf.seq h⟩
theorem OwnB.sub {v : V} {b : B} {P P' : Addr → Prop} (hp : ∀ a, P a → P' a) (q : OwnB K Hf H v b P) : OwnB K Hf H v b P' := by
  cases b with
  | val d => exact q
  | lst ds =>
    obtain ⟨a, vs, e, p, h, r⟩ := q
    exact ⟨a, vs, e, hp a p, h, r⟩
  | exc c fs => exact q
  | scr ns => exact q
/-- frozen: it is data where its own cells are seen -/
theorem OwnB.froz {v : V} {b : B} {d : PyData} {P : Addr → Prop} (e : b.fz = some d) (hf : Same Hf Hf') (hp : ∀ a o, P a → H a = some o → Hf' a = some o) (q : OwnB K Hf H v b P) : DV K Hf' v d := by
  cases b with
  | val d' =>
    cases e
    exact DV.mono hf q
  | lst ds =>
    cases e
    obtain ⟨a, vs, rfl, p, h, r⟩ := q
    exact .lst (hp _ _ p h) (r.mono hf)
  | exc c fs => cases e
  | scr ns => cases e
end

/-! ## a state: slots, their contents, what each owns, what is hidden besides -/
abbrev Ow := Nat → Addr → Prop
def UF (F : Ow) : Addr → Prop := fun a => ∃ i, F i a
def Un2 (F : Ow) (hid : Addr → Prop) : Addr → Prop := fun a => UF F a ∨ hid a
structure SOk (K : PySem.W.Frag) (H : Hp) (σ : Slots) (ρ : Env') (F : Ow) (hid : Addr → Prop) : Prop where
  dom : ∀ a, Un2 F hid a → ∃ o, H a = some o
  apart : ∀ i j a, F i a → F j a → i = j
  hidden : ∀ i a, F i a → ¬ hid a
  len : ρ.length = σ.length
  at_ : ∀ i b, ρ[i]? = some (some b) → ∃ v, σ[i]? = some (some v) ∧ OwnB K (wo H (Un2 F hid)) H v b (F i)
section
variable {K : PySem.W.Frag} {H H' : Hp} {σ : Slots} {ρ ρ' : Env'} {F F' : Ow} {hid hid' : Addr → Prop}
/-- new objects have come -/
theorem SOk.grow (s : SOk K H σ ρ F hid) (h : Same H H') : SOk K H' σ ρ F hid where
  dom := fun a z => let ⟨o, e⟩ := s.dom a z; ⟨o, h a o e⟩
  apart := s.apart
  hidden := s.hidden
  len := s.len
  at_ := fun i b e => by
    obtain ⟨v, e1, q⟩ := s.at_ i b e
    exact ⟨v, e1, q.mono (wo_same h fun _ _ _ z => z) fun a o _ e => h a o e⟩
/-- something hidden comes to light -/
theorem SOk.drop (s : SOk K H σ ρ F hid) (h : ∀ a, hid' a → hid a) : SOk K H σ ρ F hid' where
  dom := fun a z => s.dom a (z.imp (fun z => z) (h a))
  apart := s.apart
  hidden := fun i a f z => s.hidden i a f (h a z)
  len := s.len
  at_ := fun i b e => by
    obtain ⟨v, e1, q⟩ := s.at_ i b e
    exact ⟨v, e1, q.mono (wo_same (fun _ _ e => e) fun a _ _ z => z.imp (fun z => z) (h a)) fun a o _ e => e⟩
/-- something new is hidden -/
theorem SOk.hide (s : SOk K H σ ρ F hid) (h : Same H H') (hn : ∀ a, hid' a → ¬ hid a → H a = none) (hd : ∀ a, hid' a → ∃ o, H' a = some o) (hs : ∀ a, hid a → hid' a) : SOk K H' σ ρ F hid' where
  dom := fun a z => z.elim (fun z => let ⟨o, e⟩ := s.dom a (.inl z); ⟨o, h a o e⟩) (hd a)
  apart := s.apart
  hidden := fun i a f z => by
    by_cases q : hid a
    · exact s.hidden i a f q
    · obtain ⟨o, e⟩ := s.dom a (.inl ⟨i, f⟩)
      rw [hn a z q] at e
      cases e
  len := s.len
  at_ := fun i b e => by
    obtain ⟨v, e1, q⟩ := s.at_ i b e
    refine ⟨v, e1, q.mono (wo_same h fun a o e z => z.imp (fun z => z) fun z => ?_) fun a o _ e => h a o e⟩
    by_cases q : hid a
    · exact q
    · rw [hn a z q] at e
      cases e
/-- what stays of a value that is data -/
theorem stay {O' : Addr → Prop} {v : V} {d : PyData} (k : Keep H (UF F) H' O') (hs : ∀ a o, H a = some o → ¬ UF F a → hid' a → hid a) (q : DV K (wo H (Un2 F hid)) v d) : DV K (wo H' fun a => O' a ∨ hid' a) v d := q.mono (k.wo hs)
theorem stays {O' : Addr → Prop} {v : List V} {d : List PyData} (k : Keep H (UF F) H' O') (hs : ∀ a o, H a = some o → ¬ UF F a → hid' a → hid a) (q : DVs K (wo H (Un2 F hid)) v d) : DVs K (wo H' fun a => O' a ∨ hid' a) v d := q.mono (k.wo hs)
end

/-! ## results -/
inductive Res (α : Type) where
  | ok (a : α) (ρ : Env')
  | exc (c : Str) (fs : List (Str × PyData)) (ρ : Env')
  | bad
def Res.bind {α β : Type} (r : Res α) (k : α → Env' → Res β) : Res β := match r with
  | .ok a ρ => k a ρ
  | .exc c fs ρ => .exc c fs ρ
  | .bad => .bad
@[simp] theorem Res.bind_ok {α β : Type} (a : α) (ρ : Env') (k : α → Env' → Res β) : (Res.ok a ρ).bind k = k a ρ := rfl
@[simp] theorem Res.bind_exc {α β : Type} (c : Str) (fs) (ρ : Env') (k : α → Env' → Res β) : (Res.exc c fs ρ).bind k = .exc c fs ρ := rfl
@[simp] theorem Res.bind_bad {α β : Type} (k : α → Env' → Res β) : (Res.bad).bind k = .bad := rfl
/-- of an option: none is no meaning -/
def Res.of {α : Type} (o : Option α) (ρ : Env') : Res α := match o with
  | some a => .ok a ρ
  | none => .bad
@[simp] theorem Res.of_some {α : Type} (a : α) (ρ : Env') : Res.of (some a) ρ = .ok a ρ := rfl
@[simp] theorem Res.of_none {α : Type} (ρ : Env') : Res.of (none : Option α) ρ = .bad := rfl
/-- the wish of exceptions -/
def okE (K : PySem.W.Frag) (W : WX) (σ : Slots) (H : Hp) (F : Ow) (hid : Addr → Prop) (c : Str) (fs : List (Str × PyData)) (ρ' : Env') : Prop :=
  ∀ d H' F', Keep H (UF F) H' (UF F') → SOk K H' σ ρ' F' hid → DctOk K (wo H' (Un2 F' hid)) d fs → W (.ref (He.ga K c)) d σ H'
def REnd {α : Type} (K : PySem.W.Frag) (W : WX) (σ : Slots) (H : Hp) (F : Ow) (hid : Addr → Prop) (P : α → Env' → Prop) : Res α → Prop
  | .ok a ρ' => P a ρ'
  | .exc c fs ρ' => okE K W σ H F hid c fs ρ'
  | .bad => False
def okB (K : PySem.W.Frag) (σ : Slots) (H : Hp) (F : Ow) (hid : Addr → Prop) (Q : VK) (b : B) (ρ' : Env') : Prop :=
  ∀ v H' F' (fp : Addr → Prop), Keep H (UF F) H' (fun a => UF F' a ∨ fp a) → SOk K H' σ ρ' F' (fun a => hid a ∨ fp a) → OwnB K (wo H' (Un2 F' fun a => hid a ∨ fp a)) H' v b fp → Q v H'
def okD (K : PySem.W.Frag) (σ : Slots) (H : Hp) (F : Ow) (hid : Addr → Prop) (Q : VK) (d : PyData) (ρ' : Env') : Prop :=
  ∀ v H' F', Keep H (UF F) H' (UF F') → SOk K H' σ ρ' F' hid → DV K (wo H' (Un2 F' hid)) v d → Q v H'
def okT (K : PySem.W.Frag) (σ : Slots) (H : Hp) (F : Ow) (hid : Addr → Prop) (Q : Bool → Hp → Prop) (b : Bool) (ρ' : Env') : Prop :=
  ∀ H' F', Keep H (UF F) H' (UF F') → SOk K H' σ ρ' F' hid → Q b H'
def okA (K : PySem.W.Frag) (σ : Slots) (H : Hp) (F : Ow) (hid : Addr → Prop) (Q : List V → Hp → Prop) (ds : List PyData) (ρ' : Env') : Prop :=
  ∀ vs H' F', Keep H (UF F) H' (UF F') → SOk K H' σ ρ' F' hid → DVs K (wo H' (Un2 F' hid)) vs ds → Q vs H'
abbrev Mn (α : Type) := Env' → Res α
def tM (K : PySem.W.Frag) (W : WX) (m : Mn B) : TE := fun σ H Q => ∃ ρ F hid, SOk K H σ ρ F hid ∧ REnd K W σ H F hid (okB K σ H F hid Q) (m ρ)
def tD (K : PySem.W.Frag) (W : WX) (m : Mn PyData) : TE := fun σ H Q => ∃ ρ F hid, SOk K H σ ρ F hid ∧ REnd K W σ H F hid (okD K σ H F hid Q) (m ρ)
def tT (K : PySem.W.Frag) (W : WX) (m : Mn Bool) : TT := fun σ H Q => ∃ ρ F hid, SOk K H σ ρ F hid ∧ REnd K W σ H F hid (okT K σ H F hid Q) (m ρ)
def tA (K : PySem.W.Frag) (W : WX) (m : Mn (List PyData)) : TA := fun σ H Q => ∃ ρ F hid, SOk K H σ ρ F hid ∧ REnd K W σ H F hid (okA K σ H F hid Q) (m ρ)

theorem PE.wk {X : Cx} {e : Expr} {t t' : TE} (h : PE X e t) (w : ∀ σ H Q, t' σ H Q → t σ H Q) : PE X e t' := ⟨fun pins s σ H Q I q => h.run pins s σ H Q I (w σ H Q q)⟩
theorem PT.wk {X : Cx} {e : Expr} {t t' : TT} (h : PT X e t) (w : ∀ σ H Q, t' σ H Q → t σ H Q) : PT X e t' := ⟨fun pins s σ H Q I q => h.run pins s σ H Q I (w σ H Q q)⟩
theorem PA.wk {X : Cx} {e : List Expr} {t t' : TA} (h : PA X e t) (w : ∀ σ H Q, t' σ H Q → t σ H Q) : PA X e t' := ⟨fun pos pins s σ H Q I q => h.run pos pins s σ H Q I (w σ H Q q)⟩
theorem PS.wk {X : Cx} {e : Stmt} {t t' : TS} (h : PS X e t) (w : ∀ D σ H, t' D σ H → t D σ H) : PS X e t' := ⟨fun pins s σ H D I q => h.run pins s σ H D I (w D σ H q)⟩
theorem PSs.wk {X : Cx} {e : List Stmt} {t t' : TS} (h : PSs X e t) (w : ∀ D σ H, t' D σ H → t D σ H) : PSs X e t' := ⟨fun pins s σ H D I q => h.run pins s σ H D I (w D σ H q)⟩

section
variable {K : PySem.W.Frag} {W : WX} {σ : Slots} {H H1 : Hp} {F F1 : Ow} {hid : Addr → Prop} {α β : Type}
/-- behind a first part the wish of a second -/
theorem okE.after (k : Keep H (UF F) H1 (UF F1)) {c fs ρ'} (h : okE K W σ H F hid c fs ρ') : okE K W σ H1 F1 hid c fs ρ' := fun d H' F' k' s' q => h d H' F' (k.trans k') s' q
theorem REnd.mono {P P' : α → Env' → Prop} {r : Res α} (k : Keep H (UF F) H1 (UF F1)) (hP : ∀ a ρ', P a ρ' → P' a ρ') (h : REnd K W σ H F hid P r) : REnd K W σ H1 F1 hid P' r := by
  cases r with
  | ok a ρ' => exact hP a ρ' h
  | exc c fs ρ' => exact okE.after (K := K) (W := W) (σ := σ) k h
  | bad => exact h
theorem REnd.bind {P : β → Env' → Prop} {r : Res α} {k : α → Env' → Res β} (h : REnd K W σ H F hid P (r.bind k)) : REnd K W σ H F hid (fun a ρ1 => REnd K W σ H F hid P (k a ρ1)) r := by
  cases r with
  | ok a ρ' => exact h
  | exc c fs ρ' => exact h
  | bad => exact h
theorem okB.after (k : Keep H (UF F) H1 (UF F1)) {Q b ρ'} (h : okB K σ H F hid Q b ρ') : okB K σ H1 F1 hid Q b ρ' := fun v H' F' fp k' s' q => h v H' F' fp (k.trans k') s' q
theorem okD.after (k : Keep H (UF F) H1 (UF F1)) {Q b ρ'} (h : okD K σ H F hid Q b ρ') : okD K σ H1 F1 hid Q b ρ' := fun v H' F' k' s' q => h v H' F' (k.trans k') s' q
theorem okT.after (k : Keep H (UF F) H1 (UF F1)) {Q b ρ'} (h : okT K σ H F hid Q b ρ') : okT K σ H1 F1 hid Q b ρ' := fun H' F' k' s' => h H' F' (k.trans k') s'
theorem okA.after (k : Keep H (UF F) H1 (UF F1)) {Q b ρ'} (h : okA K σ H F hid Q b ρ') : okA K σ H1 F1 hid Q b ρ' := fun v H' F' k' s' q => h v H' F' (k.trans k') s' q
end

/-- a content as data -/
def asD (m : Mn B) : Mn PyData := fun ρ => (m ρ).bind fun b ρ' => Res.of b.fz ρ'
section
variable {K : PySem.W.Frag} {W : WX} {σ : Slots} {H : Hp}
theorem asD_of {m : Mn B} {Q : VK} (h : tD K W (asD m) σ H Q) : tM K W m σ H Q := by
  obtain ⟨ρ, F, hid, s, h⟩ := h
  refine ⟨ρ, F, hid, s, ?_⟩
  have h' := REnd.bind h
  refine REnd.mono Keep.refl (fun b ρ' q => ?_) h'
  intro v H' F' fp k s' o
  cases e : b.fz with
  | none =>
    rw [e] at q
    exact q.elim
  | some d =>
    rw [e] at q
    have q' : okD K σ H F hid Q d ρ' := q
    refine q' v H' F' (k.less fun _ z => .inl z) (s'.drop fun _ z => .inl z) ?_
    refine o.froz e (wo_same (fun _ _ e => e) fun a _ _ z => z.imp (fun z => z) fun z => .inl z) fun a o p e => wo_iff.mpr ⟨fun z => ?_, e⟩
    rcases z with ⟨i, z⟩ | z
    · exact s'.hidden i a z (.inr p)
    · obtain ⟨o2, e2⟩ := s.dom a (.inr z)
      exact (k a o2 e2 fun ⟨i, f⟩ => s.hidden i a f z).2 (.inr p)
end
end ML
/-! # ML2 -/
set_option Elab.async false
set_option linter.all false
set_option maxRecDepth 100000
namespace ML
open PySem PySem.Spec PyProof.Rows L2

/-! ## values by rules -/
/-- what a rule's continuation takes: an answer b, new where it owns something -/
def Ret (K : PySem.W.Frag) (H : Hp) (O : Addr → Prop) (Q : VK) (b : B) : Prop :=
  ∀ v H' (fp : Addr → Prop), Same H H' → (∀ a, fp a → H a = none ∧ ∃ o, H' a = some o) → OwnB K (wo H' fun a => O a ∨ fp a) H' v b fp → Q v H'
def Dom (H : Hp) (O : Addr → Prop) : Prop := ∀ a, O a → ∃ o, H a = some o
section
variable {K : PySem.W.Frag} {H H' : Hp} {O : Addr → Prop} {Q : VK} {v : V} {d : PyData} {ds : List PyData} {vs : List V} {p : Addr}
theorem wo_none : Same (wo H O) (wo H fun a => O a ∨ False) := wo_same (fun _ _ e => e) fun _ _ _ z => z.elim (fun z => z) False.elim
theorem Ret.here (r : Ret K H O Q (.val d)) (q : DV K (wo H O) v d) : Q v H := r v H (fun _ => False) (fun _ _ e => e) (fun _ z => z.elim) (DV.mono wo_none q)
theorem same_upd {o : HO} (hp : H p = none) : Same H (upd H p o) := fun b u e => by rw [upd_ne (ne_of_none e hp)]; exact e
theorem Ret.tup (dm : Dom H O) (r : Ret K H O Q (.val (.tuple ds))) (q : DVs K (wo H O) vs ds) (hp : H p = none) : Q (.ref p) (upd H p (.tup vs)) := by
  refine r (.ref p) _ (fun _ => False) (same_upd hp) (fun _ z => z.elim) ?_
  have sm : Same (wo H O) (wo (upd H p (.tup vs)) fun a => O a ∨ False) := wo_same (same_upd hp) fun _ _ _ z => z.elim (fun z => z) False.elim
  refine DV.tup (SqT.of (wo_iff.mpr ⟨fun z => ?_, upd_same⟩)) (q.mono sm)
  rcases z with z | z
  · obtain ⟨o, e⟩ := dm p z
    rw [hp] at e; cases e
  · exact z
theorem Ret.lst (dm : Dom H O) (r : Ret K H O Q (.lst ds)) (q : DVs K (wo H O) vs ds) (hp : H p = none) : Q (.ref p) (upd H p (.lst vs)) := by
  refine r (.ref p) _ (fun a => a = p) (same_upd hp) (fun a z => by subst z; exact ⟨hp, _, upd_same⟩) ⟨p, vs, rfl, rfl, upd_same, ?_⟩
  exact q.mono (wo_same (same_upd hp) fun b o e z => z.elim (fun z => z) fun z => by subst z; rw [hp] at e; cases e)
end
section
variable {K : PySem.W.Frag} {W : WX} {σ : Slots} {H : Hp} {F : Ow} {hid : Addr → Prop} {Q : VK} {b : B} {ρ : Env'}
theorem un_or {F : Ow} {hid fp : Addr → Prop} {H : Hp} : Same (wo H fun a => Un2 F hid a ∨ fp a) (wo H (Un2 F fun a => hid a ∨ fp a)) :=
  wo_same (fun _ _ e => e) fun _ _ _ z => z.elim (fun z => .inl (.inl z)) fun z => z.elim (fun z => .inl (.inr z)) .inr
/-- from a state and what is wanted of an answer: the rule's continuation -/
theorem okB.ret (s : SOk K H σ ρ F hid) (h : okB K σ H F hid Q b ρ) : Ret K H (Un2 F hid) Q b := fun v H' fp sm nw o => by
  refine h v H' F fp (fun a o e n => ⟨sm a o e, fun z => z.elim n fun z => ?_⟩) ?_ (o.mono un_or fun _ _ _ e => e)
  · rw [(nw a z).1] at e; cases e
  · refine s.hide sm (fun a z n => ?_) (fun a z => ?_) fun a z => .inl z
    · exact z.elim (fun z => absurd z n) fun z => (nw a z).1
    · exact z.elim (fun z => let ⟨o, e⟩ := s.dom a (.inr z); ⟨o, sm a o e⟩) fun z => (nw a z).2
theorem SOk.domU (s : SOk K H σ ρ F hid) : Dom H (Un2 F hid) := s.dom
/-- an answer that is data, where it stands -/
theorem okB.val {v : V} {d : PyData} (s : SOk K H σ ρ F hid) (h : okB K σ H F hid Q (.val d) ρ) (q : DV K (wo H (Un2 F hid)) v d) : Q v H := (okB.ret s h).here q
end

/-! ## two data, one answer -/
abbrev G2 := PyData → PyData → Option B
def m2 (g : G2) (ma mb : Mn PyData) : Mn B := fun ρ => (ma ρ).bind fun d ρ1 => (mb ρ1).bind fun e ρ2 => Res.of (g d e) ρ2
def Rule2 (K : PySem.W.Frag) (r : R2) (g : G2) : Prop := ∀ H O x y d e b Q, Dom H O → DV K (wo H O) x d → DV K (wo H O) y e → g d e = some b → Ret K H O Q b → r x y H Q
section
variable {K : PySem.W.Frag} {W : WX} {σ : Slots} {H : Hp} {Q : VK} {ma mb : Mn PyData}
theorem op2 {r : R2} {g : G2} (hr : Rule2 K r g) (h : tM K W (m2 g ma mb) σ H Q) : tOp r (tD K W ma) (tD K W mb) σ H Q := by
  obtain ⟨ρ, F, hid, s, h⟩ := h
  refine ⟨ρ, F, hid, s, REnd.mono Keep.refl (fun d ρ1 q v H1 F1 k1 s1 q1 => ?_) (REnd.bind h)⟩
  refine ⟨ρ1, F1, hid, s1, REnd.mono k1 (fun e ρ2 q' w H2 F2 k2 s2 q2 => ?_) (REnd.bind q)⟩
  cases eg : g d e with
  | none => rw [eg] at q'; exact q'.elim
  | some b =>
    rw [eg] at q'
    have q3 : okB K σ H F hid Q b ρ2 := q'
    have k12 : Keep H (UF F) H2 (UF F2) := k1.trans k2
    have v2 : DV K (wo H2 (Un2 F2 hid)) v d := q1.mono (k2.wo fun _ _ _ _ z => z)
    exact hr H2 _ v w d e b Q s2.domU v2 q2 eg (okB.ret s2 (q3.after k12))
end
/-! ## one datum -/
abbrev G1 := PyData → Option B
def m1 (g : G1) (ma : Mn PyData) : Mn B := fun ρ => (ma ρ).bind fun d ρ1 => Res.of (g d) ρ1
def Rule1 (K : PySem.W.Frag) (r : V → Hp → VK → Prop) (g : G1) : Prop := ∀ H O x d b Q, Dom H O → DV K (wo H O) x d → g d = some b → Ret K H O Q b → r x H Q
section
variable {K : PySem.W.Frag} {W : WX} {σ : Slots} {H : Hp} {Q : VK} {ma : Mn PyData}
theorem op1 {r : V → Hp → VK → Prop} {g : G1} (hr : Rule1 K r g) (h : tM K W (m1 g ma) σ H Q) : tUn r (tD K W ma) σ H Q := by
  obtain ⟨ρ, F, hid, s, h⟩ := h
  refine ⟨ρ, F, hid, s, REnd.mono Keep.refl (fun d ρ1 q v H1 F1 k1 s1 q1 => ?_) (REnd.bind h)⟩
  cases eg : g d with
  | none => rw [eg] at q; exact q.elim
  | some b =>
    rw [eg] at q
    have q3 : okB K σ H F hid Q b ρ1 := q
    exact hr H1 _ v d b Q s1.domU q1 eg (okB.ret s1 (q3.after k1))
end
/-! ## a list of data -/
abbrev GA := List PyData → Option B
def mA (g : GA) (ma : Mn (List PyData)) : Mn B := fun ρ => (ma ρ).bind fun ds ρ1 => Res.of (g ds) ρ1
def RuleA (K : PySem.W.Frag) (r : List V → Hp → VK → Prop) (g : GA) : Prop := ∀ H O xs ds b Q, Dom H O → DVs K (wo H O) xs ds → g ds = some b → Ret K H O Q b → r xs H Q
section
variable {K : PySem.W.Frag} {W : WX} {σ : Slots} {H : Hp} {Q : VK} {ma : Mn (List PyData)}
theorem opA {r : List V → Hp → VK → Prop} {g : GA} (hr : RuleA K r g) (h : tM K W (mA g ma) σ H Q) : tCB r (tA K W ma) σ H Q := by
  obtain ⟨ρ, F, hid, s, h⟩ := h
  refine ⟨ρ, F, hid, s, REnd.mono Keep.refl (fun d ρ1 q v H1 F1 k1 s1 q1 => ?_) (REnd.bind h)⟩
  cases eg : g d with
  | none => rw [eg] at q; exact q.elim
  | some b =>
    rw [eg] at q
    have q3 : okB K σ H F hid Q b ρ1 := q
    exact hr H1 _ v d b Q s1.domU q1 eg (okB.ret s1 (q3.after k1))
/-- arguments from the left -/
def mNil : Mn (List PyData) := fun ρ => .ok [] ρ
def mCons (ma : Mn PyData) (mb : Mn (List PyData)) : Mn (List PyData) := fun ρ => (ma ρ).bind fun d ρ1 => (mb ρ1).bind fun ds ρ2 => .ok (d :: ds) ρ2
variable {QA : List V → Hp → Prop} {m1 : Mn PyData}
theorem aNil (h : tA K W mNil σ H QA) : tNil σ H QA := by
  obtain ⟨ρ, F, hid, s, h⟩ := h
  exact h [] H F Keep.refl s .nil
theorem aCons (h : tA K W (mCons m1 ma) σ H QA) : tCons (tD K W m1) (tA K W ma) σ H QA := by
  obtain ⟨ρ, F, hid, s, h⟩ := h
  refine ⟨ρ, F, hid, s, REnd.mono Keep.refl (fun d ρ1 q v H1 F1 k1 s1 q1 => ?_) (REnd.bind h)⟩
  refine ⟨ρ1, F1, hid, s1, REnd.mono k1 (fun ds ρ2 q' vs H2 F2 k2 s2 q2 => ?_) (REnd.bind q)⟩
  have q3 : okA K σ H F hid QA (d :: ds) ρ2 := q'
  exact q3 (v :: vs) H2 F2 (k1.trans k2) s2 (.cons (q1.mono (k2.wo fun _ _ _ _ z => z)) q2)
end

/-! ## names, constants -/
/-- the slot's content; a list is frozen -/
def mVar (i : Nat) : Mn B := fun ρ => match ρ[i]? with
  | some (some (.val d)) => .ok (.val d) ρ
  | some (some (.exc c fs)) => .ok (.exc c fs) ρ
  | some (some (.scr ns)) => .ok (.scr ns) ρ
  | some (some (.lst ds)) => .ok (.val (.list ds)) (ρ.set i (some (.val (.list ds))))
  | _ => .bad
def mC (d : PyData) : Mn B := fun ρ => .ok (.val d) ρ
section
variable {K : PySem.W.Frag} {W : WX} {σ : Slots} {H : Hp} {Q : VK} {F : Ow} {hid : Addr → Prop} {ρ : Env'}
/-- a list is frozen where it stands -/
theorem SOk.freeze {i : Nat} {ds : List PyData} (s : SOk K H σ ρ F hid) (e : ρ[i]? = some (some (.lst ds))) :
    SOk K H σ (ρ.set i (some (.val (.list ds)))) (fun j a => j ≠ i ∧ F j a) hid ∧ ∃ v, σ[i]? = some (some v) ∧ DV K (wo H (Un2 (fun j a => j ≠ i ∧ F j a) hid)) v (.list ds) := by
  obtain ⟨v, e1, o⟩ := s.at_ i _ e
  have hlt : i < ρ.length := (List.getElem?_eq_some_iff.mp e).1
  have sub : ∀ a, UF (fun j a => j ≠ i ∧ F j a) a → UF F a := fun a ⟨j, _, f⟩ => ⟨j, f⟩
  have sm : Same (wo H (Un2 F hid)) (wo H (Un2 (fun j a => j ≠ i ∧ F j a) hid)) := wo_same (fun _ _ e => e) fun a _ _ z => z.imp (sub a) fun z => z
  have dv : DV K (wo H (Un2 (fun j a => j ≠ i ∧ F j a) hid)) v (.list ds) := o.froz rfl sm fun a o p ea => wo_iff.mpr ⟨fun z => by
    rcases z with ⟨j, n, f⟩ | z
    · exact n (s.apart j i a f p)
    · exact s.hidden i a p z, ea⟩
  refine ⟨⟨fun a z => s.dom a (z.imp (sub a) fun z => z), fun i' j' a f g => s.apart i' j' a f.2 g.2, fun i' a f => s.hidden i' a f.2, by rw [List.length_set]; exact s.len, fun j b ej => ?_⟩, v, e1, dv⟩
  by_cases hj : i = j
  · subst hj
    rw [List.getElem?_set_self hlt] at ej
    cases ej
    exact ⟨v, e1, dv⟩
  · rw [List.getElem?_set_ne hj] at ej
    obtain ⟨w, e2, o2⟩ := s.at_ j b ej
    exact ⟨w, e2, (o2.mono sm fun _ _ _ e => e).sub fun a p => ⟨fun z => hj z.symm, p⟩⟩
theorem t_var {i : Nat} (h : tM K W (mVar i) σ H Q) : tVar i σ H Q := by
  obtain ⟨ρ, F, hid, s, h⟩ := h
  unfold mVar at h
  split at h
  · rename_i d e
    obtain ⟨v, e1, o⟩ := s.at_ i _ e
    exact ⟨v, e1, okB.val s h o⟩
  · rename_i c fs e
    obtain ⟨v, e1, o⟩ := s.at_ i _ e
    exact ⟨v, e1, (okB.ret s h) v H (fun _ => False) (fun _ _ e => e) (fun _ z => z.elim) (OwnB.mono (H := H) (H' := H) (P := fun _ => False) wo_none (fun _ _ z => z.elim) o)⟩
  · rename_i ns e
    obtain ⟨v, e1, o⟩ := s.at_ i _ e
    exact ⟨v, e1, (okB.ret s h) v H (fun _ => False) (fun _ _ e => e) (fun _ z => z.elim) (OwnB.mono (H := H) (H' := H) (P := fun _ => False) wo_none (fun _ _ z => z.elim) o)⟩
  · rename_i ds e
    obtain ⟨s2, v, e1, dv⟩ := s.freeze e
    refine ⟨v, e1, h v H (fun j a => j ≠ i ∧ F j a) (fun _ => False) (fun a o e n => ⟨e, fun z => z.elim (fun z => let ⟨j, f⟩ := z; n ⟨j, f.2⟩) fun z => z⟩) (s2.drop fun _ z => z.elim (fun z => z) False.elim) ?_⟩
    exact DV.mono (wo_same (fun _ _ e => e) fun _ _ _ z => z.elim .inl fun z => z.elim .inr False.elim) dv
  · exact h.elim
theorem t_con {v : V} {d : PyData} (hv : ∀ H, DV K H v d) (h : tM K W (mC d) σ H Q) : tC v σ H Q := by
  obtain ⟨ρ, F, hid, s, h⟩ := h
  exact okB.val s h (hv _)
end
end ML
/-! # ML3 -/
set_option Elab.async false
set_option linter.all false
set_option maxRecDepth 100000
namespace ML
open PySem PySem.Spec PyProof.Rows L2
/-! ## answers of operators, as plain functions -/
def vI (i : Int) : Option B := some (.val (.int i))
def vB (b : Bool) : Option B := some (.val (.bool b))
def wide2 (i j : Int) : Bool := decide (i.natAbs.log2 + j.natAbs.log2 < 1000000)
def gAdd : G2
  | .int i, .int j => vI (i + j)
  | .str x, .str y => if x.length + y.length ≤ 16777216 then some (.val (.str (x ++ y))) else none
  | .tuple xs, .tuple ys => if xs.length + ys.length ≤ 16777216 then some (.val (.tuple (xs ++ ys))) else none
  | .list xs, .list ys => if xs.length + ys.length ≤ 16777216 then some (.lst (xs ++ ys)) else none
  | _, _ => none
def gSub : G2
  | .int i, .int j => vI (i - j)
  | _, _ => none
def gMul : G2
  | .int i, .int j => if wide2 i j = true then vI (i * j) else none
  | .list xs, .int k => if -(2 ^ 63) ≤ k ∧ k < 2 ^ 63 ∧ xs.length * k.toNat ≤ 16777216 then some (.lst (List.replicate k.toNat xs).flatten) else none
  | .tuple xs, .int k => if xs ≠ [] ∧ 2 ≤ k ∧ k ≤ 1000 ∧ xs.length ≤ 1000 then some (.val (.tuple (List.replicate k.toNat xs).flatten)) else none
  | _, _ => none
def gFdiv : G2
  | .int i, .int j => if 0 < j ∧ j.natAbs.log2 < 9000 then vI (i / j) else none
  | _, _ => none
def gMod : G2
  | .int i, .int j => if 0 < j then vI (i % j) else none
  | _, _ => none
def gPow : G2
  | .int i, .int j => if 0 ≤ j ∧ (Builtin.Int.intBits i : Int) * j ≤ 2 ^ 27 then vI (i ^ j.toNat) else none
  | _, _ => none
def gNeg : G1
  | .int i => vI (-i)
  | _ => none
def gEq : G2 := fun d e => if SeqAt.shaped d = true ∧ SeqAt.shaped e = true then vB (PyData.eqv d e) else none
def gNe : G2 := fun d e => if SeqAt.shaped d = true ∧ SeqAt.shaped e = true then vB (!PyData.eqv d e) else none
/-- the ints of a list of data -/
def intsOf : List PyData → Option (List Int)
  | [] => some []
  | .int i :: r => (intsOf r).map (i :: ·)
  | _ :: _ => none
def gLt : G2
  | .int i, .int j => vB (decide (i < j))
  | .tuple xs, .tuple ys => match intsOf xs, intsOf ys with
    | some ns, some ms => vB (HT.lexLt ns ms)
    | _, _ => none
  | _, _ => none
def gLe : G2
  | .int i, .int j => vB (decide (i ≤ j))
  | _, _ => none
def gGt : G2
  | .int i, .int j => vB (decide (j < i))
  | _, _ => none
def gGe : G2
  | .int i, .int j => vB (decide (j ≤ i))
  | _, _ => none
def inS (x z : Str) : Bool := !(Builtin.Str.occurrences z x 0 z.length 1).isEmpty
def isInD (d : PyData) (ds : List PyData) : Bool := ds.any fun z => PyData.eqv z d
def gIn : G2
  | .str x, .str z => vB (inS x z)
  | d, .list ds => if SeqAt.shaped d = true ∧ SeqAt.shaped (.list ds) = true then vB (isInD d ds) else none
  | d, .tuple ds => if SeqAt.shaped d = true ∧ SeqAt.shaped (.tuple ds) = true then vB (isInD d ds) else none
  | _, _ => none
def gNotIn : G2
  | .str x, .str z => vB (!inS x z)
  | d, .list ds => if SeqAt.shaped d = true ∧ SeqAt.shaped (.list ds) = true then vB (!isInD d ds) else none
  | d, .tuple ds => if SeqAt.shaped d = true ∧ SeqAt.shaped (.tuple ds) = true then vB (!isInD d ds) else none
  | _, _ => none
def isNone : PyData → Bool
  | .none => true
  | _ => false
def gIs : G2
  | d, .none => vB (isNone d)
  | .bool a, .bool b => vB (decide (a = b))
  | _, _ => none
def gIsNot : G2
  | d, .none => vB (!isNone d)
  | .bool a, .bool b => vB (!decide (a = b))
  | _, _ => none
def gIdx : G2
  | .list xs, .int i => (atI xs i).map .val
  | .tuple xs, .int i => (atI xs i).map .val
  | .str z, .int i => if z.length ≤ 16777216 then (atI z.cps.toList i).map fun c => .val (.str ⟨#[c]⟩) else none
  | _, _ => none
theorem sl_line : sizeLine = 16777216 := sizeLine_eq

section
variable {X : Cx} {H : Hp} {O : Addr → Prop}
theorem inv_DVs {xs : List PyData} {v : V} (h : DV X.K H v (.tuple xs)) : ∃ a vs, v = .ref a ∧ SqT X.K H a vs ∧ DVs X.K H vs xs := by
  cases h with
  | tup a b => exact ⟨_, _, rfl, a, b⟩
theorem inv_DVl {xs : List PyData} {v : V} (h : DV X.K H v (.list xs)) : ∃ a vs, v = .ref a ∧ H a = some (.lst vs) ∧ DVs X.K H vs xs := by
  cases h with
  | lst a b => exact ⟨_, _, rfl, a, b⟩
theorem inv_int {i : Int} {v : V} (h : DV X.K H v (.int i)) : v = .int i := by cases h; rfl
theorem inv_str {i : Str} {v : V} (h : DV X.K H v (.str i)) : v = .str i := by cases h; rfl
theorem inv_bool {i : Bool} {v : V} (h : DV X.K H v (.bool i)) : v = .bl i := by cases h; rfl
theorem seqT_low {a : Addr} {vs : List V} (h : SqT X.K (wo H O) a vs) : SqT X.K H a vs := seqT_mono wo_low h
theorem lst_low {a : Addr} {o : HO} (h : wo H O a = some o) : H a = some o := wo_low _ _ h

theorem opR_wk {f : Value → Value → Sem Value} {r r' : R2} (h : OpR X f r) (w : ∀ x y H Q, r' x y H Q → r x y H Q) : OpR X f r' := fun pins s σ H x y v u Q I rx ry q => h pins s σ H x y v u Q I rx ry (w x y H Q q)

/-! ### arithmetic -/
def rInt2 (C : Int → Int → Prop) (g : Int → Int → V) : R2 := rI C g
theorem ruleAdd : OpR X (binaryOp .Add) (fun x y H Q => (∃ i j, x = .int i ∧ y = .int j ∧ Q (.int (i + j)) H) ∨ (∃ i j : Str, x = .str i ∧ y = .str j ∧ i.length + j.length ≤ sizeLine ∧ Q (.str (i ++ j)) H) ∨ rCatA X.K x y H Q ∨ rCat x y H Q) :=
  OpR.or op_add (OpR.or op_add_str (OpR.or op_catA op_cat))
theorem opAdd : Rule2 X.K (fun x y H Q => (∃ i j, x = .int i ∧ y = .int j ∧ Q (.int (i + j)) H) ∨ (∃ i j : Str, x = .str i ∧ y = .str j ∧ i.length + j.length ≤ sizeLine ∧ Q (.str (i ++ j)) H) ∨ rCatA X.K x y H Q ∨ rCat x y H Q) gAdd := by
  intro H O x y d e b Q dm hx hy hg r
  unfold gAdd at hg
  split at hg
  · cases hg
    rw [inv_int hx, inv_int hy]
    exact .inl ⟨_, _, rfl, rfl, r.here (.int _)⟩
  · split at hg
    · cases hg
      rw [inv_str hx, inv_str hy]
      exact .inr (.inl ⟨_, _, rfl, rfl, by rw [sl_line]; assumption, r.here (.str _)⟩)
    · cases hg
  · split at hg
    · cases hg
      rename_i hz
      obtain ⟨a, vs, rfl, sa, da⟩ := inv_DVs hx
      obtain ⟨c, ws, rfl, sc, dc⟩ := inv_DVs hy
      refine .inr (.inr (.inl ⟨a, c, vs, ws, rfl, rfl, seqT_low sa, seqT_low sc, by rw [sl_line, da.len, dc.len]; exact hz, fun e => ?_, fun _ e => ?_, fun _ _ p hp => ?_⟩))
      · subst e
        cases da
        exact r.here (.tup sc dc)
      · subst e
        cases dc
        rw [List.append_nil] at r
        exact r.here (.tup sa da)
      · exact r.tup dm (da.append dc) hp
    · cases hg
  · split at hg
    · cases hg
      rename_i hz
      obtain ⟨a, vs, rfl, sa, da⟩ := inv_DVl hx
      obtain ⟨c, ws, rfl, sc, dc⟩ := inv_DVl hy
      exact .inr (.inr (.inr ⟨a, c, vs, ws, rfl, rfl, lst_low sa, lst_low sc, by rw [sl_line, da.len, dc.len]; exact hz, fun p hp => r.lst dm (da.append dc) hp⟩))
    · cases hg
  · cases hg
theorem opSub : Rule2 X.K (rI0 fun i j => .int (i - j)) gSub := by
  intro H O x y d e b Q dm hx hy hg r
  unfold gSub at hg
  split at hg
  · cases hg
    rw [inv_int hx, inv_int hy]
    exact ⟨_, _, rfl, rfl, r.here (.int _)⟩
  · cases hg
theorem ruleMul : OpR X (binaryOp .Mult) (fun x y H Q => rI CMulW (fun i j => .int (i * j)) x y H Q ∨ rRep x y H Q ∨ rRepT X.K x y H Q) := OpR.or op_mulW (OpR.or op_rep op_repT)
theorem opMul : Rule2 X.K (fun x y H Q => rI CMulW (fun i j => .int (i * j)) x y H Q ∨ rRep x y H Q ∨ rRepT X.K x y H Q) gMul := by
  intro H O x y d e b Q dm hx hy hg r
  unfold gMul at hg
  split at hg
  · split at hg
    · cases hg
      rename_i hw
      rw [inv_int hx, inv_int hy]
      exact .inl ⟨_, _, rfl, rfl, (by unfold CMulW; exact of_decide_eq_true (show decide (_ < 1000000) = true from hw)), r.here (.int _)⟩
    · cases hg
  · split at hg
    · cases hg
      rename_i hz
      obtain ⟨a, vs, rfl, sa, da⟩ := inv_DVl hx
      rw [inv_int hy]
      exact .inr (.inl ⟨a, _, vs, rfl, rfl, lst_low sa, hz.1, hz.2.1, by rw [sl_line, da.len]; exact hz.2.2, fun p hp => r.lst dm (da.rep _) hp⟩)
    · cases hg
  · split at hg
    · cases hg
      rename_i hz
      obtain ⟨a, vs, rfl, sa, da⟩ := inv_DVs hx
      rw [inv_int hy]
      refine .inr (.inr ⟨a, _, vs, rfl, rfl, seqT_low sa, fun e => hz.1 ?_, hz.2.1, hz.2.2.1, by rw [da.len]; exact hz.2.2.2, fun p hp => r.tup dm (da.rep _) hp⟩)
      subst e
      cases da
      rfl
    · cases hg
  · cases hg
theorem opFdiv : Rule2 X.K (rI CDivW fun i j => .int (i / j)) gFdiv := by
  intro H O x y d e b Q dm hx hy hg r
  unfold gFdiv at hg
  split at hg
  · split at hg
    · cases hg
      rename_i hw
      rw [inv_int hx, inv_int hy]
      exact ⟨_, _, rfl, rfl, hw, r.here (.int _)⟩
    · cases hg
  · cases hg
theorem opMod : Rule2 X.K (rI (fun _ j => 0 < j) fun i j => .int (i % j)) gMod := by
  intro H O x y d e b Q dm hx hy hg r
  unfold gMod at hg
  split at hg
  · split at hg
    · cases hg
      rename_i hw
      rw [inv_int hx, inv_int hy]
      exact ⟨_, _, rfl, rfl, hw, r.here (.int _)⟩
    · cases hg
  · cases hg
def CPowW (i j : Int) : Prop := 0 ≤ j ∧ (Builtin.Int.intBits i : Int) * j ≤ 2 ^ 27
theorem rulePow : OpR X (binaryOp .Pow) (rI CPowW fun i j => .int (i ^ j.toNat)) := opI fun _ _ _ _ _ _ _ hc q => pow_int hc.1 hc.2 q
theorem opPow : Rule2 X.K (rI CPowW fun i j => .int (i ^ j.toNat)) gPow := by
  intro H O x y d e b Q dm hx hy hg r
  unfold gPow at hg
  split at hg
  · split at hg
    · cases hg
      rename_i hw
      rw [inv_int hx, inv_int hy]
      exact ⟨_, _, rfl, rfl, hw, r.here (.int _)⟩
    · cases hg
  · cases hg
theorem opNeg : Rule1 X.K (rU fun i => .int (-i)) gNeg := by
  intro H O x d b Q dm hx hg r
  unfold gNeg at hg
  split at hg
  · cases hg
    rw [inv_int hx]
    exact ⟨_, rfl, r.here (.int _)⟩
  · cases hg

/-! ### comparisons -/
def rEqV (K : PySem.W.Frag) : R2 := fun x y H Q => ∃ d e, DV K H x d ∧ DV K H y e ∧ SeqAt.shaped d = true ∧ SeqAt.shaped e = true ∧ Q (.bl (PyData.eqv d e)) H
def rNeV (K : PySem.W.Frag) : R2 := fun x y H Q => ∃ d e, DV K H x d ∧ DV K H y e ∧ SeqAt.shaped d = true ∧ SeqAt.shaped e = true ∧ Q (.bl (!PyData.eqv d e)) H
theorem ruleEq (hu : X.A.units + 65 < cLine) : OpR X (compareOp .Eq) (rEqV X.K) := by
  intro pins s σ H x y v u Q I rx ry ⟨d, e, hd, he, sd, se, q⟩
  obtain ⟨as, r1⟩ := DV.reads I d x v hd rx
  obtain ⟨bs, r2⟩ := DV.reads I e y u he ry
  exact SeqAt.compareEq_shaped r1 r2 sd se (by omega) ⟨.bl _, H, I, rfl, q⟩
theorem ruleNe (hu : X.A.units + 65 < cLine) : OpR X (compareOp .NotEq) (rNeV X.K) := by
  intro pins s σ H x y v u Q I rx ry ⟨d, e, hd, he, sd, se, q⟩
  obtain ⟨as, r1⟩ := DV.reads I d x v hd rx
  obtain ⟨bs, r2⟩ := DV.reads I e y u he ry
  exact SeqAt.compareNe_shaped r1 r2 sd se (by omega) ⟨.bl _, H, I, rfl, q⟩
theorem opEq : Rule2 X.K (rEqV X.K) gEq := by
  intro H O x y d e b Q dm hx hy hg r
  unfold gEq at hg
  split at hg
  · cases hg
    rename_i hs
    exact ⟨d, e, hx.mono wo_low, hy.mono wo_low, hs.1, hs.2, r.here (.bl _)⟩
  · cases hg
theorem opNe : Rule2 X.K (rNeV X.K) gNe := by
  intro H O x y d e b Q dm hx hy hg r
  unfold gNe at hg
  split at hg
  · cases hg
    rename_i hs
    exact ⟨d, e, hx.mono wo_low, hy.mono wo_low, hs.1, hs.2, r.here (.bl _)⟩
  · cases hg
theorem intsOf_DVs {K : PySem.W.Frag} : ∀ {xs : List PyData} {ns : List Int} {vs : List V}, intsOf xs = some ns → DVs K H vs xs → vs = ns.map V.int
  | [], ns, vs, e, h => by
    cases e
    cases h
    rfl
  | x :: xs, ns, vs, e, h => by
    cases h with
    | cons h1 h2 =>
      cases x with
      | int i =>
        cases hr : intsOf xs with
        | none =>
          have e' : (intsOf xs).map (i :: ·) = some ns := e
          rw [hr] at e'
          cases e'
        | some ms =>
          have e' : (intsOf xs).map (i :: ·) = some ns := e
          rw [hr] at e'
          cases e'
          cases h1
          rw [intsOf_DVs hr h2]
          rfl
      | _ => cases e
theorem ruleLt (hu : X.A.units + 65 < cLine) : OpR X (compareOp .Lt) (fun x y H Q => (∃ i j, x = .int i ∧ y = .int j ∧ Q (.bl (decide (i < j))) H) ∨ rLtT X.K x y H Q) := OpR.or op_lt (op_ltT (by omega))
theorem opLt : Rule2 X.K (fun x y H Q => (∃ i j, x = .int i ∧ y = .int j ∧ Q (.bl (decide (i < j))) H) ∨ rLtT X.K x y H Q) gLt := by
  intro H O x y d e b Q dm hx hy hg r
  unfold gLt at hg
  split at hg
  · cases hg
    rw [inv_int hx, inv_int hy]
    exact .inl ⟨_, _, rfl, rfl, r.here (.bl _)⟩
  · split at hg
    · cases hg
      rename_i e1 e2
      obtain ⟨a, vs, rfl, sa, da⟩ := inv_DVs hx
      obtain ⟨c, ws, rfl, sc, dc⟩ := inv_DVs hy
      rw [intsOf_DVs e1 da] at sa
      rw [intsOf_DVs e2 dc] at sc
      exact .inr ⟨a, c, _, _, rfl, rfl, seqT_low sa, seqT_low sc, r.here (.bl _)⟩
    · cases hg
  · cases hg
theorem opLe : Rule2 X.K (rI0 fun i j => .bl (decide (i ≤ j))) gLe := by
  intro H O x y d e b Q dm hx hy hg r
  unfold gLe at hg
  split at hg
  · cases hg
    rw [inv_int hx, inv_int hy]
    exact ⟨_, _, rfl, rfl, r.here (.bl _)⟩
  · cases hg
theorem opGt : Rule2 X.K (rI0 fun i j => .bl (decide (j < i))) gGt := by
  intro H O x y d e b Q dm hx hy hg r
  unfold gGt at hg
  split at hg
  · cases hg
    rw [inv_int hx, inv_int hy]
    exact ⟨_, _, rfl, rfl, r.here (.bl _)⟩
  · cases hg
theorem opGe : Rule2 X.K (rI0 fun i j => .bl (decide (j ≤ i))) gGe := by
  intro H O x y d e b Q dm hx hy hg r
  unfold gGe at hg
  split at hg
  · cases hg
    rw [inv_int hx, inv_int hy]
    exact ⟨_, _, rfl, rfl, r.here (.bl _)⟩
  · cases hg
def rInV (K : PySem.W.Frag) (neg : Bool) : R2 := fun x y H Q => ∃ d ds, DV K H x d ∧ (DV K H y (.list ds) ∨ DV K H y (.tuple ds)) ∧ SeqAt.shaped d = true ∧ SeqAt.shaped (.list ds) = true ∧ Q (.bl (if neg = true then !isInD d ds else isInD d ds)) H
theorem ruleInV (hu : X.A.units + 65 < cLine) : OpR X (compareOp .In) (rInV X.K false) := by
  intro pins s σ H x y v u Q I rx ry ⟨d, ds, hd, he, sd, se, q⟩
  obtain ⟨as, r1⟩ := DV.reads I d x v hd rx
  rcases he with he | he
  · obtain ⟨bs, r2⟩ := DV.reads I _ y u he ry
    exact SeqAt.in_list_reads r2 r1 (SeqAt.canLay_of_shaped se) (SeqAt.canLay_of_shaped sd) (room_in_shaped sd hu) ⟨.bl _, H, I, rfl, q⟩
  · obtain ⟨bs, r2⟩ := DV.reads I _ y u he ry
    exact SeqAt.in_tuple_reads r2 r1 (SeqAt.canLay_of_shaped se) (SeqAt.canLay_of_shaped sd) (room_in_shaped sd hu) ⟨.bl _, H, I, rfl, q⟩
theorem ruleNotInV (hu : X.A.units + 65 < cLine) : OpR X (compareOp .NotIn) (rInV X.K true) := by
  intro pins s σ H x y v u Q I rx ry ⟨d, ds, hd, he, sd, se, q⟩
  obtain ⟨as, r1⟩ := DV.reads I d x v hd rx
  rcases he with he | he
  · obtain ⟨bs, r2⟩ := DV.reads I _ y u he ry
    exact SeqAt.notIn_list_reads r2 r1 (SeqAt.canLay_of_shaped se) (SeqAt.canLay_of_shaped sd) (room_in_shaped sd hu) ⟨.bl _, H, I, rfl, q⟩
  · obtain ⟨bs, r2⟩ := DV.reads I _ y u he ry
    exact SeqAt.notIn_tuple_reads r2 r1 (SeqAt.canLay_of_shaped se) (SeqAt.canLay_of_shaped sd) (room_in_shaped sd hu) ⟨.bl _, H, I, rfl, q⟩
def rInS (neg : Bool) : R2 := fun x y H Q => ∃ i j, x = .str i ∧ y = .str j ∧ Q (.bl (if neg = true then !inS i j else inS i j)) H
theorem ruleIn (hu : X.A.units + 65 < cLine) : OpR X (compareOp .In) (fun x y H Q => rInS false x y H Q ∨ rInV X.K false x y H Q) := OpR.or op_in_str (ruleInV hu)
theorem ruleNotIn (hu : X.A.units + 65 < cLine) : OpR X (compareOp .NotIn) (fun x y H Q => rInS true x y H Q ∨ rInV X.K true x y H Q) := OpR.or L2.op_notIn_str (ruleNotInV hu)
theorem shaped_lt {ds : List PyData} (h : SeqAt.shaped (.tuple ds) = true) : SeqAt.shaped (.list ds) = true := h
theorem opIn : Rule2 X.K (fun x y H Q => rInS false x y H Q ∨ rInV X.K false x y H Q) gIn := by
  intro H O x y d e b Q dm hx hy hg r
  unfold gIn at hg
  split at hg
  · cases hg
    rw [inv_str hx, inv_str hy]
    exact .inl ⟨_, _, rfl, rfl, r.here (.bl _)⟩
  · split at hg
    · cases hg
      rename_i hs
      exact .inr ⟨d, _, hx.mono wo_low, .inl (hy.mono wo_low), hs.1, hs.2, r.here (.bl _)⟩
    · cases hg
  · split at hg
    · cases hg
      rename_i hs
      exact .inr ⟨d, _, hx.mono wo_low, .inr (hy.mono wo_low), hs.1, shaped_lt hs.2, r.here (.bl _)⟩
    · cases hg
  · cases hg
theorem opNotIn : Rule2 X.K (fun x y H Q => rInS true x y H Q ∨ rInV X.K true x y H Q) gNotIn := by
  intro H O x y d e b Q dm hx hy hg r
  unfold gNotIn at hg
  split at hg
  · cases hg
    rw [inv_str hx, inv_str hy]
    exact .inl ⟨_, _, rfl, rfl, r.here (.bl _)⟩
  · split at hg
    · cases hg
      rename_i hs
      exact .inr ⟨d, _, hx.mono wo_low, .inl (hy.mono wo_low), hs.1, hs.2, r.here (.bl _)⟩
    · cases hg
  · split at hg
    · cases hg
      rename_i hs
      exact .inr ⟨d, _, hx.mono wo_low, .inr (hy.mono wo_low), hs.1, shaped_lt hs.2, r.here (.bl _)⟩
    · cases hg
  · cases hg
theorem isNone_DV {K : PySem.W.Frag} {v : V} {d : PyData} (h : DV K H v d) : decide (v = .non) = isNone d := by
  cases h <;> rfl
def rIsO (neg : Bool) : R2 := fun x y H Q => (y = .non ∧ Q (.bl (if neg = true then !decide (x = .non) else decide (x = .non))) H) ∨ ∃ a b : Bool, x = .bl a ∧ y = .bl b ∧ Q (.bl (if neg = true then !decide (a = b) else decide (a = b))) H
theorem ruleIs : OpR X (compareOp .Is) (rIsO false) := OpR.or op_isN op_is_bl
theorem ruleIsNot : OpR X (compareOp .IsNot) (rIsO true) := OpR.or op_notN op_isnot_bl
theorem opIs : Rule2 X.K (rIsO false) gIs := by
  intro H O x y d e b Q dm hx hy hg r
  unfold gIs at hg
  split at hg
  · cases hg
    cases hy
    refine .inl ⟨rfl, ?_⟩
    rw [if_neg Bool.false_ne_true, isNone_DV hx]
    exact r.here (.bl _)
  · cases hg
    rw [inv_bool hx, inv_bool hy]
    exact .inr ⟨_, _, rfl, rfl, r.here (.bl _)⟩
  · cases hg
theorem opIsNot : Rule2 X.K (rIsO true) gIsNot := by
  intro H O x y d e b Q dm hx hy hg r
  unfold gIsNot at hg
  split at hg
  · cases hg
    cases hy
    refine .inl ⟨rfl, ?_⟩
    rw [if_pos rfl, isNone_DV hx]
    exact r.here (.bl _)
  · cases hg
    rw [inv_bool hx, inv_bool hy]
    exact .inr ⟨_, _, rfl, rfl, r.here (.bl _)⟩
  · cases hg

/-! ### o[i] -/
theorem atI_DVs {K : PySem.W.Frag} {vs : List V} {ds : List PyData} {i : Int} {d : PyData} (h : DVs K H vs ds) (e : atI ds i = some d) : ∃ v, atI vs i = some v ∧ DV K H v d := by
  unfold atI at e ⊢
  rw [h.len]
  cases hj : ixN ds.length i with
  | none => rw [hj] at e; cases e
  | some j =>
    rw [hj] at e
    obtain ⟨v, e1, q⟩ := h.getD (show ds[j]? = some d from e)
    exact ⟨v, e1, q⟩
theorem opIdx : Rule2 X.K (rIx X.K) gIdx := by
  intro H O x y d e b Q dm hx hy hg r
  unfold gIdx at hg
  split at hg
  · obtain ⟨a, vs, rfl, sa, da⟩ := inv_DVl hx
    obtain ⟨d', e1, e2⟩ := Option.map_eq_some_iff.mp hg
    cases e2
    obtain ⟨v, e3, q⟩ := atI_DVs da e1
    rw [inv_int hy]
    exact .inl ⟨a, vs, _, v, rfl, rfl, SqL.of (lst_low sa), e3, r.here q⟩
  · obtain ⟨a, vs, rfl, sa, da⟩ := inv_DVs hx
    obtain ⟨d', e1, e2⟩ := Option.map_eq_some_iff.mp hg
    cases e2
    obtain ⟨v, e3, q⟩ := atI_DVs da e1
    rw [inv_int hy]
    exact .inr (.inl ⟨a, vs, _, v, rfl, rfl, seqT_low sa, e3, r.here q⟩)
  · split at hg
    · rename_i hz
      obtain ⟨c, e1, e2⟩ := Option.map_eq_some_iff.mp hg
      cases e2
      rw [inv_str hx, inv_int hy]
      exact .inr (.inr ⟨_, _, c, rfl, rfl, by rw [sl_line]; exact hz, e1, r.here (.str _)⟩)
    · cases hg
  · cases hg
end
end ML
/-! # ML4 -/
set_option Elab.async false
set_option linter.all false
set_option maxRecDepth 100000
namespace ML
open PySem PySem.Spec PyProof.Rows L2
section
variable {X : Cx} {W : WX}
/-! ## parts of expressions -/
abbrev EM (X : Cx) (W : WX) (e : Expr) (m : Mn B) : Prop := PE X e (tM X.K W m)
abbrev ED (X : Cx) (W : WX) (e : Expr) (m : Mn PyData) : Prop := PE X e (tD X.K W m)
abbrev EA (X : Cx) (W : WX) (es : List Expr) (m : Mn (List PyData)) : Prop := PA X es (tA X.K W m)
abbrev ET (X : Cx) (W : WX) (e : Expr) (m : Mn Bool) : Prop := PT X e (tT X.K W m)
theorem EM.d {e : Expr} {m : Mn B} (h : EM X W e m) : ED X W e (asD m) := PE.wk h fun _ _ _ q => asD_of q
theorem em_var {i : Nat} {x : Str} {pos : Pos} (hN : X.N[i]? = some x) (hv : Vis X.env.scope x) (hd : (x == ("__debug__" : Str)) = false) (hc : (x == ("__classdict__" : Str)) = false) : EM X W (.Name x pos) (mVar i) :=
  PE.wk (pe_var hN hv hd hc) fun _ _ _ q => t_var q
theorem em_int {i j pos} : EM X W (.Constant (.int i) j pos) (mC (.int i)) := PE.wk pe_int fun _ _ _ q => t_con (fun _ => .int _) q
theorem em_bl {b j pos} : EM X W (.Constant (.bool b) j pos) (mC (.bool b)) := PE.wk pe_bl fun _ _ _ q => t_con (fun _ => .bl _) q
theorem em_non {j pos} : EM X W (.Constant .none j pos) (mC .none) := PE.wk pe_non fun _ _ _ q => t_con (fun _ => .non) q
theorem em_str {x j pos} : EM X W (.Constant (.str x) j pos) (mC (.str x)) := PE.wk pe_str fun _ _ _ q => t_con (fun _ => .str _) q
/-- a module's constant -/
def GloOk (X : Cx) (x : Str) (d : PyData) : Prop := ∃ v u, X.mg x = some u ∧ RelV v u ∧ ∀ H, DV X.K H v d
theorem em_glo {x : Str} {d : PyData} {pos : Pos} (hg : Gl X x) (h : GloOk X x d) (hd : (x == ("__debug__" : Str)) = false) : EM X W (.Name x pos) (mC d) := by
  obtain ⟨v, u, h1, h2, h3⟩ := h
  exact PE.wk (pe_glob hg h1 h2 hd) fun _ _ _ q => t_con h3 q
theorem em_bin {op : Operator} {r : R2} {g : G2} {a b : Expr} {ma mb : Mn PyData} {pos : Pos} (ho : OpR X (binaryOp op) r) (hr : Rule2 X.K r g) (ha : ED X W a ma) (hb : ED X W b mb) : EM X W (.BinOp a op b pos) (m2 g ma mb) :=
  PE.wk (pe_op ho ha hb) fun _ _ _ q => op2 hr q
theorem em_cmp {op : CmpOp} {r : R2} {g : G2} {a b : Expr} {ma mb : Mn PyData} {pos : Pos} (ho : OpR X (compareOp op) r) (hr : Rule2 X.K r g) (ha : ED X W a ma) (hb : ED X W b mb) (hm : behindInMarks op b = false) : EM X W (.Compare a [op] [b] pos) (m2 g ma mb) :=
  PE.wk (pe_cmpR ho ha hb hm) fun _ _ _ q => op2 hr q
theorem em_un {op : UnaryOp} {r : V → Hp → VK → Prop} {g : G1} {a : Expr} {ma : Mn PyData} {pos : Pos} (ho : UnR X (unaryOp op) r) (hr : Rule1 X.K r g) (ha : ED X W a ma) : EM X W (.UnaryOp op a pos) (m1 g ma) :=
  PE.wk (pe_un ho ha) fun _ _ _ q => op1 hr q
theorem em_idx {a b : Expr} {ma mb : Mn PyData} {pos : Pos} (ha : ED X W a ma) (hb : ED X W b mb) (hs : PlainIx b) : EM X W (.Subscript a b pos) (m2 gIdx ma mb) :=
  PE.wk (pe_ix ix_seq ha hb hs) fun _ _ _ q => op2 opIdx q

/-! ### truth -/
def truth : PyData → Option Bool
  | .none => some false
  | .bool b => some b
  | .int i => some (i != 0)
  | .str x => if x.length ≤ 16777216 then some ((x.length : Int) != 0) else none
  | .list ds => some (!ds.isEmpty)
  | .tuple ds => some (!ds.isEmpty)
  | .dict _ => none
def asT (m : Mn B) : Mn Bool := fun ρ => (asD m ρ).bind fun d ρ' => Res.of (truth d) ρ'
theorem DVs.emp {K : PySem.W.Frag} {H : Hp} {vs : List V} {ds : List PyData} (h : DVs K H vs ds) : (!ds.isEmpty) = !vs.isEmpty := by cases h <;> rfl
theorem truth_ok {K : PySem.W.Frag} {H Hf : Hp} {v : V} {d : PyData} {k : Bool} (hf : Same Hf H) (h : DV K Hf v d) (e : truth d = some k) : TruV K v H k := by
  cases h with
  | non => cases e; rfl
  | bl b => cases e; rfl
  | int i => cases e; rfl
  | str x =>
    have e' : (if x.length ≤ 16777216 then some ((x.length : Int) != 0) else none) = some k := e
    split at e'
    · rename_i hz
      cases e'
      exact ⟨by rw [sl_line]; exact hz, rfl⟩
    · cases e'
  | lst a b =>
    cases e
    exact .inl ⟨_, SqL.of (hf _ _ a), b.emp⟩
  | tup a b =>
    cases e
    exact .inr (.inl ⟨_, seqT_mono hf a, b.emp⟩)
  | dic a => cases e
/-- any expression whose test is its value's truth -/
theorem et_val {e : Expr} {m : Mn B} (h : EM X W e m) (he : ∀ whole, isTrue e X.env whole = (do let v ← whole; standAt e.pos; holding [v] (truthy v))) : ET X W e (asT m) :=
  PT.wk (pt_truth h.d he) fun σ H Q q => by
    obtain ⟨ρ, F, hid, s, q⟩ := q
    refine ⟨ρ, F, hid, s, REnd.mono Keep.refl (fun d ρ1 q v H1 F1 k1 s1 q1 => ?_) (REnd.bind q)⟩
    cases et : truth d with
    | none => rw [et] at q; exact q.elim
    | some k =>
      rw [et] at q
      have q3 : okT X.K σ H F hid Q k ρ1 := q
      exact ⟨k, truth_ok wo_low q1 et, q3 H1 F1 k1 s1⟩
/-- a bool's answer as a test -/
theorem tTest_of {t : TE} {m : Mn B} (hb : ∀ ρ b ρ', m ρ = .ok b ρ' → ∃ k, b = .val (.bool k)) (w : ∀ σ H Q, tM X.K W m σ H Q → t σ H Q) {σ H} {Q : Bool → Hp → Prop} (q : tT X.K W (asT m) σ H Q) : tTest t σ H Q := by
  obtain ⟨ρ, F, hid, s, q⟩ := q
  refine w _ _ _ ⟨ρ, F, hid, s, ?_⟩
  cases em : m ρ with
  | bad =>
    have e0 : asT m ρ = .bad := by unfold asT asD; rw [em]; rfl
    rw [e0] at q
    exact q
  | exc c fs ρ' =>
    have e0 : asT m ρ = .exc c fs ρ' := by unfold asT asD; rw [em]; rfl
    rw [e0] at q
    exact q
  | ok b ρ' =>
    obtain ⟨k, rfl⟩ := hb _ _ _ em
    have e0 : asT m ρ = .ok k ρ' := by unfold asT asD; rw [em]; rfl
    rw [e0] at q
    have q' : okT X.K σ H F hid Q k ρ' := q
    intro v H' F' fp kp s' o
    have o' : DV X.K _ v (.bool k) := o
    cases o'
    exact ⟨k, rfl, q' H' F' (kp.less fun _ z => .inl z) (s'.drop fun _ z => .inl z)⟩
/-- an operator whose answers are bools -/
def BoolG (g : G2) : Prop := ∀ d e b, g d e = some b → ∃ k, b = .val (.bool k)
theorem m2_bool {g : G2} (hg : BoolG g) {ma mb : Mn PyData} {ρ b ρ'} (h : m2 g ma mb ρ = .ok b ρ') : ∃ k, b = .val (.bool k) := by
  unfold m2 at h
  cases ea : ma ρ with
  | bad => rw [ea] at h; cases h
  | exc c fs ρ1 => rw [ea] at h; cases h
  | ok d ρ1 =>
    rw [ea, Res.bind_ok] at h
    cases eb : mb ρ1 with
    | bad => rw [eb] at h; cases h
    | exc c fs ρ2 => rw [eb] at h; cases h
    | ok e ρ2 =>
      rw [eb, Res.bind_ok] at h
      cases eg : g d e with
      | none => rw [eg] at h; cases h
      | some b' =>
        rw [eg] at h
        cases h
        exact hg d e _ eg
theorem et_cmp {op : CmpOp} {r : R2} {g : G2} {a b : Expr} {ma mb : Mn PyData} {pos : Pos} (ho : OpR X (compareOp op) r) (hr : Rule2 X.K r g) (hg : BoolG g) (ha : ED X W a ma) (hb : ED X W b mb) (hm : behindInMarks op b = false) : ET X W (.Compare a [op] [b] pos) (asT (m2 g ma mb)) :=
  PT.wk (pt_cmpR ho ha hb hm) fun _ _ _ q => tTest_of (fun _ _ _ e => m2_bool hg e) (fun _ _ _ q => op2 hr q) q

/-! ### chains: a op b op c -/
def mChn (g g' : G2) (ma mb mc : Mn PyData) : Mn B := fun ρ => (ma ρ).bind fun d ρ1 => (mb ρ1).bind fun e ρ2 => match g d e with
  | some (.val (.bool true)) => (mc ρ2).bind fun f ρ3 => Res.of (g' e f) ρ3
  | some (.val (.bool false)) => .ok (.val (.bool false)) ρ2
  | _ => .bad
theorem opChn {r r' : R2} {g g' : G2} {ma mb mc : Mn PyData} (hr : Rule2 X.K r g) (hr' : Rule2 X.K r' g') {σ H Q} (h : tM X.K W (mChn g g' ma mb mc) σ H Q) : tChain r r' (tD X.K W ma) (tD X.K W mb) (tD X.K W mc) σ H Q := by
  obtain ⟨ρ, F, hid, s, h⟩ := h
  refine ⟨ρ, F, hid, s, REnd.mono Keep.refl (fun d ρ1 q v H1 F1 k1 s1 q1 => ?_) (REnd.bind h)⟩
  refine ⟨ρ1, F1, hid, s1, REnd.mono k1 (fun e ρ2 q' w H2 F2 k2 s2 q2 => ?_) (REnd.bind q)⟩
  have v2 : DV X.K (wo H2 (Un2 F2 hid)) v d := q1.mono (k2.wo fun _ _ _ _ z => z)
  have k12 : Keep H (UF F) H2 (UF F2) := k1.trans k2
  split at q'
  · rename_i eg
    refine hr H2 _ v w d e _ _ s2.domU v2 q2 eg fun z H3 fp sm nw o => ?_
    have o' : DV X.K _ z (.bool true) := o
    cases o'
    refine ⟨true, rfl, ?_⟩
    rw [if_pos rfl]
    have s3 : SOk X.K H3 σ ρ2 F2 hid := s2.grow sm
    refine ⟨ρ2, F2, hid, s3, REnd.mono (k12.trans (Keep.same sm)) (fun f ρ3 q3 u H4 F4 k4 s4 q4 => ?_) (REnd.bind q')⟩
    have w4 : DV X.K (wo H4 (Un2 F4 hid)) w e := q2.mono (Same.trans (wo_same sm fun _ _ _ z => z) (k4.wo fun _ _ _ _ z => z))
    cases eg' : g' e f with
    | none => rw [eg'] at q3; exact q3.elim
    | some b =>
      rw [eg'] at q3
      have q5 : okB X.K σ H F hid Q b ρ3 := q3
      exact hr' H4 _ w u e f b Q s4.domU w4 q4 eg' (okB.ret s4 (q5.after ((k12.trans (Keep.same sm)).trans k4)))
  · rename_i eg
    refine hr H2 _ v w d e _ _ s2.domU v2 q2 eg fun z H3 fp sm nw o => ?_
    have o' : DV X.K _ z (.bool false) := o
    cases o'
    refine ⟨false, rfl, ?_⟩
    rw [if_neg Bool.false_ne_true]
    have q5 : okB X.K σ H F hid Q (.val (.bool false)) ρ2 := q'
    exact okB.val (s2.grow sm) (q5.after (k12.trans (Keep.same sm))) (.bl _)
  · exact q'.elim
theorem em_chn {op op' : CmpOp} {r r' : R2} {g g' : G2} {a b c : Expr} {ma mb mc : Mn PyData} {pos : Pos} (ho : OpR X (compareOp op) r) (ho' : OpR X (compareOp op') r') (hr : Rule2 X.K r g) (hr' : Rule2 X.K r' g') (ha : ED X W a ma) (hb : ED X W b mb) (hc : ED X W c mc)
    (hm : lastMarks [op, op'] [b, c] = false) : EM X W (.Compare a [op, op'] [b, c] pos) (mChn g g' ma mb mc) := PE.wk (pe_chain ho ho' ha hb hc hm) fun _ _ _ q => opChn hr hr' q
theorem mChn_bool {g g' : G2} (hg : BoolG g') {ma mb mc : Mn PyData} {ρ b ρ'} (h : mChn g g' ma mb mc ρ = .ok b ρ') : ∃ k, b = .val (.bool k) := by
  unfold mChn at h
  cases ea : ma ρ with
  | bad => rw [ea] at h; cases h
  | exc c fs ρ1 => rw [ea] at h; cases h
  | ok d ρ1 =>
    rw [ea, Res.bind_ok] at h
    cases eb : mb ρ1 with
    | bad => rw [eb] at h; cases h
    | exc c fs ρ2 => rw [eb] at h; cases h
    | ok e ρ2 =>
      rw [eb, Res.bind_ok] at h
      split at h
      · cases ec : mc ρ2 with
        | bad => rw [ec] at h; cases h
        | exc c fs ρ3 => rw [ec] at h; cases h
        | ok f ρ3 =>
          rw [ec, Res.bind_ok] at h
          cases eg : g' e f with
          | none => rw [eg] at h; cases h
          | some b' =>
            rw [eg] at h
            cases h
            exact hg _ _ _ eg
      · cases h
        exact ⟨_, rfl⟩
      · cases h
theorem et_chn {op op' : CmpOp} {r r' : R2} {g g' : G2} {a b c : Expr} {ma mb mc : Mn PyData} {pos : Pos} (ho : OpR X (compareOp op) r) (ho' : OpR X (compareOp op') r') (hr : Rule2 X.K r g) (hr' : Rule2 X.K r' g') (hg : BoolG g') (ha : ED X W a ma) (hb : ED X W b mb) (hc : ED X W c mc)
    (hm : lastMarks [op, op'] [b, c] = false) : ET X W (.Compare a [op, op'] [b, c] pos) (asT (mChn g g' ma mb mc)) :=
  PT.wk (pt_chain ho ho' ha hb hc hm) fun _ _ _ q => tTest_of (fun _ _ _ e => mChn_bool hg e) (fun _ _ _ q => opChn hr hr' q) q

/-! ### and, or, not, if -/
def asK (m : Mn B) : Mn Bool := fun ρ => (m ρ).bind fun b ρ' => match b with
  | .val (.bool k) => .ok k ρ'
  | _ => .bad
def mAnd (ma mb : Mn B) : Mn B := fun ρ => (asK ma ρ).bind fun k ρ1 => if k = true then mb ρ1 else .ok (.val (.bool false)) ρ1
def mOr (ma mb : Mn B) : Mn B := fun ρ => (asK ma ρ).bind fun k ρ1 => if k = true then .ok (.val (.bool true)) ρ1 else mb ρ1
def mNot (ma : Mn Bool) : Mn B := fun ρ => (ma ρ).bind fun k ρ1 => .ok (.val (.bool (!k))) ρ1
def mIf (mc : Mn Bool) (ma mb : Mn B) : Mn B := fun ρ => (mc ρ).bind fun k ρ1 => if k = true then ma ρ1 else mb ρ1
theorem asK_of {m : Mn B} {σ H} {P : Bool → Env' → Prop} {ρ F hid} {QV : VK} (h : REnd X.K W σ H F hid P (asK m ρ)) (w : ∀ k ρ', P k ρ' → ∀ v H' F', Keep H (UF F) H' (UF F') → SOk X.K H' σ ρ' F' hid → v = .bl k → QV v H') : REnd X.K W σ H F hid (okB X.K σ H F hid QV) (m ρ) := by
  refine REnd.mono Keep.refl (fun b ρ1 q => ?_) (REnd.bind h)
  intro v H' F' fp k s o
  split at q
  · rename_i kk
    have o' : DV X.K _ v (.bool kk) := o
    cases o'
    exact w kk ρ1 q _ H' F' (k.less fun _ z => .inl z) (s.drop fun _ z => .inl z) rfl
  · exact q.elim
theorem em_and {a b : Expr} {rest : List Expr} {ma mb : Mn B} {pos : Pos} (ha : EM X W a ma) (hb : EM X W (.BoolOp .And (b :: rest) pos) mb) : EM X W (.BoolOp .And (a :: b :: rest) pos) (mAnd ma mb) :=
  PE.wk (pe_and ha hb) fun σ H Q q => by
    obtain ⟨ρ, F, hid, s, q⟩ := q
    refine ⟨ρ, F, hid, s, asK_of (REnd.bind q) fun k ρ1 q v H1 F1 k1 s1 e => ⟨k, e, ?_⟩⟩
    cases k with
    | true =>
      rw [if_pos rfl] at q ⊢
      exact ⟨ρ1, F1, hid, s1, REnd.mono k1 (fun _ _ z => okB.after k1 z) q⟩
    | false =>
      rw [if_neg Bool.false_ne_true] at q ⊢
      have q' : okB X.K σ H F hid Q (.val (.bool false)) ρ1 := q
      exact okB.val s1 (q'.after k1) (.bl _)
theorem em_or {a b : Expr} {rest : List Expr} {ma mb : Mn B} {pos : Pos} (ha : EM X W a ma) (hb : EM X W (.BoolOp .Or (b :: rest) pos) mb) : EM X W (.BoolOp .Or (a :: b :: rest) pos) (mOr ma mb) :=
  PE.wk (pe_or ha hb) fun σ H Q q => by
    obtain ⟨ρ, F, hid, s, q⟩ := q
    refine ⟨ρ, F, hid, s, asK_of (REnd.bind q) fun k ρ1 q v H1 F1 k1 s1 e => ⟨k, e, ?_⟩⟩
    cases k with
    | false =>
      rw [if_neg Bool.false_ne_true] at q ⊢
      exact ⟨ρ1, F1, hid, s1, REnd.mono k1 (fun _ _ z => okB.after k1 z) q⟩
    | true =>
      rw [if_pos rfl] at q ⊢
      have q' : okB X.K σ H F hid Q (.val (.bool true)) ρ1 := q
      exact okB.val s1 (q'.after k1) (.bl _)
theorem em_one {op} {a : Expr} {ma : Mn B} {pos : Pos} (ha : EM X W a ma) : EM X W (.BoolOp op [a] pos) ma := pe_one ha
theorem em_ite {c a b : Expr} {mc : Mn Bool} {ma mb : Mn B} {pos : Pos} (hc : ET X W c mc) (ha : EM X W a ma) (hb : EM X W b mb) : EM X W (.IfExp c a b pos) (mIf mc ma mb) :=
  PE.wk (pe_ifExp hc ha hb) fun σ H Q q => by
    obtain ⟨ρ, F, hid, s, q⟩ := q
    refine ⟨ρ, F, hid, s, REnd.mono Keep.refl (fun k ρ1 q H1 F1 k1 s1 => ?_) (REnd.bind q)⟩
    cases k with
    | true =>
      rw [if_pos rfl] at q ⊢
      exact ⟨ρ1, F1, hid, s1, REnd.mono k1 (fun _ _ z => okB.after k1 z) q⟩
    | false =>
      rw [if_neg Bool.false_ne_true] at q ⊢
      exact ⟨ρ1, F1, hid, s1, REnd.mono k1 (fun _ _ z => okB.after k1 z) q⟩
/-- not, as a value -/
theorem em_not {a : Expr} {m : Mn B} {pos : Pos} (ha : EM X W a m) : EM X W (.UnaryOp .Not a pos) (mNot (asT m)) := by
  refine ⟨fun pins s σ H Q I q => ?_⟩
  obtain ⟨ρ, F, hid, so, q⟩ := q
  have hd : tD X.K W (asD m) σ H (fun x H1 => ∃ k, TruV X.K x H1 k ∧ Q (.bl (!k)) H1) := by
    refine ⟨ρ, F, hid, so, REnd.mono Keep.refl (fun d ρ1 q v H1 F1 k1 s1 q1 => ?_) (REnd.bind (REnd.bind q))⟩
    cases et : truth d with
    | none => rw [et] at q; exact q.elim
    | some k =>
      rw [et] at q
      have q3 : okB X.K σ H F hid Q (.val (.bool (!k))) ρ1 := q
      exact ⟨k, truth_ok wo_low q1 et, okB.val s1 (q3.after k1) (.bl _)⟩
  refine UnaryOp_ (thn (ha.d.run pins s σ H _ I hd) fun v s1 ⟨x, H1, I1, r1, k, tk, q1⟩ => ?_)
  exact not_of (thn (tru_ok pins s1 σ H1 x v (fun b H2 => b = k ∧ H2 = H1) I1 r1 ⟨k, tk, rfl, rfl⟩) fun b s2 ⟨H2, I2, e1, e2⟩ => by
    subst e1; subst e2
    exact ⟨.bl (!b), _, I2, rfl, q1⟩)
/-- tests of and, or, not -/
def tAndM (ma mb : Mn Bool) : Mn Bool := fun ρ => (ma ρ).bind fun k ρ1 => if k = true then mb ρ1 else .ok false ρ1
def tOrM (ma mb : Mn Bool) : Mn Bool := fun ρ => (ma ρ).bind fun k ρ1 => if k = true then .ok true ρ1 else mb ρ1
def tNotM (ma : Mn Bool) : Mn Bool := fun ρ => (ma ρ).bind fun k ρ1 => .ok (!k) ρ1
abbrev EW (X : Cx) (W : WX) (e : Expr) (m : Mn Bool) : Prop := PW X e (tT X.K W m)
theorem PW.wk {X : Cx} {e : Expr} {t t' : TT} (h : PW X e t) (w : ∀ σ H Q, t' σ H Q → t σ H Q) : PW X e t' := ⟨fun wh pins s σ H Q I q => h.run wh pins s σ H Q I (w σ H Q q)⟩
theorem ew_and1 {a : Expr} {ma : Mn Bool} {pos : Pos} (ha : ET X W a ma) : EW X W (.BoolOp .And [a] pos) ma := pw_and1 ha
theorem ew_or1 {a : Expr} {ma : Mn Bool} {pos : Pos} (ha : ET X W a ma) : EW X W (.BoolOp .Or [a] pos) ma := pw_or1 ha
theorem ew_and {a b : Expr} {rest : List Expr} {ma mb : Mn Bool} {pos : Pos} (ha : ET X W a ma) (hb : EW X W (.BoolOp .And (b :: rest) pos) mb) : EW X W (.BoolOp .And (a :: b :: rest) pos) (tAndM ma mb) :=
  PW.wk (pw_and ha hb) fun σ H Q q => by
    obtain ⟨ρ, F, hid, s, q⟩ := q
    refine ⟨ρ, F, hid, s, REnd.mono Keep.refl (fun k ρ1 q H1 F1 k1 s1 => ?_) (REnd.bind q)⟩
    cases k with
    | true =>
      rw [if_pos rfl] at q ⊢
      exact ⟨ρ1, F1, hid, s1, REnd.mono k1 (fun _ _ z => okT.after k1 z) q⟩
    | false =>
      rw [if_neg Bool.false_ne_true] at q ⊢
      have q' : okT X.K σ H F hid Q false ρ1 := q
      exact q' H1 F1 k1 s1
theorem ew_or {a b : Expr} {rest : List Expr} {ma mb : Mn Bool} {pos : Pos} (ha : ET X W a ma) (hb : EW X W (.BoolOp .Or (b :: rest) pos) mb) : EW X W (.BoolOp .Or (a :: b :: rest) pos) (tOrM ma mb) :=
  PW.wk (pw_or ha hb) fun σ H Q q => by
    obtain ⟨ρ, F, hid, s, q⟩ := q
    refine ⟨ρ, F, hid, s, REnd.mono Keep.refl (fun k ρ1 q H1 F1 k1 s1 => ?_) (REnd.bind q)⟩
    cases k with
    | false =>
      rw [if_neg Bool.false_ne_true] at q ⊢
      exact ⟨ρ1, F1, hid, s1, REnd.mono k1 (fun _ _ z => okT.after k1 z) q⟩
    | true =>
      rw [if_pos rfl] at q ⊢
      have q' : okT X.K σ H F hid Q true ρ1 := q
      exact q' H1 F1 k1 s1
theorem EW.t {e : Expr} {m : Mn Bool} (h : EW X W e m) : ET X W e m := PW.pt h
theorem et_not {a : Expr} {ma : Mn Bool} {pos : Pos} (ha : ET X W a ma) : ET X W (.UnaryOp .Not a pos) (tNotM ma) :=
  PT.wk (pt_not ha) fun σ H Q q => by
    obtain ⟨ρ, F, hid, s, q⟩ := q
    refine ⟨ρ, F, hid, s, REnd.mono Keep.refl (fun k ρ1 q H1 F1 k1 s1 => ?_) (REnd.bind q)⟩
    have q' : okT X.K σ H F hid Q (!k) ρ1 := q
    exact q' H1 F1 k1 s1

/-! ### displays -/
def mTup (ma : Mn (List PyData)) : Mn B := fun ρ => (ma ρ).bind fun ds ρ1 => if ds.length ≤ 4096 then .ok (.val (.tuple ds)) ρ1 else .bad
def mLst (ma : Mn (List PyData)) : Mn B := fun ρ => (ma ρ).bind fun ds ρ1 => if ds.length ≤ 4096 then .ok (.lst ds) ρ1 else .bad
theorem em_tup {es : List Expr} {ma : Mn (List PyData)} {k : Nat} {pos : Pos} (h : EA X W es ma) : EM X W (.Tuple es k pos) (mTup ma) :=
  PE.wk (pe_tup h) fun σ H Q q => by
    obtain ⟨ρ, F, hid, s, q⟩ := q
    refine ⟨ρ, F, hid, s, REnd.mono Keep.refl (fun ds ρ1 q vs H1 F1 k1 s1 q1 => ?_) (REnd.bind q)⟩
    split at q
    · rename_i hz
      have q' : okB X.K σ H F hid Q (.val (.tuple ds)) ρ1 := q
      exact ⟨by rw [sl_line, q1.len]; omega, fun p hp => (okB.ret s1 (q'.after k1)).tup s1.domU q1 hp⟩
    · exact q.elim
theorem em_lst {es : List Expr} {ma : Mn (List PyData)} {pos : Pos} (h : EA X W es ma) : EM X W (.List es pos) (mLst ma) :=
  PE.wk (pe_lst h) fun σ H Q q => by
    obtain ⟨ρ, F, hid, s, q⟩ := q
    refine ⟨ρ, F, hid, s, REnd.mono Keep.refl (fun ds ρ1 q vs H1 F1 k1 s1 q1 => ?_) (REnd.bind q)⟩
    split at q
    · rename_i hz
      have q' : okB X.K σ H F hid Q (.lst ds) ρ1 := q
      exact ⟨by rw [sl_line, q1.len]; omega, fun p hp => (okB.ret s1 (q'.after k1)).lst s1.domU q1 hp⟩
    · exact q.elim
theorem ea_nil : EA X W [] mNil := PA.wk pa_nil fun _ _ _ q => aNil q
theorem ea_cons {e : Expr} {es : List Expr} {m : Mn PyData} {ma : Mn (List PyData)} (he : ED X W e m) (hr : EA X W es ma) (hs : starEach (e :: es) X.env = (false, eval e X.env) :: starEach es X.env) : EA X W (e :: es) (mCons m ma) :=
  PA.wk (pa_cons he hr hs) fun _ _ _ q => aCons q

/-! ### slices -/
def mO (o : Option (Mn PyData)) : Mn (Option Int) := fun ρ => match o with
  | none => .ok none ρ
  | some m => (m ρ).bind fun d ρ1 => match d with
    | .int i => .ok (some i) ρ1
    | _ => .bad
def okO (K : PySem.W.Frag) (σ : Slots) (H : Hp) (F : Ow) (hid : Addr → Prop) (Q : Option Int → Hp → Prop) (b : Option Int) (ρ' : Env') : Prop :=
  ∀ H' F', Keep H (UF F) H' (UF F') → SOk K H' σ ρ' F' hid → Q b H'
def tO (K : PySem.W.Frag) (W : WX) (m : Mn (Option Int)) : TO := fun σ H Q => ∃ ρ F hid, SOk K H σ ρ F hid ∧ REnd K W σ H F hid (okO K σ H F hid Q) (m ρ)
theorem PO.wk {X : Cx} {e : Option Expr} {t t' : TO} (h : PO X e t) (w : ∀ σ H Q, t' σ H Q → t σ H Q) : PO X e t' := ⟨fun pins s σ H Q I q => h.run pins s σ H Q I (w σ H Q q)⟩
abbrev EO (X : Cx) (W : WX) (e : Option Expr) (m : Mn (Option Int)) : Prop := PO X e (tO X.K W m)
theorem eo_none : EO X W none (mO none) := PO.wk po_none fun σ H Q q => by
  obtain ⟨ρ, F, hid, s, q⟩ := q
  exact q H F Keep.refl s
theorem eo_some {e : Expr} {m : Mn PyData} (h : ED X W e m) : EO X W (some e) (mO (some m)) := PO.wk (po_some h) fun σ H Q q => by
  obtain ⟨ρ, F, hid, s, q⟩ := q
  refine ⟨ρ, F, hid, s, REnd.mono Keep.refl (fun d ρ1 q v H1 F1 k1 s1 q1 => ?_) (REnd.bind q)⟩
  split at q
  · rename_i i
    have q' : okO X.K σ H F hid Q (some i) ρ1 := q
    exact ⟨i, inv_int q1, q' H1 F1 k1 s1⟩
  · exact q.elim
def cutD (xs : List PyData) (lo hi : Option Int) : List PyData := (xs.drop (HT.sIx xs.length 0 lo)).take (HT.sIx xs.length xs.length hi - HT.sIx xs.length 0 lo)
def gSl (d : PyData) (lo hi : Option Int) : Option B := match d with
  | .tuple xs => some (.val (.tuple (cutD xs lo hi)))
  | .list xs => some (.lst (cutD xs lo hi))
  | _ => none
def mSl (ma : Mn PyData) (ml mh : Mn (Option Int)) : Mn B := fun ρ => (ma ρ).bind fun d ρ1 => (ml ρ1).bind fun lo ρ2 => (mh ρ2).bind fun hi ρ3 => Res.of (gSl d lo hi) ρ3
theorem DVs.cut {K : PySem.W.Frag} {H : Hp} {vs : List V} {ds : List PyData} (h : DVs K H vs ds) (lo hi : Option Int) : DVs K H (cutV vs lo hi) (cutD ds lo hi) := by
  unfold cutV cutD
  rw [h.len]
  exact (h.drop _).take _
theorem em_slc {a : Expr} {lo hi : Option Expr} {ma : Mn PyData} {ml mh : Mn (Option Int)} {p2 pos : Pos} (ha : ED X W a ma) (hl : EO X W lo ml) (hh : EO X W hi mh) : EM X W (.Subscript a (.Slice lo hi none p2) pos) (mSl ma ml mh) :=
  PE.wk (pe_slice (SlR.or sl_tupA sl_list) ha hl hh) fun σ H Q q => by
    obtain ⟨ρ, F, hid, s, q⟩ := q
    refine ⟨ρ, F, hid, s, REnd.mono Keep.refl (fun d ρ1 q v H1 F1 k1 s1 q1 => ?_) (REnd.bind q)⟩
    refine ⟨ρ1, F1, hid, s1, REnd.mono k1 (fun lo ρ2 q H2 F2 k2 s2 => ?_) (REnd.bind q)⟩
    refine ⟨ρ2, F2, hid, s2, REnd.mono (k1.trans k2) (fun hi ρ3 q H3 F3 k3 s3 => ?_) (REnd.bind q)⟩
    have v3 : DV X.K (wo H3 (Un2 F3 hid)) v d := q1.mono ((k2.trans k3).wo fun _ _ _ _ z => z)
    have k13 := (k1.trans k2).trans k3
    cases eg : gSl d lo hi with
    | none => rw [eg] at q; exact q.elim
    | some b =>
      rw [eg] at q
      have q' : okB X.K σ H F hid Q b ρ3 := q
      have r := okB.ret s3 (q'.after k13)
      unfold gSl at eg
      split at eg
      · cases eg
        obtain ⟨p, vs, rfl, sa, da⟩ := inv_DVs v3
        refine .inl ⟨p, vs, rfl, seqT_low sa, fun hw => ?_, fun _ p2 hp => r.tup s3.domU (da.cut lo hi) hp⟩
        have e2 := da.cut lo hi
        unfold cutV at e2
        rw [hw.1, hw.2, List.drop_zero, Nat.sub_zero, List.take_length] at e2
        exact r.here (.tup sa e2)
      · cases eg
        obtain ⟨p, vs, rfl, sa, da⟩ := inv_DVl v3
        exact .inr ⟨p, vs, rfl, SqL.of (lst_low sa), fun p2 hp => r.lst s3.domU (da.cut lo hi) hp⟩
      · cases eg
end
end ML
/-! # ML5 -/
set_option Elab.async false
set_option linter.all false
set_option maxRecDepth 100000
namespace ML
open PySem PySem.Spec PyProof.Rows L2
/-! ## values of any kind, frozen -/
def VB (K : PySem.W.Frag) (Hf : Hp) (v : V) (b : B) : Prop := OwnB K Hf Hf v b fun _ => False
section
variable {K : PySem.W.Frag} {W : WX} {σ : Slots} {H H' Hf Hf' : Hp} {F : Ow} {hid : Addr → Prop} {v : V} {b : B}
theorem VB.mono (h : Same Hf Hf') (q : VB K Hf v b) : VB K Hf' v b := OwnB.mono h (fun _ _ p => p.elim) q
theorem VB.own {P : Addr → Prop} (q : VB K Hf v b) : OwnB K Hf H v b P := by
  cases b with
  | val d => exact q
  | lst ds =>
    obtain ⟨_, _, _, p, _⟩ := q
    exact p.elim
  | exc c fs => exact q
  | scr ns => exact q
theorem OwnB.vb {P : Addr → Prop} (hl : ∀ ds, b ≠ .lst ds) (q : OwnB K Hf H v b P) : VB K Hf v b := by
  cases b with
  | val d => exact q
  | lst ds => exact absurd rfl (hl ds)
  | exc c fs => exact q
  | scr ns => exact q
def frz : B → B
  | .lst ds => .val (.list ds)
  | b => b
def asV (m : Mn B) : Mn B := fun ρ => (m ρ).bind fun b ρ' => .ok (frz b) ρ'
def okV (K : PySem.W.Frag) (σ : Slots) (H : Hp) (F : Ow) (hid : Addr → Prop) (Q : VK) (b : B) (ρ' : Env') : Prop :=
  ∀ v H' F', Keep H (UF F) H' (UF F') → SOk K H' σ ρ' F' hid → VB K (wo H' (Un2 F' hid)) v b → Q v H'
def tV (K : PySem.W.Frag) (W : WX) (m : Mn B) : TE := fun σ H Q => ∃ ρ F hid, SOk K H σ ρ F hid ∧ REnd K W σ H F hid (okV K σ H F hid Q) (m ρ)
theorem asV_of {m : Mn B} {Q : VK} (h : tV K W (asV m) σ H Q) : tM K W m σ H Q := by
  obtain ⟨ρ, F, hid, s, h⟩ := h
  refine ⟨ρ, F, hid, s, REnd.mono Keep.refl (fun b ρ' q => ?_) (REnd.bind h)⟩
  have q' : okV K σ H F hid Q (frz b) ρ' := q
  intro v H' F' fp k s' o
  have nf : ∀ a, hid a → ¬ fp a := fun a z p => by
    obtain ⟨o2, e2⟩ := s.dom a (.inr z)
    exact (k a o2 e2 fun ⟨i, f⟩ => s.hidden i a f z).2 (.inr p)
  have sm : Same (wo H' (Un2 F' fun a => hid a ∨ fp a)) (wo H' (Un2 F' hid)) := wo_same (fun _ _ e => e) fun a _ _ z => z.imp (fun z => z) fun z => .inl z
  refine q' v H' F' (k.less fun _ z => .inl z) (s'.drop fun _ z => .inl z) ?_
  by_cases hl : ∃ ds, b = .lst ds
  · obtain ⟨ds, rfl⟩ := hl
    exact o.froz rfl sm fun a o p e => wo_iff.mpr ⟨fun z => by
      rcases z with ⟨i, z⟩ | z
      · exact s'.hidden i a z (.inr p)
      · exact nf a z p, e⟩
  · have hl' : ∀ ds, b ≠ .lst ds := fun ds e => hl ⟨ds, e⟩
    have ef : frz b = b := by
      cases b <;> first | rfl | exact absurd rfl (hl' _)
    rw [ef]
    exact (o.vb hl').mono sm
end

/-! ## arguments -/
inductive Ar where
  | rf (i : Nat)
  | vl (m : Mn B)
def mArgs : List Ar → Mn (List (Option B))
  | [], ρ => .ok [] ρ
  | .rf i :: as, ρ => match ρ[i]? with
    | some (some _) => (mArgs as ρ).bind fun bs ρ1 => .ok (none :: bs) ρ1
    | _ => .bad
  | .vl m :: as, ρ => (asV m ρ).bind fun b ρ1 => (mArgs as ρ1).bind fun bs ρ2 => .ok (some b :: bs) ρ2
inductive ArgsOk (K : PySem.W.Frag) (Hf : Hp) (σ : Slots) : List Ar → List V → List (Option B) → Prop
  | nil : ArgsOk K Hf σ [] [] []
  | rf {i : Nat} {v : V} {as vs bs} : σ[i]? = some (some v) → ArgsOk K Hf σ as vs bs → ArgsOk K Hf σ (.rf i :: as) (v :: vs) (none :: bs)
  | vl {m : Mn B} {v : V} {b : B} {as vs bs} : VB K Hf v b → ArgsOk K Hf σ as vs bs → ArgsOk K Hf σ (.vl m :: as) (v :: vs) (some b :: bs)
theorem ArgsOk.mono {K : PySem.W.Frag} {Hf Hf' : Hp} {σ : Slots} (h : Same Hf Hf') : ∀ {as : List Ar} {vs : List V} {bs : List (Option B)}, ArgsOk K Hf σ as vs bs → ArgsOk K Hf' σ as vs bs
  | _, _, _, .nil => .nil
  | _, _, _, .rf e r => .rf e (ArgsOk.mono h r)
  | _, _, _, .vl q r => .vl (q.mono h) (ArgsOk.mono h r)
def okR (K : PySem.W.Frag) (as : List Ar) (σ : Slots) (H : Hp) (F : Ow) (hid : Addr → Prop) (Q : List V → Hp → Prop) (bs : List (Option B)) (ρ' : Env') : Prop :=
  ∀ vs H' F', Keep H (UF F) H' (UF F') → SOk K H' σ ρ' F' hid → ArgsOk K (wo H' (Un2 F' hid)) σ as vs bs → Q vs H'
def tR (K : PySem.W.Frag) (W : WX) (as : List Ar) : TA := fun σ H Q => ∃ ρ F hid, SOk K H σ ρ F hid ∧ REnd K W σ H F hid (okR K as σ H F hid Q) (mArgs as ρ)
abbrev ER (X : Cx) (W : WX) (es : List Expr) (as : List Ar) : Prop := PA X es (tR X.K W as)
section
variable {X : Cx} {W : WX}
theorem er_nil : ER X W [] [] := PA.wk pa_nil fun σ H Q q => by
  obtain ⟨ρ, F, hid, s, q⟩ := q
  have q' : okR X.K [] σ H F hid Q [] ρ := q
  exact q' [] H F Keep.refl s .nil
theorem er_vl {e : Expr} {es : List Expr} {m : Mn B} {as : List Ar} (he : EM X W e m) (hr : ER X W es as) (hs : starEach (e :: es) X.env = (false, eval e X.env) :: starEach es X.env := by rfl) : ER X W (e :: es) (.vl m :: as) :=
  PA.wk (pa_cons (PE.wk he fun σ H Q q => asV_of q) hr hs) fun σ H Q q => by
    obtain ⟨ρ, F, hid, s, q⟩ := q
    refine ⟨ρ, F, hid, s, REnd.mono Keep.refl (fun b ρ1 q v H1 F1 k1 s1 q1 => ?_) (REnd.bind q)⟩
    refine ⟨ρ1, F1, hid, s1, REnd.mono k1 (fun bs ρ2 q' vs H2 F2 k2 s2 q2 => ?_) (REnd.bind q)⟩
    have q3 : okR X.K (.vl m :: as) σ H F hid Q (some b :: bs) ρ2 := q'
    exact q3 (v :: vs) H2 F2 (k1.trans k2) s2 (.vl (q1.mono (k2.wo fun _ _ _ _ z => z)) q2)
theorem er_rf {x : Str} {i : Nat} {pos : Pos} {es : List Expr} {as : List Ar} (hN : X.N[i]? = some x) (hv : Vis X.env.scope x) (hd : (x == ("__debug__" : Str)) = false) (hc : (x == ("__classdict__" : Str)) = false) (hr : ER X W es as) (hs : starEach (.Name x pos :: es) X.env = (false, eval (.Name x pos) X.env) :: starEach es X.env := by rfl) :
    ER X W (.Name x pos :: es) (.rf i :: as) := by
  refine PA.wk (pa_cons (pe_var hN hv hd hc) hr hs) fun σ H Q q => ?_
  obtain ⟨ρ, F, hid, so, q⟩ := q
  unfold mArgs at q
  split at q
  · rename_i b eb
    obtain ⟨v, ev, _⟩ := so.at_ i b eb
    refine ⟨v, ev, ρ, F, hid, so, REnd.mono Keep.refl (fun bs ρ1 q vs H1 F1 k1 s1 q1 => ?_) (REnd.bind q)⟩
    have q3 : okR X.K (.rf i :: as) σ H F hid Q (none :: bs) ρ1 := q
    exact q3 (v :: vs) H1 F1 k1 s1 (.rf ev q1)
  · exact q.elim
end

/-! ## calls: what a callee is lent -/
abbrev Fn := Mn B
def rfs : List Ar → List Nat
  | [] => []
  | .rf i :: as => i :: rfs as
  | .vl _ :: as => rfs as
def fillA : List Ar → List (Option B) → Env' → Env'
  | .rf i :: as, _ :: bs, ρ => (ρ[i]?).join :: fillA as bs ρ
  | .vl _ :: as, b :: bs, ρ => b :: fillA as bs ρ
  | _, _, _ => []
def backA : List Ar → Env' → Env' → Env'
  | .rf i :: as, x :: xs, ρ => backA as xs (ρ.set i x)
  | .vl _ :: as, _ :: xs, ρ => backA as xs ρ
  | _, _, ρ => ρ
def mCall (fn : Fn) (as : List Ar) : Mn B := fun ρ => (mArgs as ρ).bind fun bs ρ1 => match fn (fillA as bs ρ1) with
  | .ok b ρf => .ok b (backA as ρf ρ1)
  | .exc c fs ρf => .exc c fs (backA as ρf ρ1)
  | .bad => .bad
section
theorem mem_rfs {i : Nat} : ∀ {as : List Ar}, i ∈ rfs as ↔ ∃ j : Nat, as[j]? = some (Ar.rf i)
  | [] => by simp [rfs]
  | .rf k :: as => by
    have ih := @mem_rfs i as
    simp only [rfs, List.mem_cons, ih]
    constructor
    · rintro (rfl | ⟨j, e⟩)
      · exact ⟨0, rfl⟩
      · exact ⟨j + 1, by simpa using e⟩
    · rintro ⟨j, e⟩
      cases j with
      | zero => left; simp at e; exact e.symm
      | succ j => right; exact ⟨j, by simpa using e⟩
  | .vl m :: as => by
    have ih := @mem_rfs i as
    simp only [rfs, ih]
    constructor
    · rintro ⟨j, e⟩
      exact ⟨j + 1, by simpa using e⟩
    · rintro ⟨j, e⟩
      cases j with
      | zero => simp at e
      | succ j => exact ⟨j, by simpa using e⟩
theorem rfs_uniq {i : Nat} : ∀ {as : List Ar} {j j' : Nat}, (rfs as).Nodup → as[j]? = some (.rf i) → as[j']? = some (.rf i) → j = j'
  | [], _, _, _, e, _ => by simp at e
  | a :: as, 0, 0, _, _, _ => rfl
  | a :: as, 0, j' + 1, nd, e, e' => by
    simp at e e'
    subst e
    simp only [rfs, List.nodup_cons] at nd
    exact absurd (mem_rfs.mpr ⟨j', e'⟩) nd.1
  | a :: as, j + 1, 0, nd, e, e' => by
    simp at e e'
    subst e'
    simp only [rfs, List.nodup_cons] at nd
    exact absurd (mem_rfs.mpr ⟨j, e⟩) nd.1
  | a :: as, j + 1, j' + 1, nd, e, e' => by
    simp at e e'
    have nd' : (rfs as).Nodup := by
      cases a with
      | rf k => exact (List.nodup_cons.mp nd).2
      | vl m => exact nd
    rw [rfs_uniq nd' e e']
theorem back_len : ∀ {as : List Ar} {xs ρ : Env'}, (backA as xs ρ).length = ρ.length
  | [], _, _ => by simp [backA]
  | .rf i :: as, [], _ => by simp [backA]
  | .rf i :: as, x :: xs, ρ => by simp only [backA]; rw [back_len, List.length_set]
  | .vl m :: as, [], _ => by simp [backA]
  | .vl m :: as, x :: xs, ρ => by simp only [backA]; rw [back_len]
theorem back_out {i : Nat} : ∀ {as : List Ar} {xs ρ : Env'}, i ∉ rfs as → (backA as xs ρ)[i]? = ρ[i]?
  | [], _, _, _ => by simp [backA]
  | .rf k :: as, [], _, _ => by simp [backA]
  | .rf k :: as, x :: xs, ρ, h => by
    simp only [rfs, List.mem_cons, not_or] at h
    simp only [backA]
    rw [back_out h.2, List.getElem?_set_ne (fun e => h.1 e.symm)]
  | .vl m :: as, [], _, _ => by simp [backA]
  | .vl m :: as, x :: xs, ρ, h => by
    simp only [backA]
    exact back_out h
theorem back_at {i : Nat} : ∀ {as : List Ar} {xs ρ : Env'} {j : Nat}, (rfs as).Nodup → xs.length = as.length → as[j]? = some (.rf i) → i < ρ.length → (backA as xs ρ)[i]? = xs[j]?
  | [], _, _, _, _, _, e, _ => by simp at e
  | .rf k :: as, [], _, _, _, hl, _, _ => by simp at hl
  | .rf k :: as, x :: xs, ρ, 0, nd, hl, e, hi => by
    simp at e
    subst e
    simp only [backA]
    rw [back_out (List.nodup_cons.mp nd).1, List.getElem?_set_self hi]
    rfl
  | .rf k :: as, x :: xs, ρ, j + 1, nd, hl, e, hi => by
    simp only [backA]
    rw [back_at (j := j) (List.nodup_cons.mp nd).2 (by simpa using hl) (by simpa using e) (by rw [List.length_set]; exact hi)]
    rfl
  | .vl m :: as, [], _, _, _, hl, _, _ => by simp at hl
  | .vl m :: as, x :: xs, ρ, 0, nd, hl, e, hi => by simp at e
  | .vl m :: as, x :: xs, ρ, j + 1, nd, hl, e, hi => by
    simp only [backA]
    rw [back_at (as := as) (xs := xs) (j := j) nd (by simpa using hl) (by simpa using e) hi]
    rfl
variable {K : PySem.W.Frag} {Hf : Hp} {σ : Slots}
theorem ArgsOk.lens : ∀ {as : List Ar} {vs : List V} {bs : List (Option B)}, ArgsOk K Hf σ as vs bs → vs.length = as.length ∧ bs.length = as.length
  | _, _, _, .nil => ⟨rfl, rfl⟩
  | _, _, _, .rf _ r => ⟨congrArg (· + 1) r.lens.1, congrArg (· + 1) r.lens.2⟩
  | _, _, _, .vl _ r => ⟨congrArg (· + 1) r.lens.1, congrArg (· + 1) r.lens.2⟩
theorem ArgsOk.flen {ρ : Env'} : ∀ {as : List Ar} {vs : List V} {bs : List (Option B)}, ArgsOk K Hf σ as vs bs → (fillA as bs ρ).length = as.length
  | _, _, _, .nil => rfl
  | _, _, _, .rf _ r => congrArg (· + 1) r.flen
  | _, _, _, .vl _ r => congrArg (· + 1) r.flen
/-- at each place -/
theorem ArgsOk.place {ρ : Env'} : ∀ {as : List Ar} {vs : List V} {bs : List (Option B)} {j : Nat} {b : B}, ArgsOk K Hf σ as vs bs → (fillA as bs ρ)[j]? = some (some b) →
    ∃ v, vs[j]? = some v ∧ ((∃ i, as[j]? = some (.rf i) ∧ σ[i]? = some (some v) ∧ ρ[i]? = some (some b)) ∨ ((∀ i, as[j]? ≠ some (.rf i)) ∧ VB K Hf v b))
  | _, _, _, j, b, .nil, e => by simp [fillA] at e
  | _, _, _, 0, b, .rf (i := i) (v := v) e0 r, e => by
    simp only [fillA, List.getElem?_cons_zero, Option.some.injEq] at e
    refine ⟨v, rfl, .inl ⟨i, rfl, e0, ?_⟩⟩
    cases q : ρ[i]? with
    | none => rw [q] at e; cases e
    | some x => rw [q] at e; exact congrArg some e
  | _, _, _, j + 1, b, .rf (i := i) (v := v) e0 r, e => by
    simp only [fillA, List.getElem?_cons_succ] at e
    simpa using r.place e
  | _, _, _, 0, b, .vl (v := v) q r, e => by
    simp only [fillA, List.getElem?_cons_zero, Option.some.injEq] at e
    subst e
    exact ⟨v, rfl, .inr ⟨fun i z => by simp at z, q⟩⟩
  | _, _, _, j + 1, b, .vl (v := v) q r, e => by
    simp only [fillA, List.getElem?_cons_succ] at e
    simpa using r.place e
theorem ArgsOk.ref : ∀ {as : List Ar} {vs : List V} {bs : List (Option B)} {i j : Nat}, ArgsOk K Hf σ as vs bs → as[j]? = some (.rf i) → ∃ v, vs[j]? = some v ∧ σ[i]? = some (some v)
  | _, _, _, _, _, .nil, e => by simp at e
  | _, _, _, _, 0, .rf e0 r, e => by
    simp at e
    subst e
    exact ⟨_, rfl, e0⟩
  | _, _, _, _, j + 1, .rf e0 r, e => by simpa using r.ref (by simpa using e)
  | _, _, _, _, 0, .vl q r, e => by simp at e
  | _, _, _, _, j + 1, .vl q r, e => by simpa using r.ref (by simpa using e)
end

section
variable {K : PySem.W.Frag} {W : WX} {σ : Slots} {H1 : Hp} {F1 : Ow} {hid : Addr → Prop} {ρ1 : Env'} {as : List Ar} {vs : List V} {bs : List (Option B)}
def lentF (as : List Ar) (F1 : Ow) : Ow := fun j a => ∃ i, as[j]? = some (.rf i) ∧ F1 i a
def lentH (as : List Ar) (F1 : Ow) (hid : Addr → Prop) : Addr → Prop := fun a => Un2 F1 hid a ∧ ¬ UF (lentF as F1) a
theorem lent_all {a : Addr} : Un2 (lentF as F1) (lentH as F1 hid) a ↔ Un2 F1 hid a := by
  constructor
  · rintro (⟨j, i, _, f⟩ | h)
    · exact .inl ⟨i, f⟩
    · exact h.1
  · intro h
    by_cases q : UF (lentF as F1) a
    · exact .inl q
    · exact .inr ⟨h, q⟩
theorem wo_iff_same {H : Hp} {O O' : Addr → Prop} (h : ∀ a, O a ↔ O' a) : Same (wo H O) (wo H O') := wo_same (fun _ _ e => e) fun a _ _ z => (h a).mpr z
theorem SOk.lend (s : SOk K H1 σ ρ1 F1 hid) (nd : (rfs as).Nodup) (ok : ArgsOk K (wo H1 (Un2 F1 hid)) σ as vs bs) : SOk K H1 (vs.map some) (fillA as bs ρ1) (lentF as F1) (lentH as F1 hid) where
  dom := fun a z => s.dom a (lent_all.mp z)
  apart := fun j j' a ⟨i, e, f⟩ ⟨i', e', f'⟩ => by
    have := s.apart i i' a f f'
    subst this
    exact rfs_uniq nd e e'
  hidden := fun j a f z => z.2 ⟨j, f⟩
  len := by rw [ok.flen, List.length_map, ok.lens.1]
  at_ := fun j b e => by
    obtain ⟨v, ev, q⟩ := ok.place e
    refine ⟨v, by rw [List.getElem?_map, ev]; rfl, ?_⟩
    have sm : Same (wo H1 (Un2 F1 hid)) (wo H1 (Un2 (lentF as F1) (lentH as F1 hid))) := wo_iff_same fun a => lent_all.symm
    rcases q with ⟨i, ea, es, er⟩ | ⟨_, q⟩
    · obtain ⟨w, ew, o⟩ := s.at_ i b er
      rw [es] at ew
      cases ew
      exact (o.mono (H' := H1) sm fun _ _ _ e => e).sub fun a f => ⟨i, ea, f⟩
    · exact (q.mono sm).own
/-- what the callee leaves, seen by the caller -/
def backF (as : List Ar) (F1 F2 : Ow) : Ow := fun i a => (∃ j : Nat, as[j]? = some (Ar.rf i) ∧ F2 j a) ∨ ((∀ j : Nat, as[j]? ≠ some (Ar.rf i)) ∧ F1 i a)
theorem SOk.back {H2 : Hp} {F2 : Ow} {fp : Addr → Prop} {ρf : Env'} (s : SOk K H1 σ ρ1 F1 hid) (nd : (rfs as).Nodup) (ok : ArgsOk K (wo H1 (Un2 F1 hid)) σ as vs bs)
    (k : Keep H1 (UF (lentF as F1)) H2 fun a => UF F2 a ∨ fp a) (s2 : SOk K H2 (vs.map some) ρf F2 fun a => lentH as F1 hid a ∨ fp a) :
    SOk K H2 σ (backA as ρf ρ1) (backF as F1 F2) (fun a => hid a ∨ fp a) ∧ (∀ a, Un2 (backF as F1 F2) (fun a => hid a ∨ fp a) a → Un2 F2 (fun a => lentH as F1 hid a ∨ fp a) a) ∧ Keep H1 (UF F1) H2 fun a => UF (backF as F1 F2) a ∨ fp a := by
  have unl : ∀ i a, (∀ j : Nat, as[j]? ≠ some (Ar.rf i)) → F1 i a → lentH as F1 hid a := fun i a n f => ⟨.inl ⟨i, f⟩, fun ⟨j, i', e, f'⟩ => by
    have := s.apart i i' a f f'
    subst this
    exact n j e⟩
  have hdh : ∀ a, hid a → lentH as F1 hid a := fun a h => ⟨.inr h, fun ⟨j, i', e, f'⟩ => s.hidden i' a f' h⟩
  have newp : ∀ a, lentH as F1 hid a → ¬ fp a := fun a h p => by
    obtain ⟨o, e⟩ := s.dom a h.1
    exact (k a o e h.2).2 (.inr p)
  have sub : ∀ a, Un2 (backF as F1 F2) (fun a => hid a ∨ fp a) a → Un2 F2 (fun a => lentH as F1 hid a ∨ fp a) a := by
    rintro a (⟨i, ⟨j, e, f⟩ | ⟨n, f⟩⟩ | h | p)
    · exact .inl ⟨j, f⟩
    · exact .inr (.inl (unl i a n f))
    · exact .inr (.inl (hdh a h))
    · exact .inr (.inr p)
  have seen : Same (wo H2 (Un2 F2 fun a => lentH as F1 hid a ∨ fp a)) (wo H2 (Un2 (backF as F1 F2) fun a => hid a ∨ fp a)) := wo_same (fun _ _ e => e) fun a _ _ z => sub a z
  have flen : ρf.length = as.length := by rw [s2.len, List.length_map, ok.lens.1]
  refine ⟨⟨fun a z => s2.dom a (sub a z), ?_, ?_, by rw [back_len]; exact s.len, ?_⟩, sub, ?_⟩
  · rintro i i' a (⟨j, e, f⟩ | ⟨n, f⟩) (⟨j', e', f'⟩ | ⟨n', f'⟩)
    · have := s2.apart j j' a f f'
      subst this
      rw [e] at e'
      cases e'
      rfl
    · exact absurd (.inl (unl i' a n' f')) (s2.hidden j a f)
    · exact absurd (.inl (unl i a n f)) (s2.hidden j' a f')
    · exact s.apart i i' a f f'
  · rintro i a (⟨j, e, f⟩ | ⟨n, f⟩) (h | p)
    · exact s2.hidden j a f (.inl (hdh a h))
    · exact s2.hidden j a f (.inr p)
    · exact s.hidden i a f h
    · exact newp a (unl i a n f) p
  · intro i b e
    by_cases hl : ∃ j : Nat, as[j]? = some (Ar.rf i)
    · obtain ⟨j, ej⟩ := hl
      obtain ⟨v, ev, es⟩ := ok.ref ej
      have hi : i < ρ1.length := by
        rw [s.len]
        exact (List.getElem?_eq_some_iff.mp es).1
      rw [back_at nd flen ej hi] at e
      obtain ⟨w, ew, o⟩ := s2.at_ j b e
      rw [List.getElem?_map, ev] at ew
      cases ew
      exact ⟨v, es, (o.mono (H' := H2) seen fun _ _ _ e => e).sub fun a f => .inl ⟨j, ej, f⟩⟩
    · have hn : i ∉ rfs as := fun z => hl (mem_rfs.mp z)
      have hn' : ∀ j : Nat, as[j]? ≠ some (Ar.rf i) := fun j z => hl ⟨j, z⟩
      rw [back_out hn] at e
      obtain ⟨v, ev, o⟩ := s.at_ i b e
      refine ⟨v, ev, (o.mono (H' := H2) (fun a o e => ?_) fun a o f e => ?_).sub fun a f => .inr ⟨hn', f⟩⟩
      · obtain ⟨n, e⟩ := wo_iff.mp e
        have nl : ¬ UF (lentF as F1) a := fun ⟨j, i', e', f'⟩ => n (.inl ⟨i', f'⟩)
        obtain ⟨e2, n2⟩ := k a o e nl
        refine wo_iff.mpr ⟨?_, e2⟩
        rintro (⟨i', ⟨j, _, f⟩ | ⟨_, f⟩⟩ | h | p)
        · exact n2 (.inl ⟨j, f⟩)
        · exact n (.inl ⟨i', f⟩)
        · exact n (.inr h)
        · exact n2 (.inr p)
      · exact (k a o e (unl i a hn' f).2).1
  · intro a o e n
    obtain ⟨e2, n2⟩ := k a o e fun ⟨j, i', e', f'⟩ => n ⟨i', f'⟩
    refine ⟨e2, ?_⟩
    rintro (⟨i', ⟨j, _, f⟩ | ⟨_, f⟩⟩ | p)
    · exact n2 (.inl ⟨j, f⟩)
    · exact n ⟨i', f⟩
    · exact n2 (.inr p)
/-- a callee's own reading at its arguments -/
theorem lent {fn : Fn} {Q : VK} (s : SOk K H1 σ ρ1 F1 hid) (nd : (rfs as).Nodup) (ok : ArgsOk K (wo H1 (Un2 F1 hid)) σ as vs bs)
    (h : REnd K W σ H1 F1 hid (okB K σ H1 F1 hid Q) (match fn (fillA as bs ρ1) with | .ok b ρf => .ok b (backA as ρf ρ1) | .exc c fs ρf => .exc c fs (backA as ρf ρ1) | .bad => .bad)) :
    tM K (fun c d _ H => W c d σ H) fn (vs.map some) H1 Q := by
  refine ⟨_, _, _, s.lend nd ok, ?_⟩
  cases ef : fn (fillA as bs ρ1) with
  | bad => rw [ef] at h; exact h
  | ok b ρf =>
    rw [ef] at h
    have h' : okB K σ H1 F1 hid Q b (backA as ρf ρ1) := h
    intro v H2 F2 fp k s2 o
    obtain ⟨s3, sub, k3⟩ := s.back nd ok k s2
    exact h' v H2 _ fp k3 s3 (o.mono (H' := H2) (wo_same (fun _ _ e => e) fun a _ _ z => sub a z) fun _ _ _ e => e)
  | exc c fs ρf =>
    rw [ef] at h
    have h' : okE K W σ H1 F1 hid c fs (backA as ρf ρ1) := h
    intro d H2 F2 k s2 o
    obtain ⟨s3, sub, k3⟩ := s.back (fp := fun _ => False) nd ok (k.less fun _ z => z.elim (fun z => z) False.elim) (s2.drop fun _ z => z.elim (fun z => z) False.elim)
    refine h' d H2 _ (k3.less fun _ z => .inl z) (s3.drop fun _ z => .inl z) (DctOk.mono (wo_same (fun _ _ e => e) fun a _ _ z => ?_) o)
    exact (sub a (z.imp (fun z => z) .inl)).imp (fun z => z) fun z => z.elim (fun z => z) False.elim
end
end ML
/-! # ML6 -/
set_option Elab.async false
set_option linter.all false
set_option maxRecDepth 100000
namespace ML
open PySem PySem.Spec PyProof.Rows L2
/-! ## statements -/
inductive SRes where
  | nx (ρ : Env')
  | rt (b : B) (ρ : Env')
  | bk (ρ : Env')
  | ct (ρ : Env')
  | exc (c : Str) (fs : List (Str × PyData)) (ρ : Env')
  | bad
abbrev Sm := Env' → SRes
/-- a part's result goes on into a statement's -/
def Res.go {α : Type} (r : Res α) (k : α → Env' → SRes) : SRes := match r with
  | .ok a ρ => k a ρ
  | .exc c fs ρ => .exc c fs ρ
  | .bad => .bad
@[simp] theorem Res.go_ok {α : Type} (a : α) (ρ : Env') (k : α → Env' → SRes) : (Res.ok a ρ).go k = k a ρ := rfl
@[simp] theorem Res.go_exc {α : Type} (c : Str) (fs) (ρ : Env') (k : α → Env' → SRes) : (Res.exc c fs ρ).go k = .exc c fs ρ := rfl
@[simp] theorem Res.go_bad {α : Type} (k : α → Env' → SRes) : (Res.bad).go k = .bad := rfl
def SRes.seq (r : SRes) (k : Sm) : SRes := match r with
  | .nx ρ => k ρ
  | r => r
@[simp] theorem SRes.seq_nx (ρ : Env') (k : Sm) : (SRes.nx ρ).seq k = k ρ := rfl
@[simp] theorem SRes.seq_rt (b) (ρ : Env') (k : Sm) : (SRes.rt b ρ).seq k = .rt b ρ := rfl
@[simp] theorem SRes.seq_bk (ρ : Env') (k : Sm) : (SRes.bk ρ).seq k = .bk ρ := rfl
@[simp] theorem SRes.seq_ct (ρ : Env') (k : Sm) : (SRes.ct ρ).seq k = .ct ρ := rfl
@[simp] theorem SRes.seq_exc (c fs) (ρ : Env') (k : Sm) : (SRes.exc c fs ρ).seq k = .exc c fs ρ := rfl
@[simp] theorem SRes.seq_bad (k : Sm) : (SRes.bad).seq k = .bad := rfl
/-- the protected slots stay -/
structure Agree (P : Nat → Bool) (σ σ' : Slots) : Prop where
  len : σ'.length = σ.length
  at_ : ∀ i, P i = true → σ'[i]? = σ[i]?
theorem Agree.refl {P : Nat → Bool} {σ : Slots} : Agree P σ σ := ⟨rfl, fun _ _ => rfl⟩
theorem Agree.trans {P : Nat → Bool} {a b c : Slots} (h : Agree P a b) (k : Agree P b c) : Agree P a c := ⟨k.len.trans h.len, fun i p => (k.at_ i p).trans (h.at_ i p)⟩
theorem Agree.set {P : Nat → Bool} {σ : Slots} {i : Nat} {x : Option V} (h : P i = false) : Agree P σ (σ.set i x) := ⟨List.length_set, fun j p => List.getElem?_set_ne fun e => by subst e; rw [h] at p; cases p⟩
def okS (K : PySem.W.Frag) (P : Nat → Bool) (σ : Slots) (H : Hp) (F : Ow) (hid : Addr → Prop) (Q : Slots → Hp → Prop) (ρ' : Env') : Prop :=
  ∀ σ' H' F', Agree P σ σ' → Keep H (UF F) H' (UF F') → SOk K H' σ' ρ' F' hid → Q σ' H'
def okRt (K : PySem.W.Frag) (P : Nat → Bool) (σ : Slots) (H : Hp) (F : Ow) (hid : Addr → Prop) (Q : VK) (b : B) (ρ' : Env') : Prop :=
  ∀ v σ' H' F' (fp : Addr → Prop), Agree P σ σ' → Keep H (UF F) H' (fun a => UF F' a ∨ fp a) → SOk K H' σ' ρ' F' (fun a => hid a ∨ fp a) → OwnB K (wo H' (Un2 F' fun a => hid a ∨ fp a)) H' v b fp → Q v H'
def okX (K : PySem.W.Frag) (W : WX) (P : Nat → Bool) (σ : Slots) (H : Hp) (F : Ow) (hid : Addr → Prop) (c : Str) (fs : List (Str × PyData)) (ρ' : Env') : Prop :=
  ∀ d σ' H' F', Agree P σ σ' → Keep H (UF F) H' (UF F') → SOk K H' σ' ρ' F' hid → DctOk K (wo H' (Un2 F' hid)) d fs → W (.ref (He.ga K c)) d σ' H'
def SEnd (K : PySem.W.Frag) (W : WX) (P : Nat → Bool) (σ : Slots) (H : Hp) (F : Ow) (hid : Addr → Prop) (D : Ends) : SRes → Prop
  | .nx ρ' => okS K P σ H F hid D.nx ρ'
  | .rt b ρ' => okRt K P σ H F hid D.rt b ρ'
  | .bk ρ' => okS K P σ H F hid D.bk ρ'
  | .ct ρ' => okS K P σ H F hid D.ct ρ'
  | .exc c fs ρ' => okX K W P σ H F hid c fs ρ'
  | .bad => False
def tS (K : PySem.W.Frag) (W : WX) (P : Nat → Bool) (m : Sm) : TS := fun D σ H => ∃ ρ F hid, SOk K H σ ρ F hid ∧ SEnd K W P σ H F hid D (m ρ)
abbrev ES (X : Cx) (W : WX) (P : Nat → Bool) (st : Stmt) (m : Sm) : Prop := PS X st (tS X.K W P m)
abbrev ESs (X : Cx) (W : WX) (P : Nat → Bool) (st : List Stmt) (m : Sm) : Prop := PSs X st (tS X.K W P m)
section
variable {K : PySem.W.Frag} {W : WX} {P : Nat → Bool} {σ σ1 : Slots} {H H1 : Hp} {F F1 : Ow} {hid : Addr → Prop} {D D' : Ends}
theorem okS.after {Q : Slots → Hp → Prop} {ρ'} (a : Agree P σ σ1) (k : Keep H (UF F) H1 (UF F1)) (h : okS K P σ H F hid Q ρ') : okS K P σ1 H1 F1 hid Q ρ' := fun σ' H' F' a' k' s' => h σ' H' F' (a.trans a') (k.trans k') s'
theorem okRt.after {Q : VK} {b ρ'} (a : Agree P σ σ1) (k : Keep H (UF F) H1 (UF F1)) (h : okRt K P σ H F hid Q b ρ') : okRt K P σ1 H1 F1 hid Q b ρ' := fun v σ' H' F' fp a' k' s' => h v σ' H' F' fp (a.trans a') (k.trans k') s'
theorem okX.after {c fs ρ'} (a : Agree P σ σ1) (k : Keep H (UF F) H1 (UF F1)) (h : okX K W P σ H F hid c fs ρ') : okX K W P σ1 H1 F1 hid c fs ρ' := fun d σ' H' F' a' k' s' => h d σ' H' F' (a.trans a') (k.trans k') s'
theorem SEnd.after {r : SRes} (a : Agree P σ σ1) (k : Keep H (UF F) H1 (UF F1)) (h : SEnd K W P σ H F hid D r) : SEnd K W P σ1 H1 F1 hid D r := by
  cases r with
  | nx ρ => exact okS.after (K := K) (Q := D.nx) a k h
  | rt b ρ => exact okRt.after (K := K) a k h
  | bk ρ => exact okS.after (K := K) (Q := D.bk) a k h
  | ct ρ => exact okS.after (K := K) (Q := D.ct) a k h
  | exc c fs ρ => exact okX.after (K := K) a k h
  | bad => exact h
/-- an expression's end from a statement's -/
theorem okE_of {c fs ρ'} (h : okX K W P σ H F hid c fs ρ') : okE K W σ H F hid c fs ρ' := fun d H' F' k s q => h d σ H' F' Agree.refl k s q
theorem REnd.of_go {α : Type} {r : Res α} {k : α → Env' → SRes} (h : SEnd K W P σ H F hid D (r.go k)) : REnd K W σ H F hid (fun a ρ1 => SEnd K W P σ H F hid D (k a ρ1)) r := by
  cases r with
  | ok a ρ' => exact h
  | exc c fs ρ' => exact okE_of (K := K) (P := P) h
  | bad => exact h
end
section
variable {X : Cx} {W : WX} {P : Nat → Bool}
def sNil : Sm := fun ρ => .nx ρ
def sSeq (a b : Sm) : Sm := fun ρ => (a ρ).seq b
theorem tSeq_of {K : PySem.W.Frag} {a b : Sm} {D σ H} (q : tS K W P (sSeq a b) D σ H) : tSeq (tS K W P a) (tS K W P b) D σ H := by
  obtain ⟨ρ, F, hid, s, q⟩ := q
  refine ⟨ρ, F, hid, s, ?_⟩
  unfold sSeq at q
  cases e : a ρ with
  | nx ρ' =>
    rw [e, SRes.seq_nx] at q
    intro σ' H' F' ag k s'
    exact ⟨ρ', F', hid, s', SEnd.after (K := K) ag k q⟩
  | rt b ρ' => rw [e] at q; exact q
  | bk ρ' => rw [e] at q; exact q
  | ct ρ' => rw [e] at q; exact q
  | exc c fs ρ' => rw [e] at q; exact q
  | bad => rw [e] at q; exact q
theorem ess_nil : ESs X W P [] sNil := PSs.wk pss_nil fun D σ H q => by
  obtain ⟨ρ, F, hid, s, q⟩ := q
  have q' : okS X.K P σ H F hid D.nx ρ := q
  exact q' σ H F Agree.refl Keep.refl s
theorem ess_cons {st : Stmt} {rest : List Stmt} {a b : Sm} (h : ES X W P st a) (k : ESs X W P rest b) : ESs X W P (st :: rest) (sSeq a b) := PSs.wk (pss_cons h k) fun _ _ _ q => tSeq_of q
theorem ess_one {st : Stmt} {a : Sm} (h : ES X W P st a) : ESs X W P [st] a := pss_one h
theorem es_pass {pos : Pos} : ES X W P (.Pass pos) sNil := PS.wk ps_pass fun D σ H q => by
  obtain ⟨ρ, F, hid, s, q⟩ := q
  have q' : okS X.K P σ H F hid D.nx ρ := q
  exact q' σ H F Agree.refl Keep.refl s
def sBreak : Sm := fun ρ => .bk ρ
def sCont : Sm := fun ρ => .ct ρ
theorem es_break {pos : Pos} : ES X W P (.Break pos) sBreak := PS.wk ps_break fun D σ H q => by
  obtain ⟨ρ, F, hid, s, q⟩ := q
  have q' : okS X.K P σ H F hid D.bk ρ := q
  exact q' σ H F Agree.refl Keep.refl s
theorem es_cont {pos : Pos} : ES X W P (.Continue pos) sCont := PS.wk ps_continue fun D σ H q => by
  obtain ⟨ρ, F, hid, s, q⟩ := q
  have q' : okS X.K P σ H F hid D.ct ρ := q
  exact q' σ H F Agree.refl Keep.refl s
/-- an expression for its effect -/
def sExp (m : Mn B) : Sm := fun ρ => (asV m ρ).go fun _ ρ1 => .nx ρ1
theorem es_exp {e : Expr} {m : Mn B} {pos : Pos} (h : EM X W e m) (hs : swapsWith e none pos.line X.env = pure false := by rfl) : ES X W P (.Expr e pos) (sExp m) :=
  PS.wk (ps_expr (PE.wk h fun σ H Q q => asV_of q) hs) fun D σ H q => by
    obtain ⟨ρ, F, hid, s, q⟩ := q
    refine ⟨ρ, F, hid, s, REnd.mono Keep.refl (fun b ρ1 q v H1 F1 k1 s1 q1 => ?_) (REnd.of_go q)⟩
    have q' : okS X.K P σ H F hid D.nx ρ1 := q
    exact q' σ H1 F1 Agree.refl k1 s1
def sRet (m : Mn B) : Sm := fun ρ => (m ρ).go fun b ρ1 => .rt b ρ1
theorem es_ret {e : Expr} {m : Mn B} {pos : Pos} (h : EM X W e m) : ES X W P (.Return (some e) pos) (sRet m) :=
  PS.wk (ps_ret h) fun D σ H q => by
    obtain ⟨ρ, F, hid, s, q⟩ := q
    refine ⟨ρ, F, hid, s, REnd.mono Keep.refl (fun b ρ1 q v H1 F1 fp k1 s1 q1 => ?_) (REnd.of_go q)⟩
    have q' : okRt X.K P σ H F hid D.rt b ρ1 := q
    exact q' v σ H1 F1 fp Agree.refl k1 s1 q1
def sRetN : Sm := fun ρ => .rt (.val .none) ρ
theorem es_retN {pos : Pos} : ES X W P (.Return none pos) sRetN := PS.wk ps_retN fun D σ H q => by
  obtain ⟨ρ, F, hid, s, q⟩ := q
  have q' : okRt X.K P σ H F hid D.rt (.val .none) ρ := q
  exact q' .non σ H F (fun _ => False) Agree.refl (Keep.refl.less fun _ z => z.elim (fun z => z) False.elim) (s.drop fun _ z => z.elim (fun z => z) False.elim) (DV.non)
/-- return name: what the name owns goes with it -/
def sRetV (i : Nat) : Sm := fun ρ => match ρ[i]? with
  | some (some (.lst ds)) => .rt (.lst ds) (ρ.set i none)
  | some (some b) => .rt b ρ
  | _ => .bad
theorem SOk.take {H : Hp} {i : Nat} {ds : List PyData} {K : PySem.W.Frag} {σ : Slots} {ρ : Env'} {F : Ow} {hid : Addr → Prop} (s : SOk K H σ ρ F hid) (e : ρ[i]? = some (some (.lst ds))) :
    SOk K H σ (ρ.set i none) (fun j a => j ≠ i ∧ F j a) (fun a => hid a ∨ F i a) ∧ (∀ a, Un2 (fun j a => j ≠ i ∧ F j a) (fun a => hid a ∨ F i a) a ↔ Un2 F hid a) := by
  have all : ∀ a, Un2 (fun j a => j ≠ i ∧ F j a) (fun a => hid a ∨ F i a) a ↔ Un2 F hid a := fun a => by
    constructor
    · rintro (⟨j, _, f⟩ | h | f)
      · exact .inl ⟨j, f⟩
      · exact .inr h
      · exact .inl ⟨i, f⟩
    · rintro (⟨j, f⟩ | h)
      · by_cases q : j = i
        · subst q; exact .inr (.inr f)
        · exact .inl ⟨j, q, f⟩
      · exact .inr (.inl h)
  refine ⟨⟨fun a z => s.dom a ((all a).mp z), fun j j' a f g => s.apart j j' a f.2 g.2, fun j a f z => z.elim (s.hidden j a f.2) fun g => f.1 (s.apart j i a f.2 g), by rw [List.length_set]; exact s.len, fun j b ej => ?_⟩, all⟩
  by_cases hj : i = j
  · subst hj
    rw [List.getElem?_set_self (List.getElem?_eq_some_iff.mp e).1] at ej
    cases ej
  · rw [List.getElem?_set_ne hj] at ej
    obtain ⟨v, ev, o⟩ := s.at_ j b ej
    exact ⟨v, ev, (o.mono (H' := H) (wo_iff_same fun a => (all a).symm) fun _ _ _ e => e).sub fun a f => ⟨fun z => hj z.symm, f⟩⟩
theorem es_retV {x : Str} {i : Nat} {p pos : Pos} (hN : X.N[i]? = some x) (hv : Vis X.env.scope x) (hd : (x == ("__debug__" : Str)) = false) (hc : (x == ("__classdict__" : Str)) = false) : ES X W P (.Return (some (.Name x p)) pos) (sRetV i) :=
  PS.wk (ps_ret (pe_var hN hv hd hc)) fun D σ H q => by
    obtain ⟨ρ, F, hid, s, q⟩ := q
    unfold sRetV at q
    split at q
    · rename_i ds e
      obtain ⟨v, ev, o⟩ := s.at_ i _ e
      obtain ⟨s2, all⟩ := s.take e
      have q' : okRt X.K P σ H F hid D.rt (.lst ds) (ρ.set i none) := q
      refine ⟨v, ev, q' v σ H _ (F i) Agree.refl (Keep.refl.less fun a z => z.elim (fun ⟨j, f⟩ => ⟨j, f.2⟩) fun f => ⟨i, f⟩) s2 (o.mono (H' := H) (wo_iff_same fun a => (all a).symm) fun _ _ _ e => e)⟩
    · rename_i b hb e
      obtain ⟨v, ev, o⟩ := s.at_ i _ e
      have q' : okRt X.K P σ H F hid D.rt b ρ := q
      have sm : Same (wo H (Un2 F hid)) (wo H (Un2 F fun a => hid a ∨ False)) := wo_same (fun _ _ e => e) fun _ _ _ z => z.imp (fun z => z) fun z => z.elim (fun z => z) False.elim
      exact ⟨v, ev, q' v σ H F (fun _ => False) Agree.refl (Keep.refl.less fun _ z => z.elim (fun z => z) False.elim) (s.drop fun _ z => z.elim (fun z => z) False.elim) ((VB.mono sm (o.vb fun ds z => hb ds z)).own)⟩
    · exact q.elim
def sIf (c : Mn Bool) (a b : Sm) : Sm := fun ρ => (c ρ).go fun k ρ1 => if k = true then a ρ1 else b ρ1
theorem es_if {c : Expr} {p q : List Stmt} {mc : Mn Bool} {ma mb : Sm} {pos : Pos} (hc : ET X W c mc) (ha : ESs X W P p ma) (hb : ESs X W P q mb) : ES X W P (.If c p q pos) (sIf mc ma mb) :=
  PS.wk (ps_if hc ha hb) fun D σ H q => by
    obtain ⟨ρ, F, hid, s, q⟩ := q
    refine ⟨ρ, F, hid, s, REnd.mono Keep.refl (fun k ρ1 q H1 F1 k1 s1 => ?_) (REnd.of_go q)⟩
    cases k with
    | true =>
      rw [if_pos rfl] at q ⊢
      exact ⟨ρ1, F1, hid, s1, SEnd.after (K := X.K) Agree.refl k1 q⟩
    | false =>
      rw [if_neg Bool.false_ne_true] at q ⊢
      exact ⟨ρ1, F1, hid, s1, SEnd.after (K := X.K) Agree.refl k1 q⟩

/-! ### a name is set -/
def setF (F : Ow) (i : Nat) (fp : Addr → Prop) : Ow := fun j a => (j = i ∧ fp a) ∨ (j ≠ i ∧ F j a)
theorem SOk.put {K : PySem.W.Frag} {H H' : Hp} {σ0 σ : Slots} {ρ ρ' : Env'} {F F' : Ow} {hid fp : Addr → Prop} {i : Nat} {v : V} {b : B} (s : SOk K H σ0 ρ F hid) (k : Keep H (UF F) H' fun a => UF F' a ∨ fp a)
    (s' : SOk K H' σ ρ' F' fun a => hid a ∨ fp a) (o : OwnB K (wo H' (Un2 F' fun a => hid a ∨ fp a)) H' v b fp) :
    SOk K H' (σ.set i (some v)) (ρ'.set i (some b)) (setF F' i fp) hid ∧ Keep H (UF F) H' (UF (setF F' i fp)) := by
  have nf : ∀ a, hid a → ¬ fp a := fun a z p => by
    obtain ⟨o2, e2⟩ := s.dom a (.inr z)
    exact (k a o2 e2 fun ⟨i, f⟩ => s.hidden i a f z).2 (.inr p)
  have sub : ∀ a, Un2 (setF F' i fp) hid a → Un2 F' (fun a => hid a ∨ fp a) a := by
    rintro a (⟨j, ⟨_, f⟩ | ⟨_, f⟩⟩ | h)
    · exact .inr (.inr f)
    · exact .inl ⟨j, f⟩
    · exact .inr (.inl h)
  have sm : Same (wo H' (Un2 F' fun a => hid a ∨ fp a)) (wo H' (Un2 (setF F' i fp) hid)) := wo_same (fun _ _ e => e) fun a _ _ z => sub a z
  refine ⟨⟨fun a z => s'.dom a (sub a z), ?_, ?_, by rw [List.length_set, List.length_set]; exact s'.len, fun j b' ej => ?_⟩, k.less ?_⟩
  · rintro j j' a (⟨e, f⟩ | ⟨n, f⟩) (⟨e', f'⟩ | ⟨n', f'⟩)
    · rw [e, e']
    · exact absurd (.inr f) (s'.hidden j' a f')
    · exact absurd (.inr f') (s'.hidden j a f)
    · exact s'.apart j j' a f f'
  · rintro j a (⟨e, f⟩ | ⟨n, f⟩) h
    · exact nf a h f
    · exact s'.hidden j a f (.inl h)
  · by_cases hj : i = j
    · subst hj
      by_cases hl : i < ρ'.length
      · rw [List.getElem?_set_self hl] at ej
        cases ej
        refine ⟨v, by rw [List.getElem?_set_self (by rw [← s'.len]; exact hl)], (o.mono (H' := H') sm fun _ _ _ e => e).sub fun a f => .inl ⟨rfl, f⟩⟩
      · rw [List.getElem?_eq_none (by rw [List.length_set]; omega)] at ej
        cases ej
    · rw [List.getElem?_set_ne hj] at ej
      obtain ⟨w, ew, o2⟩ := s'.at_ j b' ej
      exact ⟨w, by rw [List.getElem?_set_ne hj]; exact ew, (o2.mono (H' := H') sm fun _ _ _ e => e).sub fun a f => .inr ⟨fun z => hj z.symm, f⟩⟩
  · rintro a ⟨j, ⟨_, f⟩ | ⟨_, f⟩⟩
    · exact .inr f
    · exact .inl ⟨j, f⟩
def sSet (i : Nat) (m : Mn B) : Sm := fun ρ => (m ρ).go fun b ρ1 => .nx (ρ1.set i (some b))
theorem tSet_of {m : Mn B} {i : Nat} {D σ H} (hp : P i = false) (q : tS X.K W P (sSet i m) D σ H) : tAsg (tM X.K W m) (gName i) D σ H := by
  obtain ⟨ρ, F, hid, s, q⟩ := q
  refine ⟨ρ, F, hid, s, REnd.mono Keep.refl (fun b ρ1 q v H1 F1 fp k1 s1 q1 => ?_) (REnd.of_go q)⟩
  have q' : okS X.K P σ H F hid D.nx (ρ1.set i (some b)) := q
  obtain ⟨s2, k2⟩ := SOk.put (i := i) s k1 s1 q1
  exact q' _ H1 _ (Agree.set hp) k2 s2
theorem es_set {i : Nat} {x : Str} {e : Expr} {m : Mn B} {pos' pos : Pos} (hp : P i = false) (hN : X.N.Nodup) (hi : X.N[i]? = some x) (hx : Loc X.env.scope x) (hf : X.fn x = true ∨ X.env.scope.names.lookup x = some .local) (he : EM X W e m) (hs : swapsWith e (some (.Name x pos')) pos.line X.env = pure false := by rfl) :
    ES X W P (.Assign [.Name x pos'] e pos) (sSet i m) := PS.wk (ps_set hN hi hx he hs hf) fun _ _ _ q => tSet_of hp q
end
end ML
/-! # ML7 -/
set_option Elab.async false
set_option linter.all false
set_option maxRecDepth 100000
namespace ML
open PySem PySem.Spec PyProof.Rows L2
/-! ## where a body runs -/
structure Glob where
  P : Program
  w : World
  K : PySem.W.Frag
  mg : Str → Option Value
  base : Heap
def glOf (X : Cx) : Glob := ⟨X.prog, X.w, X.K, X.mg, X.base⟩
structure Good (G : Glob) (N : List Str) (sc : Scope) (k : Nat) (X : Cx) (W : WX) : Prop where
  gl : glOf X = G
  nm : X.N = N
  nd : N.Nodup
  sc : X.env.scope = sc
  room : Room k X.A
  gd : X.A.guards = some []
  calm : X.calm = true
  tk : Takes X W
structure GoodS (G : Glob) (N : List Str) (sc : Scope) (k : Nat) (X : Cx) (W : WX) : Prop extends Good G N sc k X W where
  st : X.stack = X.env :: X.outer
  fr : X.env.frame = some X.env.locals
  ex : X.ex = []
  own : PassesOwn (model X.prog X.w) X.A X.env X.xe
  fn : ∀ x, X.fn x = true
/-- decidable forms of what names are -/
def visB (sc : Scope) (x : Str) : Bool := match sc.names.lookup x with
  | some .local => true
  | some .cell => true
  | some .free => true
  | _ => false
def locB (sc : Scope) (x : Str) : Bool := match sc.names.lookup x with
  | some .local => true
  | some .cell => true
  | _ => false
def gloB (sc : Scope) (x : Str) : Bool := match sc.names.lookup x with
  | some .globalImplicit => true
  | _ => false
def dunB (x : Str) : Bool := !(x == ("__debug__" : Str)) && !(x == ("__classdict__" : Str))
section
variable {G : Glob} {N : List Str} {sc : Scope} {k : Nat} {X : Cx} {W : WX}
theorem Good.vis (g : Good G N sc k X W) {x : Str} (h : visB sc x = true) : Vis X.env.scope x := by
  rw [g.sc]
  unfold visB at h
  unfold Vis
  split at h <;> first | exact .inl (by assumption) | exact .inr (.inl (by assumption)) | exact .inr (.inr (by assumption)) | cases h
theorem Good.loc (g : Good G N sc k X W) {x : Str} (h : locB sc x = true) : Loc X.env.scope x := by
  rw [g.sc]
  unfold locB at h
  unfold L2.Loc
  split at h <;> first | exact .inl (by assumption) | exact .inr (by assumption) | cases h
theorem Good.glo (g : Good G N sc k X W) {x : Str} (h : gloB sc x = true) : L2.Gl X x := by
  unfold L2.Gl Env.kindOf
  rw [g.sc]
  unfold gloB at h
  split at h <;> first | assumption | cases h
theorem dun_d {x : Str} (h : dunB x = true) : (x == ("__debug__" : Str)) = false := by
  unfold dunB at h
  simp only [Bool.and_eq_true, Bool.not_eq_true'] at h
  exact h.1
theorem dun_c {x : Str} (h : dunB x = true) : (x == ("__classdict__" : Str)) = false := by
  unfold dunB at h
  simp only [Bool.and_eq_true, Bool.not_eq_true'] at h
  exact h.2
theorem Good.mono {j : Nat} (g : Good G N sc k X W) (h : j ≤ k) : Good G N sc j X W := { g with room := g.room.mono h }
/-- a variable -/
def nmB (N : List Str) (sc : Scope) (x : Str) (i : Nat) : Bool := decide (N[i]? = some x) && visB sc x && dunB x
theorem g_var (g : Good G N sc k X W) {x : Str} {i : Nat} {pos : Pos} (h : nmB N sc x i = true) : EM X W (.Name x pos) (mVar i) := by
  unfold nmB at h
  simp only [Bool.and_eq_true, decide_eq_true_eq] at h
  exact em_var (by rw [g.nm]; exact h.1.1) (g.vis h.1.2) (dun_d h.2) (dun_c h.2)
theorem g_rf (g : Good G N sc k X W) {x : Str} {i : Nat} {pos : Pos} {es : List Expr} {as : List Ar} (h : nmB N sc x i = true) (hr : ER X W es as) (hs : starEach (.Name x pos :: es) X.env = (false, eval (.Name x pos) X.env) :: starEach es X.env := by rfl) : ER X W (.Name x pos :: es) (.rf i :: as) := by
  unfold nmB at h
  simp only [Bool.and_eq_true, decide_eq_true_eq] at h
  exact er_rf (by rw [g.nm]; exact h.1.1) (g.vis h.1.2) (dun_d h.2) (dun_c h.2) hr hs
theorem g_retV (g : Good G N sc k X W) {P : Nat → Bool} {x : Str} {i : Nat} {p pos : Pos} (h : nmB N sc x i = true) : ES X W P (.Return (some (.Name x p)) pos) (sRetV i) := by
  unfold nmB at h
  simp only [Bool.and_eq_true, decide_eq_true_eq] at h
  exact es_retV (by rw [g.nm]; exact h.1.1) (g.vis h.1.2) (dun_d h.2) (dun_c h.2)
def lcB (N : List Str) (sc : Scope) (x : Str) (i : Nat) : Bool := decide (N[i]? = some x) && locB sc x
theorem g_set (g : GoodS G N sc k X W) {P : Nat → Bool} {i : Nat} {x : Str} {e : Expr} {m : Mn B} {pos' pos : Pos} (hp : P i = false) (h : lcB N sc x i = true) (he : EM X W e m) (hs : swapsWith e (some (.Name x pos')) pos.line X.env = pure false := by rfl) :
    ES X W P (.Assign [.Name x pos'] e pos) (sSet i m) := by
  unfold lcB at h
  simp only [Bool.and_eq_true, decide_eq_true_eq] at h
  exact es_set hp (by rw [g.nm]; exact g.nd) (by rw [g.nm]; exact h.1) (g.loc h.2) (.inl (g.fn x)) he hs
end

/-! ## defs -/
/-- a def's promise, in a room, with no guards -/
structure FnG (G : Glob) (k : Nat) (f : Addr) (fd : FuncData) (ps : List Str) (fn : Fn) : Prop where
  len : ∀ ρ : Env', ρ.length ≠ ps.length → fn ρ = .bad
  run : ∀ (A : Around) (outer : List Env) (s : Shared) (H : Hp) (args : Args) (us : List Value) (vs : List V) (Q : VK) (E : XK), Room k A → A.guards = some [] → Env0 G.P G.w G.K G.mg G.base A outer s H → BindsTo s fd args (ps.zip us) → Vals vs us →
    tM G.K (fun c d _ H => E c d H) fn (vs.map some) H Q → codeAny (model G.P G.w) A (.call (.ref f) args) (CR (L2.CX G.P G.w) outer G.P G.w H s Q E) s
theorem FnG.vlen {G : Glob} {k : Nat} {f : Addr} {fd : FuncData} {ps : List Str} {fn : Fn} (F : FnG G k f fd ps fn) {K : PySem.W.Frag} {W : WX} {vs : List V} {H Q} (h : tM K W fn (vs.map some) H Q) : vs.length = ps.length := by
  obtain ⟨ρ, F1, hid, s, h⟩ := h
  have e := s.len
  rw [List.length_map] at e
  by_cases q : ρ.length = ps.length
  · rw [← e, q]
  · rw [F.len ρ q] at h
    exact h.elim
def outP : List Bool → Env' → Env' → Env'
  | p :: ps, x :: xs, y :: ys => (if p = true then y else x) :: outP ps xs ys
  | _, _, _ => []
def plainB : Option B → Bool
  | some (.lst _) => false
  | _ => true
/-- the unprotected parameters are no own lists -/
def goodP : List Bool → Env' → Bool
  | p :: ps, x :: xs => (p || plainB x) && goodP ps xs
  | [], [] => true
  | _, _ => false
def protP (pr : List Bool) : Nat → Bool := fun i => (pr[i]?).getD false
/-- a def: pr which parameters stay, l how many names -/
def mDef (pr : List Bool) (l : Nat) (mb : Sm) : Fn := fun ρ => if goodP pr ρ = true then match mb (ρ ++ List.replicate (l - pr.length) none) with
  | .nx ρ' => .ok (.val .none) (outP pr ρ ρ')
  | .rt b ρ' => .ok b (outP pr ρ ρ')
  | .exc c fs ρ' => .exc c fs (outP pr ρ ρ')
  | _ => .bad else .bad
theorem goodP_len : ∀ {pr : List Bool} {ρ : Env'}, goodP pr ρ = true → ρ.length = pr.length
  | [], [], _ => rfl
  | [], _ :: _, h => by simp [goodP] at h
  | _ :: _, [], h => by simp [goodP] at h
  | p :: pr, x :: xs, h => by
    simp only [goodP, Bool.and_eq_true] at h
    simp [goodP_len h.2]
theorem goodP_at : ∀ {pr : List Bool} {ρ : Env'} {i : Nat} {b : B}, goodP pr ρ = true → protP pr i = false → ρ[i]? = some (some b) → ∀ ds, b ≠ .lst ds
  | [], [], _, _, _, _, e => by simp at e
  | [], _ :: _, _, _, h, _, _ => by simp [goodP] at h
  | _ :: _, [], _, _, h, _, _ => by simp [goodP] at h
  | p :: pr, x :: xs, 0, b, h, hp, e => by
    simp only [goodP, Bool.and_eq_true, Bool.or_eq_true] at h
    simp only [protP, List.getElem?_cons_zero, Option.getD_some] at hp
    simp at e
    subst e hp
    intro ds z
    subst z
    simp [plainB] at h
  | p :: pr, x :: xs, i + 1, b, h, hp, e => by
    simp only [goodP, Bool.and_eq_true] at h
    exact goodP_at (i := i) h.2 (by simpa [protP] using hp) (by simpa using e)
theorem outP_len : ∀ {pr : List Bool} {xs ys : Env'}, xs.length = pr.length → pr.length ≤ ys.length → (outP pr xs ys).length = pr.length
  | [], xs, ys, _, _ => by simp [outP]
  | _ :: _, [], _, h, _ => by simp at h
  | _ :: _, _ :: _, [], _, h => by simp at h
  | p :: pr, x :: xs, y :: ys, h, h' => by
    simp only [outP, List.length_cons]
    rw [outP_len (by simpa using h) (by simpa using h')]
theorem outP_at : ∀ {pr : List Bool} {xs ys : Env'} {i : Nat} {x : Option B}, (outP pr xs ys)[i]? = some x → (protP pr i = true ∧ ys[i]? = some x) ∨ (protP pr i = false ∧ xs[i]? = some x)
  | [], _, _, _, _, e => by simp [outP] at e
  | _ :: _, [], _, _, _, e => by simp [outP] at e
  | _ :: _, _ :: _, [], _, _, e => by simp [outP] at e
  | p :: pr, x :: xs, y :: ys, 0, z, e => by
    simp only [outP, List.getElem?_cons_zero, Option.some.injEq] at e
    cases p with
    | true => left; exact ⟨by simp [protP], by simpa using e⟩
    | false => right; exact ⟨by simp [protP], by simpa using e⟩
  | p :: pr, x :: xs, y :: ys, i + 1, z, e => by
    have := outP_at (pr := pr) (xs := xs) (ys := ys) (i := i) (x := z) (by simpa [outP] using e)
    simpa [protP] using this
section
variable {K : PySem.W.Frag} {W : WX} {vs : List V} {H : Hp} {Q : VK} {pr : List Bool} {N : List Str} {ps : List Str} {mb : Sm}
theorem start_at {N : List Str} {vs : List V} {i : Nat} {v : V} (h : vs[i]? = some v) : (L2.start N vs)[i]? = some (some v) := by
  have hi := (List.getElem?_eq_some_iff.mp h).1
  unfold L2.start
  rw [List.getElem?_append_left (by simpa using hi), List.getElem?_map, h]
  rfl
/-- a def's reading gives its body's -/
theorem def_body (hn : pr.length ≤ N.length) (h : tM K (fun c d _ H => W c d [] H) (mDef pr N.length mb) (vs.map some) H Q) :
    tS K (fun c d _ H => W c d [] H) (protP pr) mb { nx := fun _ H' => Q .non H', rt := Q } (L2.start N vs) H := by
  obtain ⟨ρ, F, hid, s, h⟩ := h
  unfold mDef at h
  split at h
  · rename_i hg
    have hl := goodP_len hg
    have hv : vs.length = pr.length := by
      have := s.len
      rw [List.length_map] at this
      rw [← this, hl]
    have s0 : SOk K H (L2.start N vs) (ρ ++ List.replicate (N.length - pr.length) none) F hid := by
      refine ⟨s.dom, s.apart, s.hidden, ?_, fun i b e => ?_⟩
      · unfold L2.start
        simp [hl, hv]
      · by_cases hi : i < ρ.length
        · rw [List.getElem?_append_left hi] at e
          obtain ⟨v, ev, o⟩ := s.at_ i b e
          refine ⟨v, start_at ?_, o⟩
          rw [List.getElem?_map] at ev
          cases q : vs[i]? with
          | none => rw [q] at ev; cases ev
          | some w => rw [q] at ev; cases ev; rfl
        · rw [List.getElem?_append_right (by omega), List.getElem?_replicate] at e
          split at e <;> cases e
    refine ⟨_, F, hid, s0, ?_⟩
    -- what is left at the end, as the caller sees it
    have fin : ∀ {σ' H' F' ρ'} {fp : Addr → Prop}, Agree (protP pr) (L2.start N vs) σ' → Keep H (UF F) H' (fun a => UF F' a ∨ fp a) → SOk K H' σ' ρ' F' (fun a => hid a ∨ fp a) →
        SOk K H' (vs.map some) (outP pr ρ ρ') (fun i a => protP pr i = true ∧ F' i a) (fun a => hid a ∨ fp a) := fun {σ' H' F' ρ' fp} ag k s' => by
      have hl' : pr.length ≤ ρ'.length := by
        rw [s'.len, ag.len, ← s0.len, List.length_append, List.length_replicate]
        omega
      have sub : ∀ a, Un2 (fun i a => protP pr i = true ∧ F' i a) (fun a => hid a ∨ fp a) a → Un2 F' (fun a => hid a ∨ fp a) a := fun a z => z.imp (fun ⟨i, f⟩ => ⟨i, f.2⟩) fun z => z
      have smF : Same (wo H' (Un2 F' fun a => hid a ∨ fp a)) (wo H' (Un2 (fun i a => protP pr i = true ∧ F' i a) fun a => hid a ∨ fp a)) := wo_same (fun _ _ e => e) fun a _ _ z => sub a z
      refine ⟨fun a z => s'.dom a (sub a z), fun i j a f g => s'.apart i j a f.2 g.2, fun i a f => s'.hidden i a f.2, ?_, fun i b e => ?_⟩
      · rw [List.length_map, hv, outP_len hl hl']
      · rcases outP_at e with ⟨hp, e⟩ | ⟨hp, e⟩
        · obtain ⟨v, ev, o⟩ := s'.at_ i b e
          have hi : i < pr.length := by
            by_cases hi : i < pr.length
            · exact hi
            · rw [protP, List.getElem?_eq_none (by omega)] at hp
              cases hp
          have ev2 : (L2.start N vs)[i]? = some (some v) := by rw [← ag.at_ i hp]; exact ev
          have hvi : i < vs.length := by omega
          have e3 := start_at (N := N) (vs := vs) (i := i) (v := vs[i]) (by simp [hvi])
          rw [e3] at ev2
          refine ⟨v, ?_, (o.mono (H' := H') smF fun _ _ _ e => e).sub fun a f => ⟨hp, f⟩⟩
          rw [List.getElem?_map, List.getElem?_eq_getElem hvi]
          exact congrArg some (Option.some.inj ev2)
        · obtain ⟨v, ev, o⟩ := s.at_ i b e
          have ob : VB K (wo H (Un2 F hid)) v b := o.vb (goodP_at hg hp e)
          refine ⟨v, ev, (VB.mono ?_ ob).own⟩
          refine Same.trans (k.wo (hid := hid) (hid' := hid) fun _ _ _ _ z => z) (Same.trans (wo_iff_same fun a => ?_) smF)
          constructor
          · rintro ((h | h) | h)
            · exact .inl h
            · exact .inr (.inr h)
            · exact .inr (.inl h)
          · rintro (h | h | h)
            · exact .inl (.inl h)
            · exact .inr h
            · exact .inl (.inr h)
    have sf : ∀ {F' : Ow}, ∀ a, UF (fun i a => protP pr i = true ∧ F' i a) a → UF F' a := fun {F'} a ⟨i, f⟩ => ⟨i, f.2⟩
    have smF : ∀ {H' : Hp} {F' : Ow} {hid' : Addr → Prop}, Same (wo H' (Un2 F' hid')) (wo H' (Un2 (fun i a => protP pr i = true ∧ F' i a) hid')) := fun {H' F' hid'} => wo_same (fun _ _ e => e) fun a _ _ z => z.imp (sf a) fun z => z
    cases em : mb (ρ ++ List.replicate (N.length - pr.length) none) with
    | bad => rw [em] at h; exact h
    | bk ρ' => rw [em] at h; exact h.elim
    | ct ρ' => rw [em] at h; exact h.elim
    | nx ρ' =>
      rw [em] at h
      have h' : okB K (vs.map some) H F hid Q (.val .none) (outP pr ρ ρ') := h
      intro σ' H' F' ag k s'
      have kn : Keep H (UF F) H' fun a => UF F' a ∨ False := k.less fun _ z => z.elim (fun z => z) False.elim
      have sn : SOk K H' σ' ρ' F' fun a => hid a ∨ False := s'.drop fun _ z => z.elim (fun z => z) False.elim
      exact h' .non H' _ (fun _ => False) (kn.less fun a z => z.imp (sf a) fun z => z) (fin ag kn sn) DV.non
    | rt b ρ' =>
      rw [em] at h
      have h' : okB K (vs.map some) H F hid Q b (outP pr ρ ρ') := h
      intro v σ' H' F' fp ag k s' o
      exact h' v H' _ fp (k.less fun a z => z.imp (sf a) fun z => z) (fin ag k s') (o.mono (H' := H') smF fun _ _ _ e => e)
    | exc c fs ρ' =>
      rw [em] at h
      have h' : okE K (fun c d _ H => W c d [] H) (vs.map some) H F hid c fs (outP pr ρ ρ') := h
      intro d σ' H' F' ag k s' o
      have kn : Keep H (UF F) H' fun a => UF F' a ∨ False := k.less fun _ z => z.elim (fun z => z) False.elim
      have sn : SOk K H' σ' ρ' F' fun a => hid a ∨ False := s'.drop fun _ z => z.elim (fun z => z) False.elim
      exact h' d H' _ (k.less sf) ((fin ag kn sn).drop fun _ z => .inl z) (DctOk.mono smF o)
  · exact h.elim
end
end ML
/-! # ML8 -/
set_option Elab.async false
set_option linter.all false
set_option maxRecDepth 100000
namespace ML
open PySem PySem.Spec PyProof.Rows L2
section
variable {G : Glob} {N ps : List Str} {sc scope : Scope} {k : Nat} {X : Cx} {W : WX} {f : Addr} {fd : FuncData} {pr : List Bool} {mb : Sm} {x qual : Str} {params : Arguments} {body : List Stmt} {dvs : List V} {kws : List (Str × V)}
/-- a def keeps its promise, by its body -/
theorem fnG_of (F : FunD G.K x qual params body scope dvs kws f fd) (S : FnScope N ps scope) (hpr : pr.length = ps.length) (hbody : ∀ (X : Cx) (W : WX), GoodS G N scope k X W → ESs X W (protP pr) body mb) : FnG G (k + 1) f fd ps (mDef pr N.length mb) := by
  have hNl : pr.length ≤ N.length := by
    have e := congrArg List.length S.pre
    rw [List.length_take] at e
    omega
  have hlen : ∀ ρ : Env', ρ.length ≠ ps.length → mDef pr N.length mb ρ = .bad := fun ρ h => if_neg fun g => h ((goodP_len g).trans hpr)
  refine ⟨hlen, fun A out s H args us vs Q E room gd at0 bnd rel want => ?_⟩
  have vl : vs.length = ps.length := by
    obtain ⟨ρ, F1, hid, so, h⟩ := want
    have e := so.len
    rw [List.length_map] at e
    by_cases q : ρ.length = ps.length
    · rw [← e, q]
    · rw [hlen ρ q] at h
      exact h.elim
  obtain ⟨oc, od, dV, kV, doc, pm, an, cdv, ct, osl, rfl, look, code, _, _⟩ := F.ex
  have inK : G.K.In s.heap := at0.mod.kin.keeps fun b o e => (at0.bs b o e).1
  have kinds : ∀ y ∈ ps.zip us, scope.names.lookup y.1 = some .local ∨ (scope.names.lookup y.1 = some .cell ∧ ((cellsFrom (s.heap.objs.size + 1) scope.names []).lookup y.1).isSome = true) := by
    rintro ⟨n, v⟩ hy
    rcases S.par n (List.of_mem_zip hy).1 with q | q
    · exact .inl q
    · refine .inr ⟨q, ?_⟩
      exact PySem.W.cellsFrom_some _ _ _ (.inl q)
  refine codeAny_call_function room.depth (inK _ _ look) rfl S.co S.gen rfl (PySem.W.codeRec_of inK code) ?_
  refine bnd _ _ _ _ (wpAny_newFunctionEnv_cells S.kind kinds ?_)
  rintro env rfl s1 made
  refine ⟨(at0.mod.nolimit.keeps fun b o e => (at0.bs b o e).1).keeps made.toInCall.keep, codeAny_func ?_⟩
  have inv0 := inv_start (CX := L2.CX G.P G.w) (E := E) S room.hd at0 vl rel made
  have good : GoodS G N scope k (cxOf (L2.CX G.P G.w) G.P G.w G.K G.mg G.base N qual scope f cdv A out s H E) (fun c d _ H => E c d H) :=
    { gl := rfl, nm := rfl, nd := S.nd, sc := rfl, room := room.deeper _, gd := gd, calm := rfl, tk := takes_of rfl rfl rfl rfl, st := rfl, fr := rfl, ex := rfl, own := passes_of rfl, fn := fun _ => rfl }
  have back : ∀ {σ' : Slots} {H' : Hp} {v : V} {u : Value} {s' : Shared}, Inv (cxOf (L2.CX G.P G.w) G.P G.w G.K G.mg G.base N qual scope f cdv A out s H E) [] σ' H' s' → RelV v u → Q v H' → CE out G.P G.w H s Q u s' := by
    intro σ' H' v u s' J rv q
    exact ⟨v, H', J.os, J.bare, J.base, J.hok, rv, q⟩
  refine wpAny_mono ((hbody _ _ good).run [] s1 (L2.start N vs) H _ inv0 (def_body (W := fun c d _ H => E c d H) hNl want)) ?_ fun e s' h => h
  intro fl s' h
  cases fl with
  | next =>
    obtain ⟨σ', H', J, q⟩ := h
    exact back (v := .non) (u := .none) J rfl q
  | ret u =>
    obtain ⟨v, σ', H', J, rv, q⟩ := h
    exact back J rv q
  | brk => obtain ⟨_, _, _, q⟩ := h; exact q.elim
  | cont => obtain ⟨_, _, _, q⟩ := h; exact q.elim
/-- a name that calls a def -/
structure Callee (G : Glob) (k : Nat) (x : Str) (fn : Fn) : Prop where
  ex : ∃ (f : Addr) (fd : FuncData) (ps : List Str), G.mg x = some (.ref f) ∧ PySem.W.keepIn G.K (.ref f) = true ∧ Binds G.K fd ps [] ∧ FnG G k f fd ps fn
theorem run_g {pins : List (Addr × Obj)} {σ : Slots} {H : Hp} {s : Shared} {Q : VK} {us : List Value} {args : Args} {vs : List V} {fn : Fn} (g : Good G N sc k X W) (F : FnG G k f fd ps fn) (b : BindsTo s fd args (ps.zip us))
    (I : Inv X pins σ H s) (r : Vals vs us) (h : tM G.K (fun c d _ H => W c d σ H) fn (vs.map some) H Q) : codeAny (model X.prog X.w) X.A (.call (.ref f) args) (fun r s' => match r with | .ok (.ret u) => EP X pins σ Q u s' | .ok _ => False | .error e => X.xe e s') s := by
  have e : G = glOf X := g.gl.symm
  subst e
  refine codeAny_mono (F.run X.A X.stack s H args us vs Q (fun c d H => W c d σ H) g.room g.gd I.env0 b r h) fun res s' hq => ?_
  cases res with
  | error e => exact passAt g.tk σ pins H s e s' I hq
  | ok fl =>
    cases fl with
    | ret u => exact I.after hq
    | _ => exact hq.elim
theorem g_call {fn : Fn} {j : Nat} {e : Expr} {es : List Expr} {as : List Ar} {p pos : Pos} (g : Good G N sc k X W) (C : Callee G j x fn) (hj : Nat.ble j k = true) (hx : (gloB sc x && dunB x) = true) (ha : ER X W (e :: es) as) (nd : (rfs as).Nodup)
    (he : starEach (e :: es) X.env = (false, eval e X.env) :: starEach es X.env := by rfl) (hpl : (backTo pos (starEach es X.env)).any (·.1) = false := by rfl) : EM X W (.Call (.Name x p) (e :: es) [] pos) (mCall fn as) := by
  have g := g.mono (Nat.le_of_ble_eq_true hj)
  simp only [Bool.and_eq_true] at hx
  obtain ⟨f, fd, ps, hm, hk, hb, F⟩ := C.ex
  have eg : G = glOf X := g.gl.symm
  subst eg
  refine ⟨fun pins s σ H Q I h => ?_⟩
  refine wpAny_Call_Name_kw (ld_glob I (g.glo hx.1) hm ?_ (dun_d hx.2))
  obtain ⟨ρ, F0, hid, so, h⟩ := h
  have h1 : tR X.K W as σ H (fun vs H1 => tM X.K (fun c d _ H => W c d σ H) fn (vs.map some) H1 Q) := by
    refine ⟨ρ, F0, hid, so, REnd.mono Keep.refl (fun bs ρ1 q vs H1 F1 k1 s1 q1 => ?_) (REnd.bind h)⟩
    exact lent s1 nd q1 (REnd.mono k1 (fun b ρ' z => okB.after (K := X.K) k1 z) q)
  refine PySem.W.callWith_K (h₀ := X.base) I.ok.mod.kin hk (thn (ha.run pos pins s σ H _ I h1) fun us s1 ⟨vs, H1, I1, r, q⟩ => ⟨I1.kIn, ?_⟩) he hpl
  have hl : us.length = ps.length := by rw [← r.length]; exact F.vlen q
  have bb := hb s1 us I1.kIn (by rw [List.append_nil]; exact hl)
  rw [List.append_nil] at bb
  exact wpAny_call (codeAny_mono (run_g g F bb I1 r q) fun res s' hq => hq)
end
end ML
/-! # ML9 -/
set_option Elab.async false
set_option linter.all false
set_option maxRecDepth 100000
namespace ML
open PySem PySem.Spec PyProof.Rows L2
/-! ## what a loop goes over -/
/-- J gives the data ds, in every heap that keeps what Hf holds -/
def ItOk (K : PySem.W.Frag) (Hf : Hp) (J : It) (ds : List PyData) : Prop := ∀ (i : Nat) (H : Hp) (O : Addr → Prop), Dom H O → Same Hf (wo H O) →
  (∀ d, ds[i]? = some d → J.go i H ∧ ∀ x H', J.yld i H x H' → Same H H' ∧ DV K (wo H' O) x d) ∧ (ds.length ≤ i → J.stop i H)
def okI (K : PySem.W.Frag) (σ : Slots) (H : Hp) (F : Ow) (hid : Addr → Prop) (R : It → Hp → Prop) (ds : List PyData) (ρ' : Env') : Prop :=
  ∀ J H' F', Keep H (UF F) H' (UF F') → SOk K H' σ ρ' F' hid → ItOk K (wo H' (Un2 F' hid)) J ds → R J H'
def tI (K : PySem.W.Frag) (W : WX) (mi : Mn (List PyData)) : TI := fun σ H R => ∃ ρ F hid, SOk K H σ ρ F hid ∧ REnd K W σ H F hid (okI K σ H F hid R) (mi ρ)
abbrev EI (X : Cx) (W : WX) (tg iter : Expr) (mi : Mn (List PyData)) : Prop := PI X tg iter (tI X.K W mi)
section
variable {K : PySem.W.Frag} {Hf : Hp} {a b : Addr} {xs ys : List V} {ds es : List PyData}
theorem itok_l (h : Hf a = some (.lst xs)) (r : DVs K Hf xs ds) : ItOk K Hf (Itl K a) ds := fun i H O dm sm => by
  have q : SqL K H a xs := SqL.of (wo_low _ _ (sm _ _ h))
  refine ⟨fun d e => ?_, fun hl => ⟨xs, q, by rw [r.len]; exact hl⟩⟩
  obtain ⟨v, ev, dv⟩ := r.getD e
  refine ⟨⟨xs, v, q, ev⟩, ?_⟩
  rintro x H' ⟨rfl, hx⟩
  have := hx xs q
  rw [ev] at this
  cases this
  exact ⟨fun _ _ e => e, dv.mono sm⟩
theorem itok_t (h : SqT K Hf a xs) (r : DVs K Hf xs ds) : ItOk K Hf (Itt K a) ds := fun i H O dm sm => by
  have q : SqT K H a xs := seqT_mono (Same.trans sm wo_low) h
  refine ⟨fun d e => ?_, fun hl => ⟨xs, q, by rw [r.len]; exact hl⟩⟩
  obtain ⟨v, ev, dv⟩ := r.getD e
  refine ⟨⟨xs, v, q, ev⟩, ?_⟩
  rintro x H' ⟨rfl, hx⟩
  have := hx xs q
  rw [ev] at this
  cases this
  exact ⟨fun _ _ e => e, dv.mono sm⟩
def chars (x : Str) : List PyData := x.cps.toList.map fun c => .str ⟨#[c]⟩
theorem itok_s {x : Str} : ItOk K Hf (Its x) (chars x) := fun i H O dm sm => by
  refine ⟨fun d e => ?_, fun hl => by show x.cps.size ≤ i; simpa [chars] using hl⟩
  unfold chars at e
  rw [List.getElem?_map] at e
  cases q : x.cps.toList[i]? with
  | none => rw [q] at e; cases e
  | some c =>
    rw [q] at e
    cases e
    have q' : x.cps[i]? = some c := by simpa using q
    refine ⟨(Array.getElem?_eq_some_iff.mp q').1, ?_⟩
    rintro v H' ⟨rfl, c', e', rfl⟩
    rw [q'] at e'
    cases e'
    exact ⟨fun _ _ e => e, .str _⟩
def rgD (lo : Int) (n : Nat) : List PyData := (List.range n).map fun (i : Nat) => .int (lo + (i : Int))
theorem itok_r {lo : Int} {n : Nat} : ItOk K Hf (Itr lo n) (rgD lo n) := fun i H O dm sm => by
  refine ⟨fun d e => ?_, fun hl => by show n ≤ i; simpa [rgD] using hl⟩
  unfold rgD at e
  rw [List.getElem?_map] at e
  by_cases hi : i < n
  · rw [List.getElem?_range hi] at e
    cases e
    refine ⟨hi, ?_⟩
    rintro v H' ⟨rfl, rfl⟩
    exact ⟨fun _ _ e => e, .int _⟩
  · rw [List.getElem?_eq_none (by simpa using hi)] at e
    cases e
/-- pairs -/
def zipD : List PyData → List PyData → List PyData
  | d :: ds, e :: es => .tuple [d, e] :: zipD ds es
  | _, _ => []
theorem zipD_at : ∀ {ds es : List PyData} {i : Nat} {d : PyData}, (zipD ds es)[i]? = some d → ∃ x y, ds[i]? = some x ∧ es[i]? = some y ∧ d = .tuple [x, y]
  | [], _, _, _, e => by simp [zipD] at e
  | _ :: _, [], _, _, e => by simp [zipD] at e
  | x :: xs, y :: ys, 0, d, e => ⟨x, y, rfl, rfl, by simpa [zipD] using e.symm⟩
  | x :: xs, y :: ys, i + 1, d, e => by simpa using zipD_at (ds := xs) (es := ys) (i := i) (d := d) (by simpa [zipD] using e)
theorem zipD_len : ∀ {ds es : List PyData}, (zipD ds es).length = min ds.length es.length
  | [], _ => by simp [zipD]
  | _ :: _, [] => by simp [zipD]
  | x :: xs, y :: ys => by simp only [zipD, List.length_cons, zipD_len]; omega
theorem pair_new {H : Hp} {O : Addr → Prop} {T : Addr} {x y : V} {d e : PyData} (dm : Dom H O) (hT : H T = none) (dx : DV K (wo H O) x d) (dy : DV K (wo H O) y e) : Same H (upd H T (.tup [x, y])) ∧ DV K (wo (upd H T (.tup [x, y])) O) (.ref T) (.tuple [d, e]) := by
  have sm : Same (wo H O) (wo (upd H T (.tup [x, y])) O) := wo_same (same_upd hT) fun _ _ _ z => z
  refine ⟨same_upd hT, .tup (SqT.of (wo_iff.mpr ⟨fun z => ?_, upd_same⟩)) (.cons (dx.mono sm) (.cons (dy.mono sm) .nil))⟩
  obtain ⟨o, eo⟩ := dm T z
  rw [hT] at eo
  cases eo
theorem itok_zl (h : Hf a = some (.lst xs)) (r : DVs K Hf xs ds) (h' : Hf b = some (.lst ys)) (r' : DVs K Hf ys es) : ItOk K Hf (Itz K a b) (zipD ds es) := fun i H O dm sm => by
  have q : SqL K H a xs := SqL.of (wo_low _ _ (sm _ _ h))
  have q' : SqL K H b ys := SqL.of (wo_low _ _ (sm _ _ h'))
  refine ⟨fun d e => ?_, fun hl => ⟨xs, ys, q, q', ?_⟩⟩
  · obtain ⟨x, y, ex, ey, rfl⟩ := zipD_at e
    obtain ⟨v, ev, dv⟩ := r.getD ex
    obtain ⟨w, ew, dw⟩ := r'.getD ey
    refine ⟨⟨xs, ys, v, w, q, q', ev, ew⟩, ?_⟩
    rintro z H' ⟨T, x', y', rfl, hT, rfl, hx, hy⟩
    have e1 := hx xs q
    have e2 := hy ys q'
    rw [ev] at e1
    rw [ew] at e2
    cases e1
    cases e2
    exact pair_new dm hT (dv.mono sm) (dw.mono sm)
  · rw [zipD_len] at hl
    rw [r.len, r'.len]
    omega
theorem itok_zt (h : SqT K Hf a xs) (r : DVs K Hf xs ds) (h' : SqT K Hf b ys) (r' : DVs K Hf ys es) : ItOk K Hf (RZ.ItzT K a b) (zipD ds es) := fun i H O dm sm => by
  have q : SqT K H a xs := seqT_mono (Same.trans sm wo_low) h
  have q' : SqT K H b ys := seqT_mono (Same.trans sm wo_low) h'
  refine ⟨fun d e => ?_, fun hl => ⟨xs, ys, q, q', ?_⟩⟩
  · obtain ⟨x, y, ex, ey, rfl⟩ := zipD_at e
    obtain ⟨v, ev, dv⟩ := r.getD ex
    obtain ⟨w, ew, dw⟩ := r'.getD ey
    refine ⟨⟨xs, ys, v, w, q, q', ev, ew⟩, ?_⟩
    rintro z H' ⟨T, x', y', rfl, hT, rfl, hx, hy⟩
    have e1 := hx xs q
    have e2 := hy ys q'
    rw [ev] at e1
    rw [ew] at e2
    cases e1
    cases e2
    exact pair_new dm hT (dv.mono sm) (dw.mono sm)
  · rw [zipD_len] at hl
    rw [r.len, r'.len]
    omega
end
def itList : PyData → Option (List PyData)
  | .list ds => some ds
  | .tuple ds => some ds
  | .str x => some (chars x)
  | _ => none
def mIt (m : Mn B) : Mn (List PyData) := fun ρ => (asD m ρ).bind fun d ρ1 => Res.of (itList d) ρ1
def mRg1 (ma : Mn (List PyData)) : Mn (List PyData) := fun ρ => (ma ρ).bind fun ds ρ1 => match ds with
  | [.int j] => if -(2 ^ 62) ≤ j ∧ j < 2 ^ 62 then .ok (rgD 0 j.toNat) ρ1 else .bad
  | _ => .bad
def mRg2 (ma : Mn (List PyData)) : Mn (List PyData) := fun ρ => (ma ρ).bind fun ds ρ1 => match ds with
  | [.int i, .int j] => if -(2 ^ 62) ≤ i ∧ i < 2 ^ 62 ∧ -(2 ^ 62) ≤ j ∧ j < 2 ^ 62 then .ok (rgD i (j - i).toNat) ρ1 else .bad
  | _ => .bad
def mZip (ma : Mn (List PyData)) : Mn (List PyData) := fun ρ => (ma ρ).bind fun ds ρ1 => match ds with
  | [.list xs, .list ys] => .ok (zipD xs ys) ρ1
  | [.tuple xs, .tuple ys] => .ok (zipD xs ys) ρ1
  | _ => .bad
section
variable {X : Cx} {W : WX} {tg : Expr}
theorem ei_data {e : Expr} {m : Mn B} (h : EM X W e m) : EI X W tg e (mIt m) := by
  refine ⟨fun pins s σ H R I q => ?_⟩
  obtain ⟨ρ, F, hid, so, q⟩ := q
  unfold mIt at q
  cases e0 : asD m ρ with
  | bad => rw [e0] at q; exact q.elim
  | exc c fs ρ1 =>
    rw [e0] at q
    refine (pi_list (tg := tg) h.d).run pins s σ H R I ⟨ρ, F, hid, so, ?_⟩
    rw [e0]
    exact q
  | ok d ρ1 =>
    rw [e0, Res.bind_ok] at q
    unfold itList at q
    split at q
    · rename_i ds
      have q' : okI X.K σ H F hid R ds ρ1 := q
      refine (pi_list (tg := tg) h.d).run pins s σ H R I ⟨ρ, F, hid, so, ?_⟩
      rw [e0]
      intro v H1 F1 k1 s1 dv
      obtain ⟨a, vs, rfl, ha, hr⟩ := inv_DVl dv
      exact ⟨a, rfl, ⟨vs, SqL.of (lst_low ha)⟩, q' _ H1 F1 k1 s1 (itok_l ha hr)⟩
    · rename_i ds
      have q' : okI X.K σ H F hid R ds ρ1 := q
      refine (pi_tup (tg := tg) h.d).run pins s σ H R I ⟨ρ, F, hid, so, ?_⟩
      rw [e0]
      intro v H1 F1 k1 s1 dv
      obtain ⟨a, vs, rfl, ha, hr⟩ := inv_DVs dv
      exact ⟨a, rfl, ⟨vs, seqT_low ha⟩, q' _ H1 F1 k1 s1 (itok_t ha hr)⟩
    · rename_i x
      have q' : okI X.K σ H F hid R (chars x) ρ1 := q
      refine (pi_str (tg := tg) h.d).run pins s σ H R I ⟨ρ, F, hid, so, ?_⟩
      rw [e0]
      intro v H1 F1 k1 s1 dv
      exact ⟨x, inv_str dv, q' _ H1 F1 k1 s1 itok_s⟩
    · exact q.elim
theorem PI.wk {e : Expr} {t t' : TI} (h : PI X tg e t) (w : ∀ σ H R, t' σ H R → t σ H R) : PI X tg e t' := ⟨fun pins s σ H R I q => h.run pins s σ H R I (w σ H R q)⟩
theorem ei_rg1 {a : Expr} {ma : Mn (List PyData)} {p pos : Pos} (hg : L2.Gl X "range") (hm : X.mg "range" = none) (ha : EA X W [a] ma) (hs : starEach [a] X.env = [(false, eval a X.env)] := by rfl) : EI X W tg (.Call (.Name "range" p) [a] [] pos) (mRg1 ma) :=
  PI.wk (pi_range1 hg hm ha hs) fun σ H R q => by
    obtain ⟨ρ, F, hid, s, q⟩ := q
    refine ⟨ρ, F, hid, s, REnd.mono Keep.refl (fun ds ρ1 q vs H1 F1 k1 s1 q1 => ?_) (REnd.bind q)⟩
    split at q
    · rename_i j
      split at q
      · rename_i hj
        have q' : okI X.K σ H F hid R (rgD 0 j.toNat) ρ1 := q
        cases q1 with
        | cons h1 h2 =>
          cases h2
          rw [inv_int h1]
          exact ⟨j, rfl, hj.1, hj.2, q' _ H1 F1 k1 s1 itok_r⟩
      · exact q.elim
    · exact q.elim
theorem ei_rg2 {a b : Expr} {ma : Mn (List PyData)} {p pos : Pos} (hg : L2.Gl X "range") (hm : X.mg "range" = none) (ha : EA X W [a, b] ma) (hs : starEach [a, b] X.env = [(false, eval a X.env), (false, eval b X.env)] := by rfl) (hs2 : starEach [b] X.env = [(false, eval b X.env)] := by rfl) : EI X W tg (.Call (.Name "range" p) [a, b] [] pos) (mRg2 ma) :=
  PI.wk (pi_range2 hg hm ha hs hs2) fun σ H R q => by
    obtain ⟨ρ, F, hid, s, q⟩ := q
    refine ⟨ρ, F, hid, s, REnd.mono Keep.refl (fun ds ρ1 q vs H1 F1 k1 s1 q1 => ?_) (REnd.bind q)⟩
    split at q
    · rename_i i j
      split at q
      · rename_i hj
        have q' : okI X.K σ H F hid R (rgD i (j - i).toNat) ρ1 := q
        cases q1 with
        | cons h1 h2 =>
          cases h2 with
          | cons h2 h3 =>
            cases h3
            rw [inv_int h1, inv_int h2]
            exact ⟨i, j, rfl, hj, q' _ H1 F1 k1 s1 itok_r⟩
      · exact q.elim
    · exact q.elim
theorem ei_zip {e e2 : Expr} {ma : Mn (List PyData)} {p pos tpos : Pos} {elts : List Expr} {kk : Nat} (hg : L2.Gl X "zip") (hm : X.mg "zip" = none) (ha : EA X W [e, e2] ma)
    (hs : starEach [e, e2] X.env = (false, eval e X.env) :: starEach [e2] X.env := by rfl) (hpl : (backTo pos (starEach [e2] X.env)).any (·.1) = false := by rfl) : EI X W (.Tuple elts kk tpos) (.Call (.Name "zip" p) [e, e2] [] pos) (mZip ma) :=
  PI.wk (RZ.pi_zipA hg hm ha hs hpl) fun σ H R q => by
    obtain ⟨ρ, F, hid, s, q⟩ := q
    refine ⟨ρ, F, hid, s, REnd.mono Keep.refl (fun ds ρ1 q vs H1 F1 k1 s1 q1 => ?_) (REnd.bind q)⟩
    split at q
    · rename_i xs ys
      have q' : okI X.K σ H F hid R (zipD xs ys) ρ1 := q
      cases q1 with
      | cons h1 h2 =>
        cases h2 with
        | cons h2 h3 =>
          cases h3
          obtain ⟨a, as, rfl, ha, hra⟩ := inv_DVl h1
          obtain ⟨b, bs, rfl, hb, hrb⟩ := inv_DVl h2
          exact ⟨a, b, as, bs, rfl, .inl ⟨SqL.of (lst_low ha), SqL.of (lst_low hb), q' _ H1 F1 k1 s1 (itok_zl ha hra hb hrb)⟩⟩
    · rename_i xs ys
      have q' : okI X.K σ H F hid R (zipD xs ys) ρ1 := q
      cases q1 with
      | cons h1 h2 =>
        cases h2 with
        | cons h2 h3 =>
          cases h3
          obtain ⟨a, as, rfl, ha, hra⟩ := inv_DVs h1
          obtain ⟨b, bs, rfl, hb, hrb⟩ := inv_DVs h2
          exact ⟨a, b, as, bs, rfl, .inr ⟨seqT_low ha, seqT_low hb, q' _ H1 F1 k1 s1 (itok_zt ha hra hb hrb)⟩⟩
    · exact q.elim
end
end ML
/-! # ML10 -/
set_option Elab.async false
set_option linter.all false
set_option maxRecDepth 100000
namespace ML
open PySem PySem.Spec PyProof.Rows L2
/-! ## targets -/
abbrev Bd := PyData → Env' → Option Env'
abbrev Bds := List PyData → Env' → Option Env'
def bName (i : Nat) : Bd := fun d ρ => some (ρ.set i (some (.val d)))
def bNil : Bds := fun ds ρ => match ds with
  | [] => some ρ
  | _ :: _ => none
def bCons (b : Bd) (bs : Bds) : Bds := fun ds ρ => match ds with
  | [] => none
  | d :: ds => (b d ρ).bind (bs ds)
def bTup (n : Nat) (bs : Bds) : Bd := fun d ρ => match d with
  | .tuple ds => if ds.length = n then bs ds ρ else none
  | _ => none
def tG (K : PySem.W.Frag) (P : Nat → Bool) (b : Bd) : TG := fun v σ H Q => ∃ ρ F hid d, SOk K H σ ρ F hid ∧ DV K (wo H (Un2 F hid)) v d ∧ ∃ ρ', b d ρ = some ρ' ∧
  ∀ σ' F', Agree P σ σ' → (∀ a, UF F' a → UF F a) → SOk K H σ' ρ' F' hid → Q σ' H
def tGs (K : PySem.W.Frag) (P : Nat → Bool) (b : Bds) : TGs := fun vs σ H Q => ∃ ρ F hid ds, SOk K H σ ρ F hid ∧ DVs K (wo H (Un2 F hid)) vs ds ∧ ∃ ρ', b ds ρ = some ρ' ∧
  ∀ σ' F', Agree P σ σ' → (∀ a, UF F' a → UF F a) → SOk K H σ' ρ' F' hid → Q σ' H
theorem PG.wk {X : Cx} {e : Expr} {t t' : TG} (h : PG X e t) (w : ∀ v σ H Q, t' v σ H Q → t v σ H Q) : PG X e t' := ⟨fun pins s σ H v u Q I r q => h.run pins s σ H v u Q I r (w v σ H Q q)⟩
theorem PGs.wk {X : Cx} {e : List Expr} {t t' : TGs} (h : PGs X e t) (w : ∀ v σ H Q, t' v σ H Q → t v σ H Q) : PGs X e t' := ⟨fun pins s σ H v u Q I r q => h.run pins s σ H v u Q I r (w v σ H Q q)⟩
section
variable {X : Cx} {P : Nat → Bool}
theorem SOk.putD {K : PySem.W.Frag} {H : Hp} {σ : Slots} {ρ : Env'} {F : Ow} {hid : Addr → Prop} {v : V} {d : PyData} (s : SOk K H σ ρ F hid) (q : DV K (wo H (Un2 F hid)) v d) (i : Nat) :
    SOk K H (σ.set i (some v)) (ρ.set i (some (.val d))) (setF F i fun _ => False) hid ∧ ∀ a, UF (setF F i fun _ => False) a → UF F a := by
  have sn : SOk K H σ ρ F fun a => hid a ∨ False := s.drop fun _ z => z.elim (fun z => z) False.elim
  have k : Keep H (UF F) H fun a => UF F a ∨ False := Keep.refl.less fun _ z => z.elim (fun z => z) False.elim
  have o : OwnB K (wo H (Un2 F fun a => hid a ∨ False)) H v (.val d) fun _ => False := q.mono (wo_iff_same fun a => by
    constructor
    · exact fun z => z.imp (fun z => z) .inl
    · exact fun z => z.imp (fun z => z) fun z => z.elim (fun z => z) False.elim)
  refine ⟨(SOk.put (i := i) s k sn o).1, ?_⟩
  rintro a ⟨j, ⟨_, f⟩ | ⟨_, f⟩⟩
  · exact f.elim
  · exact ⟨j, f⟩
theorem eg_name {i : Nat} {x : Str} {pos : Pos} (hp : P i = false) (hN : X.N.Nodup) (hi : X.N[i]? = some x) (hx : L2.Loc X.env.scope x) (hf : X.fn x = true ∨ X.env.scope.names.lookup x = some .local) : PG X (.Name x pos) (tG X.K P (bName i)) :=
  PG.wk (pg_name hN hi hx hf) fun v σ H Q q => by
    obtain ⟨ρ, F, hid, d, s, dv, ρ', e, q⟩ := q
    cases e
    obtain ⟨s2, sub⟩ := s.putD dv i
    exact q _ _ (Agree.set hp) sub s2
theorem egs_nil : PGs X [] (tGs X.K P bNil) := PGs.wk pgs_nil fun v σ H Q q => by
  obtain ⟨ρ, F, hid, ds, s, dv, ρ', e, q⟩ := q
  cases dv with
  | cons _ _ => cases e
  | nil =>
    cases e
    exact ⟨rfl, q σ F Agree.refl (fun _ z => z) s⟩
theorem egs_cons {e : Expr} {es : List Expr} {b : Bd} {bs : Bds} (h : PG X e (tG X.K P b)) (h2 : PGs X es (tGs X.K P bs)) (hs : (assignEach (e :: es) X.env).map (·.2) = assign e X.env :: (assignEach es X.env).map (·.2) := by rfl) : PGs X (e :: es) (tGs X.K P (bCons b bs)) :=
  PGs.wk (pgs_cons h h2 hs) fun vs σ H Q q => by
    obtain ⟨ρ, F, hid, ds, s, dv, ρ', e, q⟩ := q
    cases dv with
    | nil => cases e
    | cons d1 dr =>
      rename_i v vs d ds
      unfold bCons at e
      cases e1 : b d ρ with
      | none => simp [e1] at e
      | some ρ1 =>
        simp only [e1, Option.bind_some] at e
        refine ⟨v, vs, rfl, ρ, F, hid, d, s, d1, ρ1, e1, fun σ1 F1 a1 sub1 s1 => ?_⟩
        refine ⟨ρ1, F1, hid, ds, s1, dr.mono (wo_same (fun _ _ e => e) fun a _ _ z => z.imp (sub1 a) fun z => z), ρ', e, fun σ2 F2 a2 sub2 s2 => ?_⟩
        exact q σ2 F2 (a1.trans a2) (fun a z => sub1 a (sub2 a z)) s2
theorem eg_tup {es : List Expr} {kk n : Nat} {bs : Bds} {pos : Pos} (hc : X.calm = true) (h : PGs X es (tGs X.K P bs)) (hn : (assignEach es X.env).length = n := by rfl) (hst : (assignEach es X.env).findIdx? (·.1) = none := by rfl) : PG X (.Tuple es kk pos) (tG X.K P (bTup n bs)) :=
  PG.wk (pg_tup hc h hn hst) fun v σ H Q q => by
    obtain ⟨ρ, F, hid, d, s, dv, ρ', e, q⟩ := q
    unfold bTup at e
    split at e
    · rename_i ds
      split at e
      · rename_i hl
        obtain ⟨a, vs, rfl, sa, dr⟩ := inv_DVs dv
        exact ⟨a, vs, rfl, seqT_low sa, by rw [dr.len]; exact hl, ρ, F, hid, ds, s, dr, ρ', e, q⟩
      · cases e
    · cases e
end

/-! ## for -/
def loopS (bnd : Bd) (body : Sm) : List PyData → Sm
  | [], ρ => .nx ρ
  | d :: ds, ρ => match bnd d ρ with
    | none => .bad
    | some ρ1 => match body ρ1 with
      | .nx ρ2 => loopS bnd body ds ρ2
      | .ct ρ2 => loopS bnd body ds ρ2
      | .bk ρ2 => .nx ρ2
      | .rt b ρ2 => .rt b ρ2
      | .exc c fs ρ2 => .exc c fs ρ2
      | .bad => .bad
def sFor (mi : Mn (List PyData)) (bnd : Bd) (body : Sm) : Sm := fun ρ => (mi ρ).go fun ds ρ1 => loopS bnd body ds ρ1
theorem drop_at {α : Type} {ds : List α} {i : Nat} (h : i < ds.length) : ds.drop i = ds[i] :: ds.drop (i + 1) := List.drop_eq_getElem_cons h
section
variable {X : Cx} {W : WX} {P : Nat → Bool}
theorem es_for {tg iter : Expr} {body : List Stmt} {mi : Mn (List PyData)} {bnd : Bd} {mb : Sm} {pos : Pos} (hp : PassesOwn (model X.prog X.w) X.A X.env X.xe) (hc : X.calm = true) (hi : EI X W tg iter mi) (hg : PG X tg (tG X.K P bnd)) (hb : ESs X W P body mb)
    (hs : ∀ x, foldedSetIterable iter X.env x = pure x := by intro _; rfl) : ES X W P (.For tg iter body [] pos) (sFor mi bnd mb) :=
  PS.wk (ps_for hp hc hi hg hb hs) fun D σ H q => by
    obtain ⟨ρ, F, hid, s, q⟩ := q
    refine ⟨ρ, F, hid, s, REnd.mono Keep.refl (fun ds ρ1 q J H1 F1 k1 s1 itok => ?_) (REnd.of_go q)⟩
    let Wt : Nat → Nat → Slots → Hp → Prop := fun i m σ' H' => m = ds.length - i ∧ i ≤ ds.length ∧ ∃ ρ' F', Keep H1 (UF F1) H' (UF F') ∧ SOk X.K H' σ' ρ' F' hid ∧ SEnd X.K W P σ' H' F' hid D (loopS bnd mb (ds.drop i) ρ')
    refine ⟨Wt, ⟨ds.length, by simp, Nat.zero_le _, ρ1, F1, Keep.refl, s1, SEnd.after (K := X.K) Agree.refl k1 q⟩, ?_⟩
    rintro i m σ' H' ⟨rfl, hi, ρ', F', k', s', q'⟩
    have sm : Same (wo H1 (Un2 F1 hid)) (wo H' (Un2 F' hid)) := k'.wo fun _ _ _ _ z => z
    obtain ⟨it1, it2⟩ := itok i H' (Un2 F' hid) s'.dom sm
    by_cases hl : i < ds.length
    · rw [drop_at hl] at q'
      obtain ⟨hgo, hy⟩ := it1 ds[i] (by simp [hl])
      refine .inr ⟨hgo, Wt (i + 1) (ds.length - (i + 1)), fun σ2 H2 w => ⟨ds.length - (i + 1), by omega, w⟩, fun x H3 y => ?_⟩
      obtain ⟨sm3, dv⟩ := hy x H3 y
      unfold loopS at q'
      cases eb : bnd ds[i] ρ' with
      | none => rw [eb] at q'; exact q'.elim
      | some ρa =>
        rw [eb] at q'
        refine ⟨ρ', F', hid, ds[i], s'.grow sm3, dv, ρa, eb, fun σ2 F2 ag sub s2 => ⟨ρa, F2, hid, s2, ?_⟩⟩
        have k32 : Keep H' (UF F') H3 (UF F2) := (Keep.same sm3).less sub
        cases em : mb ρa with
        | bad => simp only [em] at q'; exact q'.elim
        | rt b ρ2 =>
          simp only [em] at q'
          exact okRt.after (K := X.K) ag k32 q'
        | exc c fs ρ2 =>
          simp only [em] at q'
          exact okX.after (K := X.K) ag k32 q'
        | bk ρ2 =>
          simp only [em] at q'
          exact okS.after (K := X.K) (Q := D.nx) ag k32 q'
        | nx ρ2 =>
          simp only [em] at q'
          intro σ4 H4 F4 ag4 k4 s4
          exact ⟨rfl, hl, ρ2, F4, (k'.trans k32).trans k4, s4, SEnd.after (K := X.K) (ag.trans ag4) (k32.trans k4) q'⟩
        | ct ρ2 =>
          simp only [em] at q'
          intro σ4 H4 F4 ag4 k4 s4
          exact ⟨rfl, hl, ρ2, F4, (k'.trans k32).trans k4, s4, SEnd.after (K := X.K) (ag.trans ag4) (k32.trans k4) q'⟩
    · have e : i = ds.length := by omega
      subst e
      rw [List.drop_length] at q'
      have q2 : okS X.K P σ' H' F' hid D.nx ρ' := q'
      exact .inl ⟨it2 (Nat.le_refl _), q2 σ' H' F' Agree.refl Keep.refl s'⟩
end

/-! ## comprehensions -/
def wipeE (ρ : Env') : List Nat → Env'
  | [] => ρ
  | v :: vs => (wipeE ρ vs).set v none
def restE (ρ0 : Env') : List Nat → Env' → Env'
  | [], ρ => ρ
  | v :: vs, ρ => (restE ρ0 vs ρ).set v (ρ0[v]?).join
theorem wipeE_len (ρ : Env') : ∀ vs : List Nat, (wipeE ρ vs).length = ρ.length
  | [] => rfl
  | v :: vs => by unfold wipeE; rw [List.length_set, wipeE_len ρ vs]
theorem wipeE_some {ρ : Env'} {i : Nat} {b : B} : ∀ {vs : List Nat}, (wipeE ρ vs)[i]? = some (some b) → ρ[i]? = some (some b) ∧ i ∉ vs
  | [], h => ⟨h, by simp⟩
  | v :: vs, h => by
    unfold wipeE at h
    by_cases hv : v = i
    · subst hv
      rw [List.getElem?_set] at h
      split at h
      · split at h <;> cases h
      · rename_i z
        exact absurd rfl z
    · rw [List.getElem?_set_ne hv] at h
      obtain ⟨h1, h2⟩ := wipeE_some h
      refine ⟨h1, ?_⟩
      rw [List.mem_cons, not_or]
      exact ⟨fun z => hv z.symm, h2⟩
theorem restE_len (ρ0 ρ : Env') : ∀ vs : List Nat, (restE ρ0 vs ρ).length = ρ.length
  | [] => rfl
  | v :: vs => by unfold restE; rw [List.length_set, restE_len ρ0 ρ vs]
theorem restE_some {ρ0 ρ : Env'} {i : Nat} {b : B} : ∀ {vs : List Nat}, (restE ρ0 vs ρ)[i]? = some (some b) → (i ∈ vs ∧ ρ0[i]? = some (some b)) ∨ (i ∉ vs ∧ ρ[i]? = some (some b))
  | [], h => .inr ⟨by simp, h⟩
  | v :: vs, h => by
    unfold restE at h
    by_cases hv : v = i
    · subst hv
      rw [List.getElem?_set] at h
      rw [if_pos rfl] at h
      split at h
      · left
        refine ⟨List.mem_cons_self, ?_⟩
        have h' := Option.some.inj h
        cases q : ρ0[v]? with
        | none => rw [q] at h'; cases h'
        | some o =>
          rw [q] at h'
          exact congrArg some h'
      · cases h
    · rw [List.getElem?_set_ne hv] at h
      rcases restE_some h with ⟨h1, h2⟩ | ⟨h1, h2⟩
      · exact .inl ⟨List.mem_cons_of_mem _ h1, h2⟩
      · right
        refine ⟨?_, h2⟩
        rw [List.mem_cons, not_or]
        exact ⟨fun z => hv z.symm, h1⟩
theorem wipe_none {σ : Slots} {i : Nat} : ∀ {vs : List Nat}, i ∈ vs → i < σ.length → (wipe σ vs)[i]? = some none
  | [], h, _ => by simp at h
  | v :: vs, h, hl => by
    unfold wipe
    by_cases hv : v = i
    · subst hv
      rw [List.getElem?_set_self (by rw [wipe_length]; exact hl)]
    · rw [List.getElem?_set_ne hv]
      exact wipe_none ((List.mem_cons.mp h).resolve_left fun z => hv z.symm) hl
theorem wipe_eq {σ σ2 : Slots} {vs : List Nat} (ag : Agree (fun i => !decide (i ∈ vs)) σ σ2) : wipe σ2 vs = wipe σ vs := by
  apply List.ext_getElem?
  intro i
  by_cases h : i ∈ vs
  · by_cases hl : i < σ.length
    · rw [wipe_none h hl, wipe_none h (by rw [ag.len]; exact hl)]
    · rw [List.getElem?_eq_none (by rw [wipe_length, ag.len]; omega), List.getElem?_eq_none (by rw [wipe_length]; omega)]
  · rw [wipe_out h, wipe_out h]
    exact ag.at_ i (by simp [h])
theorem wipe_wipe {σ : Slots} {vs : List Nat} : wipe (wipe σ vs) vs = wipe σ vs := by
  apply List.ext_getElem?
  intro i
  by_cases h : i ∈ vs
  · by_cases hl : i < σ.length
    · rw [wipe_none h (by rw [wipe_length]; exact hl), wipe_none h hl]
    · rw [List.getElem?_eq_none (by rw [wipe_length, wipe_length]; omega), List.getElem?_eq_none (by rw [wipe_length]; omega)]
  · rw [wipe_out h]
theorem wo_upd {H : Hp} {O : Addr → Prop} {D : Addr} {o : HO} (h : O D) : wo (upd H D o) O = wo H O := by
  funext b
  unfold wo
  by_cases q : O b
  · rw [if_pos q, if_pos q]
  · rw [if_neg q, if_neg q]
    exact upd_ne fun e => q (e ▸ h)
section
variable {K : PySem.W.Frag} {H H1 : Hp} {σ : Slots} {ρ ρ1 : Env'} {F F1 : Ow} {hid : Addr → Prop} {D : Addr} {vs : List Nat}
theorem SOk.updH {o : HO} (s : SOk K H σ ρ F hid) (h : hid D) : SOk K (upd H D o) σ ρ F hid where
  dom := fun a z => by
    by_cases e : a = D
    · exact ⟨o, by rw [e, upd_same]⟩
    · rw [upd_ne e]
      exact s.dom a z
  apart := s.apart
  hidden := s.hidden
  len := s.len
  at_ := fun i b e => by
    obtain ⟨v, ev, q⟩ := s.at_ i b e
    refine ⟨v, ev, q.mono (H' := upd H D o) ?_ fun a u f e => ?_⟩
    · rw [wo_upd (.inr h)]
      exact fun _ _ e => e
    · rw [upd_ne fun z => s.hidden i a f (by rw [z]; exact h)]
      exact e
theorem SOk.wiped (s : SOk K H σ ρ F hid) (vs : List Nat) : SOk K H (wipe σ vs) (wipeE ρ vs) F hid where
  dom := s.dom
  apart := s.apart
  hidden := s.hidden
  len := by rw [wipeE_len, wipe_length]; exact s.len
  at_ := fun i b e => by
    obtain ⟨e1, n⟩ := wipeE_some e
    obtain ⟨v, ev, q⟩ := s.at_ i b e1
    exact ⟨v, by rw [wipe_out n]; exact ev, q⟩
def ownPlain (vs : List Nat) (ρ : Env') : Bool := vs.all fun v => plainB (ρ[v]?).join
theorem SOk.rest (s : SOk K H (wipe σ vs) ρ F hid) (s1 : SOk K H1 σ ρ1 F1 hid1) (pl : ownPlain vs ρ1 = true) (sm : Same (wo H1 (Un2 F1 hid1)) (wo H (Un2 F hid))) : SOk K H σ (restE ρ1 vs ρ) F hid where
  dom := s.dom
  apart := s.apart
  hidden := s.hidden
  len := by rw [restE_len, s.len, wipe_length]
  at_ := fun i b e => by
    rcases restE_some e with ⟨hm, e⟩ | ⟨hm, e⟩
    · obtain ⟨v, ev, q⟩ := s1.at_ i b e
      refine ⟨v, ev, (VB.mono sm (q.vb fun ds z => ?_)).own⟩
      have p := List.all_eq_true.mp pl i hm
      rw [e, z] at p
      cases p
    · obtain ⟨v, ev, q⟩ := s.at_ i b e
      rw [wipe_out hm] at ev
      exact ⟨v, ev, q⟩
end
def loopC (bnd : Bd) (mt : Mn Bool) (me : Mn PyData) (vs : List Nat) : List PyData → List PyData → Env' → Res (List PyData)
  | [], acc, ρ => .ok acc ρ
  | d :: ds, acc, ρ => match bnd d ρ with
    | none => .bad
    | some ρ1 => (mt ρ1).bind fun k ρ2 => if k = true then (me ρ2).bind fun y ρ3 => if acc.length < 16777216 then loopC bnd mt me vs ds (acc ++ [y]) (wipeE ρ3 vs) else .bad
      else loopC bnd mt me vs ds acc (wipeE ρ2 vs)
def calmR {α : Type} (r : Res α) (k : α → Env' → Res B) : Res B := match r with
  | .ok a ρ => k a ρ
  | _ => .bad
def mLc (mi : Mn (List PyData)) (bnd : Bd) (mt : Mn Bool) (me : Mn PyData) (vs : List Nat) : Mn B := fun ρ => (mi ρ).bind fun ds ρ1 => if ownPlain vs ρ1 = true then calmR (loopC bnd mt me vs ds [] (wipeE ρ1 vs)) fun acc ρ2 => .ok (.lst acc) (restE ρ1 vs ρ2) else .bad
def mYes : Mn Bool := fun ρ => .ok true ρ
/-- the wish of a block: no exception -/
abbrev W0 : WX := fun _ _ _ _ => False
abbrev PTs' (X : Cx) (ifs : List Expr) (m : Mn Bool) : Prop := PTs X ifs (tT X.K W0 m)
theorem PTs.wk {X : Cx} {e : List Expr} {t t' : TT} (h : PTs X e t) (w : ∀ σ H Q, t' σ H Q → t σ H Q) : PTs X e t' := ⟨fun pins s σ H Q I q => h.run pins s σ H Q I (w σ H Q q)⟩
theorem ets_nil {X : Cx} : PTs' X [] mYes := PTs.wk pts_nil fun σ H Q q => by
  obtain ⟨ρ, F, hid, s, q⟩ := q
  have q' : okT X.K σ H F hid Q true ρ := q
  exact q' H F Keep.refl s
theorem ets_one {X : Cx} {c : Expr} {m : Mn Bool} (h : ET X W0 c m) : PTs' X [c] m := pts_one h
section
variable {X : Cx} {W : WX}
theorem tLc_of {mi : Mn (List PyData)} {bnd : Bd} {mt : Mn Bool} {me : Mn PyData} {vs : List Nat} {σ : Slots} {H : Hp} {Q : VK} (h : tM X.K W (mLc mi bnd mt me vs) σ H Q) :
    tLc (tI X.K W mi) (tG X.K (fun i => !decide (i ∈ vs)) bnd) (tT X.K W0 mt) (tD X.K W0 me) vs σ H Q := by
  obtain ⟨ρ, F, hid, s, h⟩ := h
  refine ⟨ρ, F, hid, s, REnd.mono Keep.refl (fun ds ρ1 q J H1 F1 k1 s1 itok D hD => ?_) (REnd.bind h)⟩
  split at q
  · rename_i pl
    let hidD : Addr → Prop := fun a => hid a ∨ a = D
    let fin : Res (List PyData) → Prop := fun r => REnd X.K W σ H F hid (okB X.K σ H F hid Q) (calmR r fun acc ρ2 => .ok (.lst acc) (restE ρ1 vs ρ2))
    let Wt : Nat → Nat → Hp → Prop := fun i m H' => m = ds.length - i ∧ i ≤ ds.length ∧ ∃ ρ' F' acc accV, Keep H1 (UF F1) H' (fun a => UF F' a ∨ a = D) ∧ SOk X.K H' (wipe σ vs) ρ' F' hidD ∧ H' D = some (.lst accV) ∧ DVs X.K (wo H' (Un2 F' hidD)) accV acc ∧ fin (loopC bnd mt me vs (ds.drop i) acc ρ')
    have k0 : Keep H1 (UF F1) (upd H1 D (.lst [])) fun a => UF F1 a ∨ a = D := fun b o e n => by
      have hb : b ≠ D := fun z => by rw [z, hD] at e; cases e
      exact ⟨by rw [upd_ne hb]; exact e, fun z => z.elim n hb⟩
    have s0 : SOk X.K (upd H1 D (.lst [])) σ ρ1 F1 hidD := s1.hide (same_upd hD) (fun a z n => z.elim (fun z => absurd z n) fun z => z ▸ hD) (fun a z => z.elim (fun z => by
      obtain ⟨o, e⟩ := s1.dom a (.inr z)
      exact ⟨o, same_upd hD a o e⟩) fun z => ⟨.lst [], by rw [z]; exact upd_same⟩) fun a z => .inl z
    refine ⟨Wt, ⟨ds.length, by simp, Nat.zero_le _, wipeE ρ1 vs, F1, [], [], k0, s0.wiped vs, upd_same, .nil, q⟩, ?_⟩
    rintro i m H' ⟨rfl, hi, ρ', F', acc, accV, k', s', hDl, dacc, q'⟩
    have smO : Same (wo H1 (Un2 F1 hid)) (wo H' (Un2 F' hidD)) := Same.trans (k'.wo (hid := hid) (hid' := hid) fun _ _ _ _ z => z) (wo_iff_same fun a => by
      constructor
      · rintro ((z | z) | z)
        · exact .inl z
        · exact .inr (.inr z)
        · exact .inr (.inl z)
      · rintro (z | z | z)
        · exact .inl (.inl z)
        · exact .inr z
        · exact .inl (.inr z))
    obtain ⟨it1, it2⟩ := itok i H' (Un2 F' hidD) s'.dom smO
    by_cases hl : i < ds.length
    · rw [drop_at hl] at q'
      obtain ⟨hgo, hy⟩ := it1 ds[i] (by simp [hl])
      refine .inr ⟨hgo, Wt (i + 1) (ds.length - (i + 1)), fun H2 w => ⟨ds.length - (i + 1), by omega, w⟩, fun x H3 y => ?_⟩
      obtain ⟨sm3, dv⟩ := hy x H3 y
      unfold loopC at q'
      cases eb : bnd ds[i] ρ' with
      | none => rw [eb] at q'; exact q'.elim
      | some ρa =>
        rw [eb] at q'
        change fin ((mt ρa).bind _) at q'
        refine ⟨ρ', F', hidD, ds[i], s'.grow sm3, dv, ρa, eb, fun σ2 F2 ag sub s2 => ⟨?_, ρa, F2, hidD, s2, ?_⟩⟩
        · rw [wipe_eq ag, wipe_wipe]
        have weq : wipe σ2 vs = wipe σ vs := by rw [wipe_eq ag, wipe_wipe]
        have k3 : Keep H' (UF F') H3 (UF F2) := (Keep.same sm3).less sub
        have hD3 : H3 D = some (.lst accV) := sm3 _ _ hDl
        have dacc3 : DVs X.K (wo H3 (Un2 F2 hidD)) accV acc := dacc.mono (Keep.wo k3 fun _ _ _ _ z => z)
        have keepD : ∀ {H4 : Hp} {F4 : Ow}, Keep H' (UF F') H4 (UF F4) → Keep H1 (UF F1) H4 fun a => UF F4 a ∨ a = D := fun {H4 F4} kk b o e n => by
          obtain ⟨e2, n2⟩ := k' b o e n
          obtain ⟨e3, n3⟩ := kk b o e2 fun z => n2 (.inl z)
          exact ⟨e3, fun z => z.elim n3 fun z => n2 (.inr z)⟩
        have q1 : REnd X.K W0 σ2 H3 F2 hidD (fun k ρ2 => fin (if k = true then (me ρ2).bind fun y ρ3 => if acc.length < 16777216 then loopC bnd mt me vs (ds.drop (i + 1)) (acc ++ [y]) (wipeE ρ3 vs) else .bad else loopC bnd mt me vs (ds.drop (i + 1)) acc (wipeE ρ2 vs))) (mt ρa) := by
          cases em : mt ρa with
          | ok k ρ2 => rw [em] at q'; exact q'
          | exc c fs ρ2 => rw [em] at q'; exact q'.elim
          | bad => rw [em] at q'; exact q'.elim
        refine REnd.mono Keep.refl (fun k ρ2 q2 H4 F4 k4 s4 => ?_) q1
        have hD4 : H4 D = some (.lst accV) := (k4 D _ hD3 fun ⟨j, f⟩ => s2.hidden j D f (.inr rfl)).1
        have dacc4 : DVs X.K (wo H4 (Un2 F4 hidD)) accV acc := dacc3.mono (k4.wo fun _ _ _ _ z => z)
        cases k with
        | false =>
          simp only [Bool.false_eq_true, if_false] at q2 ⊢
          refine ⟨rfl, hl, wipeE ρ2 vs, F4, acc, accV, keepD (k3.trans k4), ?_, hD4, dacc4, q2⟩
          rw [← weq]
          exact s4.wiped vs
        | true =>
          simp only [if_true] at q2 ⊢
          have q3 : REnd X.K W0 σ2 H4 F4 hidD (fun y ρ3 => fin (if acc.length < 16777216 then loopC bnd mt me vs (ds.drop (i + 1)) (acc ++ [y]) (wipeE ρ3 vs) else .bad)) (me ρ2) := by
            cases em : me ρ2 with
            | ok k ρ2 => rw [em] at q2; exact q2
            | exc c fs ρ2 => rw [em] at q2; exact q2.elim
            | bad => rw [em] at q2; exact q2.elim
          refine ⟨ρ2, F4, hidD, s4, REnd.mono Keep.refl (fun y ρ3 q5 v H5 F5 k5 s5 dv5 => ?_) q3⟩
          have hD5 : H5 D = some (.lst accV) := (k5 D _ hD4 fun ⟨j, f⟩ => s4.hidden j D f (.inr rfl)).1
          have dacc5 : DVs X.K (wo H5 (Un2 F5 hidD)) accV acc := dacc4.mono (k5.wo fun _ _ _ _ z => z)
          split at q5
          · rename_i hz
            refine ⟨accV, hD5, by rw [sl_line, dacc5.len]; exact hz, rfl, hl, wipeE ρ3 vs, F5, acc ++ [y], accV ++ [v], ?_, ?_, upd_same, ?_, q5⟩
            · intro b o e n
              obtain ⟨e2, n2⟩ := keepD ((k3.trans k4).trans k5) b o e n
              exact ⟨by rw [upd_ne fun z => n2 (.inr z)]; exact e2, n2⟩
            · rw [← weq]
              exact (s5.wiped vs).updH (.inr rfl)
            · rw [wo_upd (.inr (.inr rfl))]
              exact dacc5.append (.cons dv5 .nil)
          · exact q5.elim
    · have e : i = ds.length := by omega
      subst e
      rw [List.drop_length] at q'
      have q2 : okB X.K σ H F hid Q (.lst acc) (restE ρ1 vs ρ') := q'
      refine .inl ⟨it2 (Nat.le_refl _), q2 (.ref D) H' F' (fun a => a = D) (k1.trans k') ?_ ⟨D, accV, rfl, rfl, hDl, dacc⟩⟩
      exact SOk.rest (hid1 := hid) s' s1 pl smO
  · exact q.elim
theorem em_lc {elt tg iter : Expr} {ifs : List Expr} {scope : Scope} {own : List (Str × Nat)} {pos : Pos} {mi : Mn (List PyData)} {bnd : Bd} {mt : Mn Bool} {me : Mn PyData} (hc : X.calm = true) (hN : X.N.Nodup) (ok : blkC X.N X.env.scope scope own = true) (hi : EI X W tg iter mi)
    (hb : ∀ (s : Shared) (H : Hp) (C : Addr) (cl : List (Str × Addr)) (fp : List Addr), PG (X.blk s H scope (compEnvC scope cl C X.env) fp) tg (tG X.K (fun i => !decide (i ∈ own.map (·.2))) bnd) ∧ PTs' (X.blk s H scope (compEnvC scope cl C X.env) fp) ifs mt ∧ ED (X.blk s H scope (compEnvC scope cl C X.env) fp) W0 elt me)
    (hs : ∀ x, foldedSetIterable iter X.env x = pure x := by intro _; rfl) : EM X W (.ListComp elt [⟨tg, iter, ifs, 0⟩] scope pos) (mLc mi bnd mt me (own.map (·.2))) :=
  PE.wk (pe_lc hc hN hi (blkOk_by ok) (fun s H C cl fp => (hb s H C cl fp).1) (fun s H C cl fp => (hb s H C cl fp).2.1) (fun s H C cl fp => (hb s H C cl fp).2.2) hs) fun _ _ _ q => tLc_of q
theorem es_setLc {P : Nat → Bool} {i : Nat} {y : Str} {py : Pos} {elt tg iter : Expr} {ifs : List Expr} {scope : Scope} {own : List (Str × Nat)} {pos spos : Pos} {mi : Mn (List PyData)} {bnd : Bd} {mt : Mn Bool} {me : Mn PyData} (hp : P i = false) (hc : X.calm = true) (hN : X.N.Nodup) (hy : X.N[i]? = some y) (hyl : X.env.scope.names.lookup y = some .local)
    (hsw : swapsWith (.ListComp elt [⟨tg, iter, ifs, 0⟩] scope pos) (some (.Name y py)) spos.line X.env = pure true) (ok : blkC X.N X.env.scope scope own = true) (hi : EI X W tg iter mi)
    (hb : ∀ (s : Shared) (H : Hp) (C : Addr) (cl : List (Str × Addr)) (fp : List Addr), PG (X.blk s H scope (compEnvC scope cl C X.env) fp) tg (tG X.K (fun i => !decide (i ∈ own.map (·.2))) bnd) ∧ PTs' (X.blk s H scope (compEnvC scope cl C X.env) fp) ifs mt ∧ ED (X.blk s H scope (compEnvC scope cl C X.env) fp) W0 elt me)
    (hs : ∀ x, foldedSetIterable iter X.env x = pure x := by intro _; rfl) : ES X W P (.Assign [.Name y py] (.ListComp elt [⟨tg, iter, ifs, 0⟩] scope pos) spos) (sSet i (mLc mi bnd mt me (own.map (·.2)))) :=
  PS.wk (ps_setLc hc hN hy hyl hsw hi (blkOk_by ok) (fun s H C cl fp => (hb s H C cl fp).1) (fun s H C cl fp => (hb s H C cl fp).2.1) (fun s H C cl fp => (hb s H C cl fp).2.2) hs) fun D σ H q => by
    obtain ⟨ρ, F, hid, so, q⟩ := q
    refine tLc_of ⟨ρ, F, hid, so, REnd.mono Keep.refl (fun b ρ1 q v H1 F1 fp k1 s1 q1 => ?_) (REnd.of_go q)⟩
    have q' : okS X.K P σ H F hid D.nx (ρ1.set i (some b)) := q
    obtain ⟨s2, k2⟩ := SOk.put (i := i) so k1 s1 q1
    exact q' _ H1 _ (Agree.set hp) k2 s2
end
end ML
/-! # ML11 -/
set_option Elab.async false
set_option linter.all false
set_option maxRecDepth 100000
namespace ML
open PySem PySem.Spec PyProof.Rows L2
/-! ## comprehensions of two clauses -/
section
variable {K : PySem.W.Frag}
/-- what holds of a comprehension's block between two turns -/
structure CIv (K : PySem.W.Frag) (H1 : Hp) (F1 : Ow) (Hf : Hp) (hidD : Addr → Prop) (D : Addr) (σ0 : Slots) (H' : Hp) (ρ' : Env') (F' : Ow) (acc : List PyData) : Prop where
  keep : Keep H1 (UF F1) H' fun a => UF F' a ∨ a = D
  same : Same Hf (wo H' (Un2 F' hidD))
  ok : SOk K H' σ0 ρ' F' hidD
  acc : ∃ accV, H' D = some (.lst accV) ∧ DVs K (wo H' (Un2 F' hidD)) accV acc
variable {H1 : Hp} {F1 : Ow} {Hf : Hp} {hidD : Addr → Prop} {D : Addr} {σ0 τ : Slots} {H H' H'' : Hp} {ρ' : Env'} {F' F'' : Ow} {acc : List PyData}
/-- a part runs in the block -/
theorem CIv.step (c : CIv K H1 F1 Hf hidD D σ0 H' ρ' F' acc) (hD : hidD D) (k : Keep H' (UF F') H'' (UF F'')) {σ2 : Slots} {ρ2 : Env'} (s : SOk K H'' σ2 ρ2 F'' hidD) : CIv K H1 F1 Hf hidD D σ2 H'' ρ2 F'' acc := by
  obtain ⟨accV, hl, dacc⟩ := c.acc
  refine ⟨fun b o e n => ?_, Same.trans c.same (k.wo fun _ _ _ _ z => z), s, accV, (k D _ hl fun ⟨j, f⟩ => c.ok.hidden j D f hD).1, dacc.mono (k.wo fun _ _ _ _ z => z)⟩
  obtain ⟨e2, n2⟩ := c.keep b o e n
  obtain ⟨e3, n3⟩ := k b o e2 fun z => n2 (.inl z)
  exact ⟨e3, fun z => z.elim n3 fun z => n2 (.inr z)⟩
theorem CIv.wiped (c : CIv K H1 F1 Hf hidD D σ0 H' ρ' F' acc) (vs : List Nat) : CIv K H1 F1 Hf hidD D (wipe σ0 vs) H' (wipeE ρ' vs) F' acc := ⟨c.keep, c.same, c.ok.wiped vs, c.acc⟩
theorem CIv.put (c : CIv K H1 F1 Hf hidD D σ0 H' ρ' F' acc) (hD : hidD D) (hD1 : H1 D = none) {accV : List V} (hl : H' D = some (.lst accV)) (da : DVs K (wo H' (Un2 F' hidD)) accV acc) {v : V} {y : PyData} (dv : DV K (wo H' (Un2 F' hidD)) v y) :
    CIv K H1 F1 Hf hidD D σ0 (upd H' D (.lst (accV ++ [v]))) ρ' F' (acc ++ [y]) := by
  refine ⟨fun b o e n => ?_, ?_, c.ok.updH hD, accV ++ [v], upd_same, ?_⟩
  · obtain ⟨e2, n2⟩ := c.keep b o e n
    exact ⟨by rw [upd_ne fun z => n2 (.inr z)]; exact e2, n2⟩
  · rw [wo_upd (.inr hD)]
    exact c.same
  · rw [wo_upd (.inr hD)]
    exact da.append (.cons dv .nil)
theorem CIv.with (c : CIv K H1 F1 Hf hidD D σ0 H' ρ' F' acc) {Hf' : Hp} (h : Same Hf' (wo H' (Un2 F' hidD))) : CIv K H1 F1 Hf' hidD D σ0 H' ρ' F' acc := ⟨c.keep, h, c.ok, c.acc⟩
def CW (K : PySem.W.Frag) (H1 : Hp) (F1 : Ow) (Hf : Hp) (hidD : Addr → Prop) (D : Addr) (σ0 : Slots) (fin : Res (List PyData) → Prop) (bnd : Bd) (mt : Mn Bool) (me : Mn PyData) (vs : List Nat) (ds : List PyData) (i m : Nat) (H' : Hp) : Prop :=
  m = ds.length - i ∧ i ≤ ds.length ∧ ∃ ρ' F' acc, CIv K H1 F1 Hf hidD D σ0 H' ρ' F' acc ∧ fin (loopC bnd mt me vs (ds.drop i) acc ρ')
/-- what a reading's end without exceptions is -/
def calmP {α : Type} (fin : α → Env' → Prop) : Res α → Prop
  | .ok a ρ => fin a ρ
  | _ => False
theorem calmP.bind {α β : Type} {fin : β → Env' → Prop} {r : Res α} {k : α → Env' → Res β} (h : calmP fin (r.bind k)) : calmP (fun a ρ => calmP fin (k a ρ)) r := by
  cases r with
  | ok a ρ => exact h
  | exc c fs ρ => exact h
  | bad => exact h
theorem calmP.rend {α : Type} {fin : α → Env' → Prop} {r : Res α} {σ : Slots} {F : Ow} {hid : Addr → Prop} (h : calmP fin r) : REnd K W0 σ H F hid fin r := by
  cases r with
  | ok a ρ => exact h
  | exc c fs ρ => exact h.elim
  | bad => exact h.elim
variable {fin : List PyData → Env' → Prop} {bnd : Bd} {mt : Mn Bool} {me : Mn PyData} {vs : List Nat} {ds : List PyData} {J : It}
theorem turnC (hD : hidD D) (hD1 : H1 D = none) (hw : wipe τ vs = σ0) (itok : ItOk K Hf J ds) {i m : Nat} (w : CW K H1 F1 Hf hidD D σ0 (calmP fin) bnd mt me vs ds i m H') :
    (J.stop i H' ∧ ∃ ρ' F' acc, CIv K H1 F1 Hf hidD D σ0 H' ρ' F' acc ∧ fin acc ρ') ∨ (J.go i H' ∧ ∃ Nx : Hp → Prop, (∀ H', Nx H' → ∃ m', m' < m ∧ CW K H1 F1 Hf hidD D σ0 (calmP fin) bnd mt me vs ds (i + 1) m' H') ∧
      ∀ x H3, J.yld i H' x H3 → tG K (fun i => !decide (i ∈ vs)) bnd x σ0 H3 fun σ2 H2 => wipe σ2 vs = σ0 ∧ tT K W0 mt σ2 H2 fun b H4 =>
        if b = true then tD K W0 me σ2 H4 fun y H5 => ∃ acc, H5 D = some (.lst acc) ∧ acc.length < sizeLine ∧ Nx (upd H5 D (.lst (acc ++ [y]))) else Nx H4) := by
  obtain ⟨rfl, hi, ρ', F', acc, c, q'⟩ := w
  obtain ⟨it1, it2⟩ := itok i H' (Un2 F' hidD) c.ok.dom c.same
  by_cases hl : i < ds.length
  · rw [drop_at hl] at q'
    obtain ⟨hgo, hy⟩ := it1 ds[i] (by simp [hl])
    refine .inr ⟨hgo, CW K H1 F1 Hf hidD D σ0 (calmP fin) bnd mt me vs ds (i + 1) (ds.length - (i + 1)), fun H2 w => ⟨ds.length - (i + 1), by omega, w⟩, fun x H3 y => ?_⟩
    obtain ⟨sm3, dv⟩ := hy x H3 y
    unfold loopC at q'
    cases eb : bnd ds[i] ρ' with
    | none => rw [eb] at q'; exact q'.elim
    | some ρa =>
      rw [eb] at q'
      have q' := calmP.bind q'
      refine ⟨ρ', F', hidD, ds[i], c.ok.grow sm3, dv, ρa, eb, fun σ2 F2 ag sub s2 => ?_⟩
      have weq : wipe σ2 vs = σ0 := by rw [wipe_eq ag, ← hw, wipe_wipe]
      refine ⟨weq, ρa, F2, hidD, s2, ?_⟩
      have k3 : Keep H' (UF F') H3 (UF F2) := (Keep.same sm3).less sub
      have c3 := c.step hD k3 s2
      refine REnd.mono Keep.refl (fun k ρ2 q2 H4 F4 k4 s4 => ?_) (calmP.rend q')
      have c4 := c3.step hD k4 s4
      cases k with
      | false =>
        simp only [Bool.false_eq_true, if_false] at q2 ⊢
        refine ⟨rfl, hl, wipeE ρ2 vs, F4, acc, ?_, q2⟩
        rw [← weq]
        exact c4.wiped vs
      | true =>
        simp only [if_true] at q2 ⊢
        refine ⟨ρ2, F4, hidD, s4, REnd.mono Keep.refl (fun y ρ3 q5 v H5 F5 k5 s5 dv5 => ?_) (calmP.rend (calmP.bind q2))⟩
        have c5 := c4.step hD k5 s5
        obtain ⟨accV, hD5, dacc5⟩ := c5.acc
        split at q5
        · rename_i hz
          refine ⟨accV, hD5, by rw [sl_line, dacc5.len]; exact hz, rfl, hl, wipeE ρ3 vs, F5, acc ++ [y], ?_, q5⟩
          rw [← weq]
          exact (c5.wiped vs).put hD hD1 hD5 dacc5 dv5
        · exact q5.elim
  · have e : i = ds.length := by omega
    subst e
    rw [List.drop_length] at q'
    exact .inl ⟨it2 (Nat.le_refl _), ρ', F', acc, c, q'⟩
end
def loopC2 (bnd : Bd) (mt : Mn Bool) (mi1 : Mn (List PyData)) (bnd1 : Bd) (mt1 : Mn Bool) (me : Mn PyData) (vs vs1 : List Nat) : List PyData → List PyData → Env' → Res (List PyData)
  | [], acc, ρ => .ok acc ρ
  | d :: ds, acc, ρ => match bnd d ρ with
    | none => .bad
    | some ρ1 => (mt ρ1).bind fun k ρ2 => if k = true then (mi1 ρ2).bind fun ds1 ρ3 => (loopC bnd1 mt1 me vs1 ds1 acc (wipeE ρ3 vs1)).bind fun acc' ρ4 => loopC2 bnd mt mi1 bnd1 mt1 me vs vs1 ds acc' (wipeE ρ4 vs)
      else loopC2 bnd mt mi1 bnd1 mt1 me vs vs1 ds acc (wipeE ρ2 vs)
def mLc2 (mi : Mn (List PyData)) (bnd : Bd) (mt : Mn Bool) (mi1 : Mn (List PyData)) (bnd1 : Bd) (mt1 : Mn Bool) (me : Mn PyData) (vs vs1 : List Nat) : Mn B := fun ρ => (mi ρ).bind fun ds ρ1 => if ownPlain vs ρ1 = true then calmR (loopC2 bnd mt mi1 bnd1 mt1 me vs vs1 ds [] (wipeE ρ1 vs)) fun acc ρ2 => .ok (.lst acc) (restE ρ1 vs ρ2) else .bad
section
variable {X : Cx} {W : WX}
theorem tLc2_of {mi mi1 : Mn (List PyData)} {bnd bnd1 : Bd} {mt mt1 : Mn Bool} {me : Mn PyData} {vs vs1 : List Nat} {σ : Slots} {H : Hp} {Q : VK} (h : tM X.K W (mLc2 mi bnd mt mi1 bnd1 mt1 me vs vs1) σ H Q) (hv : ∀ v ∈ vs1, v ∈ vs) :
    tLc2 (tI X.K W mi) (tG X.K (fun i => !decide (i ∈ vs)) bnd) (tT X.K W0 mt) (tI X.K W0 mi1) (tG X.K (fun i => !decide (i ∈ vs1)) bnd1) (tT X.K W0 mt1) (tD X.K W0 me) vs vs1 σ H Q := by
  obtain ⟨ρ, F, hid, s, h⟩ := h
  refine ⟨ρ, F, hid, s, REnd.mono Keep.refl (fun ds ρ1 q J H1 F1 k1 s1 itok D hD => ?_) (REnd.bind h)⟩
  split at q
  · rename_i pl
    let hidD : Addr → Prop := fun a => hid a ∨ a = D
    have hh : hidD D := .inr rfl
    let fin : List PyData → Env' → Prop := fun acc ρ2 => okB X.K σ H F hid Q (.lst acc) (restE ρ1 vs ρ2)
    have q : calmP fin (loopC2 bnd mt mi1 bnd1 mt1 me vs vs1 ds [] (wipeE ρ1 vs)) := by
      cases e : loopC2 bnd mt mi1 bnd1 mt1 me vs vs1 ds [] (wipeE ρ1 vs) with
      | ok acc ρ2 => rw [e] at q; exact q
      | exc c fs ρ2 => rw [e] at q; exact q.elim
      | bad => rw [e] at q; exact q.elim
    let Hf := wo H1 (Un2 F1 hid)
    let Wt : Nat → Nat → Hp → Prop := fun i m H' => m = ds.length - i ∧ i ≤ ds.length ∧ ∃ ρ' F' acc, CIv X.K H1 F1 Hf hidD D (wipe σ vs) H' ρ' F' acc ∧ calmP fin (loopC2 bnd mt mi1 bnd1 mt1 me vs vs1 (ds.drop i) acc ρ')
    have k0 : Keep H1 (UF F1) (upd H1 D (.lst [])) fun a => UF F1 a ∨ a = D := fun b o e n => by
      have hb : b ≠ D := fun z => by rw [z, hD] at e; cases e
      exact ⟨by rw [upd_ne hb]; exact e, fun z => z.elim n hb⟩
    have s0 : SOk X.K (upd H1 D (.lst [])) σ ρ1 F1 hidD := s1.hide (same_upd hD) (fun a z n => z.elim (fun z => absurd z n) fun z => z ▸ hD) (fun a z => z.elim (fun z => by
      obtain ⟨o, e⟩ := s1.dom a (.inr z)
      exact ⟨o, same_upd hD a o e⟩) fun z => ⟨.lst [], by rw [z]; exact upd_same⟩) fun a z => .inl z
    have sm0 : Same Hf (wo (upd H1 D (.lst [])) (Un2 F1 hidD)) := wo_same (same_upd hD) fun a o e z => by
      rcases z with z | z | z
      · exact .inl z
      · exact .inr z
      · rw [z, hD] at e; cases e
    have c0 : CIv X.K H1 F1 Hf hidD D (wipe σ vs) (upd H1 D (.lst [])) (wipeE ρ1 vs) F1 [] := ⟨k0, sm0, s0.wiped vs, [], upd_same, .nil⟩
    refine ⟨Wt, ⟨ds.length, by simp, Nat.zero_le _, wipeE ρ1 vs, F1, [], c0, q⟩, ?_⟩
    rintro i m H' ⟨rfl, hi, ρ', F', acc, c, q'⟩
    obtain ⟨it1, it2⟩ := itok i H' (Un2 F' hidD) c.ok.dom c.same
    by_cases hl : i < ds.length
    · rw [drop_at hl] at q'
      obtain ⟨hgo, hy⟩ := it1 ds[i] (by simp [hl])
      refine .inr ⟨hgo, Wt (i + 1) (ds.length - (i + 1)), fun H2 w => ⟨ds.length - (i + 1), by omega, w⟩, fun x H3 y => ?_⟩
      obtain ⟨sm3, dv⟩ := hy x H3 y
      unfold loopC2 at q'
      cases eb : bnd ds[i] ρ' with
      | none => rw [eb] at q'; exact q'.elim
      | some ρa =>
        rw [eb] at q'
        have q' := calmP.bind q'
        refine ⟨ρ', F', hidD, ds[i], c.ok.grow sm3, dv, ρa, eb, fun σ2 F2 ag sub s2 => ?_⟩
        have weq : wipe σ2 vs = wipe σ vs := by rw [wipe_eq ag, wipe_wipe]
        refine ⟨weq, ρa, F2, hidD, s2, ?_⟩
        have c3 := c.step hh ((Keep.same sm3).less sub) s2
        refine REnd.mono Keep.refl (fun k ρ2 q2 H4 F4 k4 s4 => ?_) (calmP.rend q')
        have c4 := c3.step hh k4 s4
        cases k with
        | false =>
          simp only [Bool.false_eq_true, if_false] at q2 ⊢
          refine ⟨rfl, hl, wipeE ρ2 vs, F4, acc, ?_, q2⟩
          rw [← weq]
          exact c4.wiped vs
        | true =>
          simp only [if_true] at q2 ⊢
          refine ⟨ρ2, F4, hidD, s4, REnd.mono Keep.refl (fun ds1 ρ3 q5 J1 H5 F5 k5 s5 itok1 => ?_) (calmP.rend (calmP.bind q2))⟩
          have c5 := c4.step hh k5 s5
          have c5' := (c5.wiped vs1).with (Hf' := wo H5 (Un2 F5 hidD)) fun _ _ e => e
          let fin1 : List PyData → Env' → Prop := fun acc' ρ4 => calmP fin (loopC2 bnd mt mi1 bnd1 mt1 me vs vs1 (ds.drop (i + 1)) acc' (wipeE ρ4 vs))
          have q6 : calmP fin1 (loopC bnd1 mt1 me vs1 ds1 acc (wipeE ρ3 vs1)) := calmP.bind q5
          refine ⟨CW X.K H1 F1 (wo H5 (Un2 F5 hidD)) hidD D (wipe σ2 vs1) (calmP fin1) bnd1 mt1 me vs1 ds1, ⟨ds1.length, by simp, Nat.zero_le _, wipeE ρ3 vs1, F5, acc, c5', q6⟩, fun j n H6 w6 => ?_⟩
          rcases turnC hh hD rfl itok1 w6 with ⟨st, ρ7, F7, acc7, c7, q7⟩ | go
          · refine .inl ⟨st, rfl, hl, wipeE ρ7 vs, F7, acc7, ?_, q7⟩
            have c8 := c7.wiped vs
            have e8 : wipe (wipe σ2 vs1) vs = wipe σ vs := by
              rw [← weq]
              apply List.ext_getElem?
              intro z
              by_cases hz : z ∈ vs
              · by_cases hlz : z < σ2.length
                · rw [wipe_none hz (by rw [wipe_length]; exact hlz), wipe_none hz hlz]
                · rw [List.getElem?_eq_none (by rw [wipe_length, wipe_length]; omega), List.getElem?_eq_none (by rw [wipe_length]; omega)]
              · rw [wipe_out hz, wipe_out hz, wipe_out fun z1 => hz (hv z z1)]
            rw [e8] at c8
            exact c8.with (Same.trans c5.same c7.same)
          · exact .inr go
    · have e : i = ds.length := by omega
      subst e
      rw [List.drop_length] at q'
      have q2 : okB X.K σ H F hid Q (.lst acc) (restE ρ1 vs ρ') := q'
      obtain ⟨accV, hDl, dacc⟩ := c.acc
      refine .inl ⟨it2 (Nat.le_refl _), q2 (.ref D) H' F' (fun a => a = D) (k1.trans c.keep) ?_ ⟨D, accV, rfl, rfl, hDl, dacc⟩⟩
      exact SOk.rest (hid1 := hid) c.ok s1 pl c.same
  · exact q.elim
abbrev Blk (X : Cx) (scope : Scope) (f : Cx → Prop) : Prop := ∀ (s : Shared) (H : Hp) (C : Addr) (cl : List (Str × Addr)) (fp : List Addr), f (X.blk s H scope (compEnvC scope cl C X.env) fp)
theorem em_lc2 {elt tg iter tg1 iter1 : Expr} {ifs ifs1 : List Expr} {scope : Scope} {own : List (Str × Nat)} {vs1 : List Nat} {pos : Pos} {mi mi1 : Mn (List PyData)} {bnd bnd1 : Bd} {mt mt1 : Mn Bool} {me : Mn PyData} (hc : X.calm = true) (hN : X.N.Nodup) (ok : blkC X.N X.env.scope scope own = true) (hv : (vs1.all fun v => decide (v ∈ own.map (·.2))) = true) (hi : EI X W tg iter mi)
    (hb : Blk X scope fun Y => (PG Y tg (tG Y.K (fun i => !decide (i ∈ own.map (·.2))) bnd) ∧ PTs' Y ifs mt) ∧ EI Y W0 tg1 iter1 mi1 ∧ (PG Y tg1 (tG Y.K (fun i => !decide (i ∈ vs1)) bnd1) ∧ PTs' Y ifs1 mt1) ∧ ED Y W0 elt me)
    (hs : ∀ x, foldedSetIterable iter X.env x = pure x := by intro _; rfl) (hs1 : ∀ env x, foldedSetIterable iter1 env x = pure x := by intro _ _; rfl) : EM X W (.ListComp elt [⟨tg, iter, ifs, 0⟩, ⟨tg1, iter1, ifs1, 0⟩] scope pos) (mLc2 mi bnd mt mi1 bnd1 mt1 me (own.map (·.2)) vs1) :=
  have hv' : ∀ i ∈ vs1, i ∈ own.map (·.2) := fun i hi => by simpa using List.all_eq_true.mp hv i hi
  PE.wk (pe_lc2 hc hN hi (blkOk_by ok) hv' (fun s H C cl fp => (hb s H C cl fp).1.1) (fun s H C cl fp => (hb s H C cl fp).1.2) (fun s H C cl fp => (hb s H C cl fp).2.1) (fun s H C cl fp => (hb s H C cl fp).2.2.1.1) (fun s H C cl fp => (hb s H C cl fp).2.2.1.2) (fun s H C cl fp => (hb s H C cl fp).2.2.2) hs hs1) fun _ _ _ q => tLc2_of q hv'
theorem es_setLc2 {P : Nat → Bool} {i : Nat} {y : Str} {py : Pos} {elt tg iter tg1 iter1 : Expr} {ifs ifs1 : List Expr} {scope : Scope} {own : List (Str × Nat)} {vs1 : List Nat} {pos spos : Pos} {mi mi1 : Mn (List PyData)} {bnd bnd1 : Bd} {mt mt1 : Mn Bool} {me : Mn PyData} (hp : P i = false) (hc : X.calm = true) (hN : X.N.Nodup) (hy : X.N[i]? = some y) (hyl : X.env.scope.names.lookup y = some .local)
    (hsw : swapsWith (.ListComp elt [⟨tg, iter, ifs, 0⟩, ⟨tg1, iter1, ifs1, 0⟩] scope pos) (some (.Name y py)) spos.line X.env = pure true) (ok : blkC X.N X.env.scope scope own = true) (hv : (vs1.all fun v => decide (v ∈ own.map (·.2))) = true) (hi : EI X W tg iter mi)
    (hb : Blk X scope fun Y => (PG Y tg (tG Y.K (fun i => !decide (i ∈ own.map (·.2))) bnd) ∧ PTs' Y ifs mt) ∧ EI Y W0 tg1 iter1 mi1 ∧ (PG Y tg1 (tG Y.K (fun i => !decide (i ∈ vs1)) bnd1) ∧ PTs' Y ifs1 mt1) ∧ ED Y W0 elt me)
    (hs : ∀ x, foldedSetIterable iter X.env x = pure x := by intro _; rfl) (hs1 : ∀ env x, foldedSetIterable iter1 env x = pure x := by intro _ _; rfl) : ES X W P (.Assign [.Name y py] (.ListComp elt [⟨tg, iter, ifs, 0⟩, ⟨tg1, iter1, ifs1, 0⟩] scope pos) spos) (sSet i (mLc2 mi bnd mt mi1 bnd1 mt1 me (own.map (·.2)) vs1)) :=
  have hv' : ∀ i ∈ vs1, i ∈ own.map (·.2) := fun i hi => by simpa using List.all_eq_true.mp hv i hi
  PS.wk (ps_setLc2 hc hN hy hyl hsw hi (blkOk_by ok) hv' (fun s H C cl fp => (hb s H C cl fp).1.1) (fun s H C cl fp => (hb s H C cl fp).1.2) (fun s H C cl fp => (hb s H C cl fp).2.1) (fun s H C cl fp => (hb s H C cl fp).2.2.1.1) (fun s H C cl fp => (hb s H C cl fp).2.2.1.2) (fun s H C cl fp => (hb s H C cl fp).2.2.2) hs hs1) fun D σ H q => by
    obtain ⟨ρ, F, hid, so, q⟩ := q
    refine tLc2_of ⟨ρ, F, hid, so, REnd.mono Keep.refl (fun b ρ1 q v H1 F1 fp k1 s1 q1 => ?_) (REnd.of_go q)⟩ hv'
    have q' : okS X.K P σ H F hid D.nx (ρ1.set i (some b)) := q
    obtain ⟨s2, k2⟩ := SOk.put (i := i) so k1 s1 q1
    exact q' _ H1 _ (Agree.set hp) k2 s2
end
end ML
/-! # ML12 -/
set_option Elab.async false
set_option linter.all false
set_option maxRecDepth 100000
namespace ML
open PySem PySem.Spec PyProof PyProof.Rows L2
/-! ## built-ins -/
section
variable {G : Glob} {N : List Str} {sc : Scope} {k : Nat} {X : Cx} {W : WX} {x : Str} {p pos : Pos} {e : Expr} {es : List Expr}
/-- a free global: a built-in's name -/
def FreeG (G : Glob) (x : Str) : Prop := G.mg x = none
theorem Good.mgn (g : Good G N sc k X W) {x : Str} (h : FreeG G x) : X.mg x = none := by
  have e := g.gl
  subst e
  exact h
def bltB (sc : Scope) (x : Str) : Bool := gloB sc x && dunB x && !decide (x = "__name__")
theorem blt_n {sc : Scope} {x : Str} (h : bltB sc x = true) : x ≠ "__name__" := by
  unfold bltB at h
  simp only [Bool.and_eq_true, Bool.not_eq_true', decide_eq_false_iff_not] at h
  exact h.2
theorem blt_g {sc : Scope} {x : Str} (h : bltB sc x = true) : gloB sc x = true ∧ dunB x = true := by
  unfold bltB at h
  simp only [Bool.and_eq_true] at h
  exact h.1
theorem g_bi {id : String} {r : List V → Hp → VK → Prop} {gf : GA} {ma : Mn (List PyData)} (g : Good G N sc k X W) (hm : FreeG G x) (hb : bltB sc x = true) (hv : bootBuiltins x = some (.builtin id)) (hc : CallR X (.builtin id) r) (hr : RuleA X.K r gf) (ha : EA X W (e :: es) ma)
    (he : starEach (e :: es) X.env = (false, eval e X.env) :: starEach es X.env := by rfl) (hpl : (backTo pos (starEach es X.env)).any (·.1) = false := by rfl) : EM X W (.Call (.Name x p) (e :: es) [] pos) (mA gf ma) :=
  PE.wk (pe_callB hc (g.glo (blt_g hb).1) (g.mgn hm) hv ha (blt_n hb) (dun_d (blt_g hb).2) he hpl) fun _ _ _ q => opA hr q
theorem g_ty {T : String} {r : List V → Hp → VK → Prop} {gf : GA} {ma : Mn (List PyData)} (g : Good G N sc k X W) (hm : FreeG G x) (hb : bltB sc x = true) (hv : bootBuiltins x = some (.type T)) (hc : CallR X (.type T) r) (hr : RuleA X.K r gf) (ha : EA X W (e :: es) ma)
    (he : starEach (e :: es) X.env = (false, eval e X.env) :: starEach es X.env := by rfl) (hpl : (backTo pos (starEach es X.env)).any (·.1) = false := by rfl) : EM X W (.Call (.Name x p) (e :: es) [] pos) (mA gf ma) :=
  PE.wk (pe_callTy hc (g.glo (blt_g hb).1) (g.mgn hm) hv ha (blt_n hb) (dun_d (blt_g hb).2) he hpl) fun _ _ _ q => opA hr q
end
section
variable {X : Cx}
theorem DVs.one {K : PySem.W.Frag} {H : Hp} {vs : List V} {d : PyData} (h : DVs K H vs [d]) : ∃ v, vs = [v] ∧ DV K H v d := by
  cases h with
  | cons a b => cases b; exact ⟨_, rfl, a⟩
theorem DVs.two {K : PySem.W.Frag} {H : Hp} {vs : List V} {d e : PyData} (h : DVs K H vs [d, e]) : ∃ v w, vs = [v, w] ∧ DV K H v d ∧ DV K H w e := by
  cases h with
  | cons a b =>
    obtain ⟨w, rfl, hw⟩ := DVs.one b
    exact ⟨_, _, rfl, a, hw⟩
def gLen : GA
  | [.list ds] => vI ds.length
  | [.tuple ds] => vI ds.length
  | [.str z] => if z.length ≤ 16777216 then vI z.length else none
  | _ => none
theorem ruleLen : RuleA X.K (fun xs H Q => ∃ x n, xs = [x] ∧ LenV X.K x H n ∧ Q (.int n) H) gLen := by
  intro H O xs ds b Q dm hd hg r
  unfold gLen at hg
  split at hg
  · cases hg
    obtain ⟨v, rfl, dv⟩ := hd.one
    obtain ⟨a, vs, rfl, ha, hr⟩ := inv_DVl dv
    exact ⟨_, _, rfl, .inl ⟨vs, SqL.of (lst_low ha), hr.len.symm⟩, r.here (.int _)⟩
  · cases hg
    obtain ⟨v, rfl, dv⟩ := hd.one
    obtain ⟨a, vs, rfl, ha, hr⟩ := inv_DVs dv
    exact ⟨_, _, rfl, .inr ⟨vs, seqT_low ha, hr.len.symm⟩, r.here (.int _)⟩
  · split at hg
    · cases hg
      obtain ⟨v, rfl, dv⟩ := hd.one
      rw [inv_str dv]
      exact ⟨_, _, rfl, ⟨by rw [sl_line]; assumption, rfl⟩, r.here (.int _)⟩
    · cases hg
  · cases hg
def boolsOf : List PyData → Option (List Bool)
  | [] => some []
  | .bool b :: ds => (boolsOf ds).map (b :: ·)
  | _ :: _ => none
theorem bools_of {K : PySem.W.Frag} {H : Hp} : ∀ {ds : List PyData} {bs : List Bool} {vs : List V}, boolsOf ds = some bs → DVs K H vs ds → vs = bs.map V.bl
  | [], _, _, h, .nil => by cases h; rfl
  | d :: ds, bs, _, h, .cons q r => by
    cases d <;> simp only [boolsOf] at h <;> try cases h
    rename_i b
    cases e : boolsOf ds with
    | none => rw [e] at h; cases h
    | some bs' =>
      rw [e] at h
      cases h
      cases q
      rw [bools_of e r]
      rfl
theorem ints_of {K : PySem.W.Frag} {H : Hp} : ∀ {ds : List PyData} {bs : List Int} {vs : List V}, intsOf ds = some bs → DVs K H vs ds → vs = bs.map V.int
  | [], _, _, h, .nil => by cases h; rfl
  | d :: ds, bs, _, h, .cons q r => by
    cases d <;> simp only [intsOf] at h <;> try cases h
    rename_i b
    cases e : intsOf ds with
    | none => rw [e] at h; cases h
    | some bs' =>
      rw [e] at h
      cases h
      cases q
      rw [ints_of e r]
      rfl
def gAll : GA
  | [.list ds] => (boolsOf ds).bind fun bs => vB (bs.all id)
  | _ => none
theorem ruleAll : RuleA X.K (rAll X.K) gAll := by
  intro H O xs ds b Q dm hd hg r
  unfold gAll at hg
  split at hg
  · rename_i ds
    cases e : boolsOf ds with
    | none => rw [e] at hg; cases hg
    | some bs =>
      rw [e] at hg
      cases hg
      obtain ⟨v, rfl, dv⟩ := hd.one
      obtain ⟨a, vs, rfl, ha, hr⟩ := inv_DVl dv
      have ev := bools_of e hr
      subst ev
      exact ⟨a, bs, rfl, SqL.of (lst_low ha), r.here (.bl _)⟩
  · cases hg
def gAny : GA
  | [.list ds] => (boolsOf ds).bind fun bs => vB (bs.any id)
  | _ => none
theorem ruleAny : RuleA X.K (rAny X.K) gAny := by
  intro H O xs ds b Q dm hd hg r
  unfold gAny at hg
  split at hg
  · rename_i ds
    cases e : boolsOf ds with
    | none => rw [e] at hg; cases hg
    | some bs =>
      rw [e] at hg
      cases hg
      obtain ⟨v, rfl, dv⟩ := hd.one
      obtain ⟨a, vs, rfl, ha, hr⟩ := inv_DVl dv
      have ev := bools_of e hr
      subst ev
      exact ⟨a, bs, rfl, SqL.of (lst_low ha), r.here (.bl _)⟩
  · cases hg
def gTuple : GA
  | [.list ds] => some (.val (.tuple ds))
  | [.tuple ds] => some (.val (.tuple ds))
  | _ => none
theorem ruleTuple : RuleA X.K (fun xs H Q => ∃ p ys, xs = [.ref p] ∧ ((SqL X.K H p ys ∧ ∀ l, H l = none → Q (.ref l) (upd H l (.tup ys))) ∨ (SqT X.K H p ys ∧ Q (.ref p) H))) gTuple := by
  intro H O xs ds b Q dm hd hg r
  unfold gTuple at hg
  split at hg
  · cases hg
    obtain ⟨v, rfl, dv⟩ := hd.one
    obtain ⟨a, vs, rfl, ha, hr⟩ := inv_DVl dv
    exact ⟨a, vs, rfl, .inl ⟨SqL.of (lst_low ha), fun l hl => r.tup dm hr hl⟩⟩
  · cases hg
    obtain ⟨v, rfl, dv⟩ := hd.one
    obtain ⟨a, vs, rfl, ha, hr⟩ := inv_DVs dv
    exact ⟨a, vs, rfl, .inr ⟨seqT_low ha, r.here dv⟩⟩
  · cases hg
def gList : GA
  | [.list ds] => some (.lst ds)
  | [.tuple ds] => some (.lst ds)
  | _ => none
theorem ruleList : RuleA X.K (fun xs H Q => ∃ p ys, xs = [.ref p] ∧ (SqL X.K H p ys ∨ SqT X.K H p ys) ∧ ∀ l, H l = none → Q (.ref l) (upd H l (.lst ys))) gList := by
  intro H O xs ds b Q dm hd hg r
  unfold gList at hg
  split at hg
  · cases hg
    obtain ⟨v, rfl, dv⟩ := hd.one
    obtain ⟨a, vs, rfl, ha, hr⟩ := inv_DVl dv
    exact ⟨a, vs, rfl, .inl (SqL.of (lst_low ha)), fun l hl => r.lst dm hr hl⟩
  · cases hg
    obtain ⟨v, rfl, dv⟩ := hd.one
    obtain ⟨a, vs, rfl, ha, hr⟩ := inv_DVs dv
    exact ⟨a, vs, rfl, .inr (seqT_low ha), fun l hl => r.lst dm hr hl⟩
  · cases hg
def gInt : GA
  | [.int i] => vI i
  | [.bool k] => vI (if k then 1 else 0)
  | _ => none
theorem ruleInt : RuleA X.K (fun xs H Q => (∃ i, xs = [.int i] ∧ Q (.int i) H) ∨ ∃ k, xs = [.bl k] ∧ Q (.int (if k then 1 else 0)) H) gInt := by
  intro H O xs ds b Q dm hd hg r
  unfold gInt at hg
  split at hg
  · cases hg
    obtain ⟨v, rfl, dv⟩ := hd.one
    rw [inv_int dv]
    exact .inl ⟨_, rfl, r.here (.int _)⟩
  · cases hg
    obtain ⟨v, rfl, dv⟩ := hd.one
    rw [inv_bool dv]
    exact .inr ⟨_, rfl, r.here (.int _)⟩
  · cases hg
def gMax2 : GA
  | [.int i, .int j] => vI (if j > i then j else i)
  | _ => none
theorem ruleMax2 : RuleA X.K (fun xs H Q => ∃ i j, xs = [.int i, .int j] ∧ Q (.int (if j > i then j else i)) H) gMax2 := by
  intro H O xs ds b Q dm hd hg r
  unfold gMax2 at hg
  split at hg
  · cases hg
    obtain ⟨v, w, rfl, dv, dw⟩ := hd.two
    rw [inv_int dv, inv_int dw]
    exact ⟨_, _, rfl, r.here (.int _)⟩
  · cases hg
def gMin2 : GA
  | [.int i, .int j] => vI (if j < i then j else i)
  | _ => none
theorem ruleMin2 : RuleA X.K (fun xs H Q => ∃ i j, xs = [.int i, .int j] ∧ Q (.int (if j < i then j else i)) H) gMin2 := by
  intro H O xs ds b Q dm hd hg r
  unfold gMin2 at hg
  split at hg
  · cases hg
    obtain ⟨v, w, rfl, dv, dw⟩ := hd.two
    rw [inv_int dv, inv_int dw]
    exact ⟨_, _, rfl, r.here (.int _)⟩
  · cases hg
def gSum : GA
  | [.list ds] => (intsOf ds).bind fun ns => vI ns.sum
  | _ => none
theorem ruleSum : RuleA X.K (rSum X.K) gSum := by
  intro H O xs ds b Q dm hd hg r
  unfold gSum at hg
  split at hg
  · rename_i ds
    cases e : intsOf ds with
    | none => rw [e] at hg; cases hg
    | some ns =>
      rw [e] at hg
      cases hg
      obtain ⟨v, rfl, dv⟩ := hd.one
      obtain ⟨a, vs, rfl, ha, hr⟩ := inv_DVl dv
      have ev := ints_of e hr
      subst ev
      exact ⟨a, ns, rfl, SqL.of (lst_low ha), r.here (.int _)⟩
  · cases hg
/-- sorted, of ints -/
def insI (n : Int) : List Int → List Int
  | [] => [n]
  | m :: ms => if n ≤ m then n :: m :: ms else m :: insI n ms
def sortI : List Int → List Int
  | [] => []
  | n :: ns => insI n (sortI ns)
theorem insI_perm (n : Int) : ∀ ms : List Int, (insI n ms).Perm (n :: ms)
  | [] => .refl _
  | m :: ms => by
    unfold insI
    split
    · exact .refl _
    · exact ((insI_perm n ms).cons m).trans (.swap n m ms)
theorem sortI_perm : ∀ ns : List Int, (sortI ns).Perm ns
  | [] => .refl _
  | n :: ns => (insI_perm n _).trans ((sortI_perm ns).cons n)
theorem insI_sorted (n : Int) : ∀ {ms : List Int}, ms.Pairwise (· ≤ ·) → (insI n ms).Pairwise (· ≤ ·)
  | [], _ => by simp [insI]
  | m :: ms, h => by
    obtain ⟨h1, h2⟩ := List.pairwise_cons.mp h
    unfold insI
    split
    · rename_i hn
      refine List.pairwise_cons.mpr ⟨fun y hy => ?_, h⟩
      rcases List.mem_cons.mp hy with rfl | hy
      · exact hn
      · exact Int.le_trans hn (h1 y hy)
    · rename_i hn
      refine List.pairwise_cons.mpr ⟨fun y hy => ?_, insI_sorted n h2⟩
      rcases List.mem_cons.mp ((insI_perm n ms).mem_iff.mp hy) with rfl | hy
      · omega
      · exact h1 y hy
theorem sortI_sorted : ∀ ns : List Int, (sortI ns).Pairwise (· ≤ ·)
  | [] => .nil
  | n :: ns => insI_sorted n (sortI_sorted ns)
theorem sorted_uniq : ∀ {a b : List Int}, a.Perm b → a.Pairwise (· ≤ ·) → b.Pairwise (· ≤ ·) → a = b
  | [], b, h, _, _ => (List.nil_perm.mp h).symm
  | x :: xs, [], h, _, _ => absurd h.length_eq (by simp)
  | x :: xs, y :: ys, h, ha, hb => by
    obtain ⟨a1, a2⟩ := List.pairwise_cons.mp ha
    obtain ⟨b1, b2⟩ := List.pairwise_cons.mp hb
    have e : x = y := by
      have hx : x ∈ y :: ys := h.mem_iff.mp List.mem_cons_self
      have hy : y ∈ x :: xs := h.mem_iff.mpr List.mem_cons_self
      rcases List.mem_cons.mp hx with e | hx
      · exact e
      · rcases List.mem_cons.mp hy with e | hy
        · exact e.symm
        · exact Int.le_antisymm (a1 y hy) (b1 x hx)
    subst e
    rw [sorted_uniq ((List.perm_cons x).mp h) a2 b2]
theorem DVs.ofInts {K : PySem.W.Frag} {H : Hp} : ∀ ns : List Int, DVs K H (ns.map V.int) (ns.map PyData.int)
  | [] => .nil
  | n :: ns => .cons (.int n) (DVs.ofInts ns)
def gSorted : GA
  | [.list ds] => (intsOf ds).map fun ns => .lst ((sortI ns).map .int)
  | _ => none
theorem ruleSorted : RuleA X.K (rSortedI X.K) gSorted := by
  intro H O xs ds b Q dm hd hg r
  unfold gSorted at hg
  split at hg
  · rename_i ds
    cases e : intsOf ds with
    | none => rw [e] at hg; cases hg
    | some ns =>
      rw [e] at hg
      cases hg
      obtain ⟨v, rfl, dv⟩ := hd.one
      obtain ⟨a, vs, rfl, ha, hr⟩ := inv_DVl dv
      have ev := ints_of e hr
      subst ev
      refine ⟨a, ns, rfl, SqL.of (lst_low ha), fun ns' p hp hs hH => ?_⟩
      have e2 : ns' = sortI ns := sorted_uniq (hp.trans (sortI_perm ns).symm) hs (sortI_sorted ns)
      subst e2
      exact r.lst dm (DVs.ofInts _) hH
  · cases hg
/-! ### repr -/
def gRepr : GA
  | [d] => if d.showable = true ∧ d.hasDict = false ∧ d.shown.length ≤ 16777216 ∧ d.depth ≤ 100 then some (.val (.str d.shown)) else none
  | _ => none
def rRepr (X : Cx) : List V → Hp → VK → Prop := fun xs H Q => ∃ v d O, xs = [v] ∧ DV X.K (wo H O) v d ∧ d.showable = true ∧ d.hasDict = false ∧ d.shown.length ≤ 16777216 ∧ d.depth ≤ 100 ∧ Q (.str d.shown) H
theorem call_repr (hu : X.A.units + 200 < cLine) (hg : X.A.guards = some []) : CallR X (.builtin "repr") (rRepr X) := by
  intro pins s σ H xs us Q I r h
  obtain ⟨v, d, O, rfl, dv, h1, h2, h3, h4, q⟩ := h
  obtain ⟨u, rfl, rx⟩ := vals1 r
  have dv' : DV X.K H v d := dv.mono wo_low
  have fin : ∀ h' tk t, (∀ b o, s.heap.get? b = some o → h'.get? b = some o) → EP X pins σ Q (.str d.shown t) { s with heap := h', toks := tk } := fun h' tk t hk => ⟨.str _, H, I.kept hk, ⟨_, rfl⟩, q⟩
  have ref : ∀ a, u = .ref a → wpAny (model X.prog X.w) X.A (call (.builtin "repr") [u]) (EP X pins σ Q) X.xe s := fun a e => by
    obtain ⟨as, rd⟩ := DV.reads I d v u dv' rx
    subst e
    exact repr_of_reads' rd h1 (fun z => by rw [h2] at z; cases z) hg (by omega) (fun _ _ e => e) (fun h' t tk hk => fin h' tk t hk) (by rw [sl_line]; exact h3)
  cases dv' with
  | non =>
    cases rx
    exact P.repr_of_none (fin s.heap _ _ fun _ _ e => e)
  | bl b =>
    cases rx
    exact P.repr_of_bool (fin s.heap _ _ fun _ _ e => e)
  | int i =>
    obtain ⟨t, rfl⟩ := rx
    exact P.repr_of_int (of_decide_eq_true h1) (fin s.heap _ _ fun _ _ e => e)
  | str x =>
    obtain ⟨t, rfl⟩ := rx
    exact P.repr_of_str (fin s.heap _ _ fun _ _ e => e) (by rw [sl_line]; exact h3)
  | lst a b => cases rx; exact ref _ rfl
  | tup a b => cases rx; exact ref _ rfl
  | dic a => cases rx; exact ref _ rfl
theorem ruleRepr : RuleA X.K (rRepr X) gRepr := by
  intro H O xs ds b Q dm hd hg r
  unfold gRepr at hg
  split at hg
  · split at hg
    · rename_i hh
      cases hg
      obtain ⟨v, rfl, dv⟩ := hd.one
      exact ⟨v, _, O, rfl, dv, hh.1, hh.2.1, hh.2.2.1, hh.2.2.2, r.here (.str _)⟩
    · cases hg
  · cases hg
end
end ML
/-! # ML13 -/
set_option Elab.async false
set_option linter.all false
set_option maxRecDepth 100000
namespace ML
open PySem PySem.Spec PyProof PyProof.Rows L2
/-! ## lists of one's own: read, changed -/
section
variable {K : PySem.W.Frag} {H : Hp} {σ : Slots} {ρ : Env'} {F : Ow} {hid : Addr → Prop} {i : Nat} {a : Addr}
theorem SOk.mutate (s : SOk K H σ ρ F hid) (hf : F i a) (hs : σ[i]? = some (some (.ref a))) {vs' : List V} {ds' : List PyData} (r : DVs K (wo H (Un2 F hid)) vs' ds') :
    SOk K (upd H a (.lst vs')) σ (ρ.set i (some (.lst ds'))) F hid ∧ Keep H (UF F) (upd H a (.lst vs')) (UF F) ∧ wo (upd H a (.lst vs')) (Un2 F hid) = wo H (Un2 F hid) := by
  have hin : Un2 F hid a := .inl ⟨i, hf⟩
  have e0 : wo (upd H a (.lst vs')) (Un2 F hid) = wo H (Un2 F hid) := wo_upd hin
  refine ⟨⟨fun b z => ?_, s.apart, s.hidden, by rw [List.length_set]; exact s.len, fun j b e => ?_⟩, fun b o e n => ⟨by rw [upd_ne fun z => n (by rw [z]; exact ⟨i, hf⟩)]; exact e, n⟩, e0⟩
  · by_cases e : b = a
    · exact ⟨_, by rw [e]; exact upd_same⟩
    · rw [upd_ne e]
      exact s.dom b z
  · by_cases hj : i = j
    · subst hj
      rw [List.getElem?_set] at e
      rw [if_pos rfl] at e
      split at e
      · cases e
        refine ⟨.ref a, hs, a, vs', rfl, hf, upd_same, ?_⟩
        rw [e0]
        exact r
      · cases e
    · rw [List.getElem?_set_ne hj] at e
      obtain ⟨v, ev, o⟩ := s.at_ j b e
      refine ⟨v, ev, o.mono (H' := upd H a (.lst vs')) (by rw [e0]; exact fun _ _ e => e) fun b o f e => ?_⟩
      rw [upd_ne fun z => hj (s.apart i j a hf (by rw [← z]; exact f))]
      exact e
/-- an own list, as it stands -/
theorem SOk.lstAt (s : SOk K H σ ρ F hid) {ds : List PyData} (e : ρ[i]? = some (some (.lst ds))) : ∃ a vs, σ[i]? = some (some (.ref a)) ∧ F i a ∧ H a = some (.lst vs) ∧ DVs K (wo H (Un2 F hid)) vs ds := by
  obtain ⟨v, ev, a, vs, rfl, f, h, r⟩ := s.at_ i _ e
  exact ⟨a, vs, ev, f, h, r⟩
end
/-- is there an own list at i? then go on with what stands there behind m -/
def isL (ρ : Env') (i : Nat) : Bool := match ρ[i]? with
  | some (some (.lst _)) => true
  | _ => false
theorem isL_of {ρ : Env'} {i : Nat} (h : isL ρ i = true) : ∃ ds, ρ[i]? = some (some (.lst ds)) := by
  unfold isL at h
  split at h
  · exact ⟨_, by assumption⟩
  · cases h
def mAppend (i : Nat) (m : Mn PyData) : Mn B := fun ρ => if isL ρ i = true then (m ρ).bind fun d ρ1 => match ρ1[i]? with
  | some (some (.lst ds)) => if ds.length < 16777216 then .ok (.val .none) (ρ1.set i (some (.lst (ds ++ [d])))) else .bad
  | _ => .bad else .bad
def mExtend (i : Nat) (m : Mn PyData) : Mn B := fun ρ => if isL ρ i = true then (m ρ).bind fun d ρ1 => match ρ1[i]?, d with
  | some (some (.lst ds)), .list es => if ds.length + es.length ≤ 16777216 then .ok (.val .none) (ρ1.set i (some (.lst (ds ++ es)))) else .bad
  | _, _ => .bad else .bad
def mPop (i : Nat) : Mn B := fun ρ => match ρ[i]? with
  | some (some (.lst ds)) => match ds[ds.length - 1]? with
    | some d => .ok (.val d) (ρ.set i (some (.lst ds.dropLast)))
    | none => .bad
  | _ => .bad
def mPopAt (i : Nat) (m : Mn PyData) : Mn B := fun ρ => if isL ρ i = true then (m ρ).bind fun kd ρ1 => match ρ1[i]?, kd with
  | some (some (.lst ds)), .int k => if 0 ≤ k ∧ k < 2 ^ 62 then match ds[k.toNat]? with
      | some d => .ok (.val d) (ρ1.set i (some (.lst (ds.eraseIdx k.toNat))))
      | none => .bad
    else .bad
  | _, _ => .bad else .bad
section
variable {X : Cx} {W : WX}
theorem tyL {K : PySem.W.Frag} {H : Hp} {a : Addr} {vs : List V} (h : H a = some (.lst vs)) : tyV K "list" (.ref a) H := .inl ⟨rfl, _, SqL.of h⟩
theorem em_append {x : Str} {i : Nat} {p apos cpos : Pos} {e : Expr} {m : Mn PyData} (hx : PE X (.Name x p) (tVar i)) (he : ED X W e m)
    (hbase : attributeBase (.Name x p) "append" X.env (eval (.Name x p) X.env) = eval (.Name x p) X.env := by rfl)
    (hfew : ((backTo cpos (starEach [e] X.env)).all (fun x => !x.1) && (backToKw cpos (keywordEach [] X.env)).all (fun x => x.1.isSome) && decide (([e] : List Expr).length + ([] : List Keyword).length + (if ([] : List Keyword).isEmpty then 0 else 1) < 30)) = true := by rfl)
    (hline : (apos.endLine == cpos.line) = true := by rfl) (hs : starEach [e] X.env = (false, eval e X.env) :: starEach [] X.env := by rfl) :
    EM X W (.Call (.Attribute (.Name x p) "append" apos) [e] [] cpos) (mAppend i m) :=
  PE.wk (pe_bm PySem.F.plainAttrs_list PySem.F.slot_list_append PySem.F.type_list_append (r := rAppend) mt_append hx (pa_cons he pa_nil hs) hbase hfew hline hs rfl) fun σ H Q q => by
    obtain ⟨ρ, F, hid, s, q⟩ := q
    unfold mAppend at q
    split at q
    · rename_i hl
      obtain ⟨ds0, e0⟩ := isL_of hl
      obtain ⟨a, vs0, ev, f0, h0, r0⟩ := s.lstAt e0
      refine ⟨.ref a, ev, tyL h0, ρ, F, hid, s, REnd.mono Keep.refl (fun d ρ1 q v H1 F1 k1 s1 q1 => ?_) (REnd.bind q)⟩
      split at q
      · rename_i ds e1
        split at q
        · rename_i hz
          obtain ⟨a1, vs1, ev1, f1, h1, r1⟩ := s1.lstAt e1
          rw [ev] at ev1
          cases ev1
          obtain ⟨s2, k2, e2⟩ := s1.mutate f1 ev (r1.append (.cons q1 .nil))
          have q' : okB X.K σ H F hid Q (.val .none) (ρ1.set i (some (.lst (ds ++ [d])))) := q
          exact ⟨a, vs1, v, rfl, rfl, h1, by rw [sl_line, r1.len]; exact hz, okB.val s2 (q'.after (k1.trans k2)) .non⟩
        · exact q.elim
      · exact q.elim
    · exact q.elim
theorem em_extend {x : Str} {i : Nat} {p apos cpos : Pos} {e : Expr} {m : Mn PyData} (hx : PE X (.Name x p) (tVar i)) (he : ED X W e m) (slot : Slot "list" "extend" "list.extend") (hty : typeOf (.builtin "list.extend") = pure (.type "method_descriptor"))
    (hbase : attributeBase (.Name x p) "extend" X.env (eval (.Name x p) X.env) = eval (.Name x p) X.env := by rfl)
    (hfew : ((backTo cpos (starEach [e] X.env)).all (fun x => !x.1) && (backToKw cpos (keywordEach [] X.env)).all (fun x => x.1.isSome) && decide (([e] : List Expr).length + ([] : List Keyword).length + (if ([] : List Keyword).isEmpty then 0 else 1) < 30)) = true := by rfl)
    (hline : (apos.endLine == cpos.line) = true := by rfl) (hs : starEach [e] X.env = (false, eval e X.env) :: starEach [] X.env := by rfl) :
    EM X W (.Call (.Attribute (.Name x p) "extend" apos) [e] [] cpos) (mExtend i m) :=
  PE.wk (pe_bm PySem.F.plainAttrs_list slot hty (r := rExtend) mt_extend hx (pa_cons he pa_nil hs) hbase hfew hline hs rfl) fun σ H Q q => by
    obtain ⟨ρ, F, hid, s, q⟩ := q
    unfold mExtend at q
    split at q
    · rename_i hl
      obtain ⟨ds0, e0⟩ := isL_of hl
      obtain ⟨a, vs0, ev, f0, h0, r0⟩ := s.lstAt e0
      refine ⟨.ref a, ev, tyL h0, ρ, F, hid, s, REnd.mono Keep.refl (fun d ρ1 q v H1 F1 k1 s1 q1 => ?_) (REnd.bind q)⟩
      split at q
      · rename_i ds es e1
        split at q
        · rename_i hz
          obtain ⟨a1, vs1, ev1, f1, h1, r1⟩ := s1.lstAt e1
          rw [ev] at ev1
          cases ev1
          obtain ⟨b, ws, rfl, hb, rb⟩ := inv_DVl q1
          obtain ⟨s2, k2, e2⟩ := s1.mutate f1 ev (r1.append rb)
          have q' : okB X.K σ H F hid Q (.val .none) (ρ1.set i (some (.lst (ds ++ es)))) := q
          exact ⟨a, b, vs1, ws, rfl, rfl, h1, lst_low hb, by rw [sl_line, r1.len, rb.len]; exact hz, okB.val s2 (q'.after (k1.trans k2)) .non⟩
        · exact q.elim
      · exact q.elim
    · exact q.elim
theorem em_pop {x : Str} {i : Nat} {p apos cpos : Pos} (hx : PE X (.Name x p) (tVar i)) (slot : Slot "list" "pop" "list.pop") (hty : typeOf (.builtin "list.pop") = pure (.type "method_descriptor"))
    (hbase : attributeBase (.Name x p) "pop" X.env (eval (.Name x p) X.env) = eval (.Name x p) X.env := by rfl) (hline : (apos.endLine == cpos.line) = true := by rfl) :
    EM X W (.Call (.Attribute (.Name x p) "pop" apos) [] [] cpos) (mPop i) :=
  PE.wk (pe_bm0 PySem.F.plainAttrs_list slot hty (r := rPop) mt_pop hx hbase hline) fun σ H Q q => by
    obtain ⟨ρ, F, hid, s, q⟩ := q
    unfold mPop at q
    split at q
    · rename_i ds e0
      obtain ⟨a, vs, ev, f0, h0, r0⟩ := s.lstAt e0
      split at q
      · rename_i d ed
        obtain ⟨v, e1, dv⟩ := r0.getD ed
        rw [← r0.len] at e1
        have r1 : DVs X.K (wo H (Un2 F hid)) vs.dropLast ds.dropLast := by
          rw [List.dropLast_eq_take, List.dropLast_eq_take, r0.len]
          exact r0.take _
        obtain ⟨s2, k2, e2⟩ := s.mutate f0 ev r1
        have q' : okB X.K σ H F hid Q (.val d) (ρ.set i (some (.lst ds.dropLast))) := q
        refine ⟨.ref a, ev, tyL h0, a, vs, v, rfl, rfl, h0, e1, okB.val s2 (q'.after k2) ?_⟩
        rw [e2]
        exact dv
      · exact q.elim
    · exact q.elim
theorem em_popAt {x : Str} {i : Nat} {p apos cpos : Pos} {e : Expr} {m : Mn PyData} (hx : PE X (.Name x p) (tVar i)) (he : ED X W e m) (slot : Slot "list" "pop" "list.pop") (hty : typeOf (.builtin "list.pop") = pure (.type "method_descriptor"))
    (hbase : attributeBase (.Name x p) "pop" X.env (eval (.Name x p) X.env) = eval (.Name x p) X.env := by rfl)
    (hfew : ((backTo cpos (starEach [e] X.env)).all (fun x => !x.1) && (backToKw cpos (keywordEach [] X.env)).all (fun x => x.1.isSome) && decide (([e] : List Expr).length + ([] : List Keyword).length + (if ([] : List Keyword).isEmpty then 0 else 1) < 30)) = true := by rfl)
    (hline : (apos.endLine == cpos.line) = true := by rfl) (hs : starEach [e] X.env = (false, eval e X.env) :: starEach [] X.env := by rfl) :
    EM X W (.Call (.Attribute (.Name x p) "pop" apos) [e] [] cpos) (mPopAt i m) :=
  PE.wk (pe_bm PySem.F.plainAttrs_list slot hty (r := rPopAt) mt_popAt hx (pa_cons he pa_nil hs) hbase hfew hline hs rfl) fun σ H Q q => by
    obtain ⟨ρ, F, hid, s, q⟩ := q
    unfold mPopAt at q
    split at q
    · rename_i hl
      obtain ⟨ds0, e0⟩ := isL_of hl
      obtain ⟨a, vs0, ev, f0, h0, r0⟩ := s.lstAt e0
      refine ⟨.ref a, ev, tyL h0, ρ, F, hid, s, REnd.mono Keep.refl (fun d ρ1 q v H1 F1 k1 s1 q1 => ?_) (REnd.bind q)⟩
      split at q
      · rename_i ds k e1
        split at q
        · rename_i hk
          split at q
          · rename_i d ed
            obtain ⟨a1, vs1, ev1, f1, h1, r1⟩ := s1.lstAt e1
            rw [ev] at ev1
            cases ev1
            obtain ⟨w, ew, dw⟩ := r1.getD ed
            have hlt : k.toNat < vs1.length := (List.getElem?_eq_some_iff.mp ew).1
            obtain ⟨s2, k2, e2⟩ := s1.mutate f1 ev (r1.erase k.toNat)
            have q' : okB X.K σ H F hid Q (.val d) (ρ1.set i (some (.lst (ds.eraseIdx k.toNat)))) := q
            rw [inv_int q1]
            refine ⟨a, vs1, k, k.toNat, w, rfl, rfl, h1, by omega, by omega, seqIndex_of hk.1 (by omega), ew, okB.val s2 (q'.after (k1.trans k2)) ?_⟩
            rw [e2]
            exact dw
          · exact q.elim
        · exact q.elim
      · exact q.elim
    · exact q.elim
/-- x[k], what x holds stays its own -/
def mIdxV (i : Nat) (m : Mn PyData) : Mn B := fun ρ => match ρ[i]? with
  | some (some _) => (m ρ).bind fun kd ρ1 => match ρ1[i]? with
    | some (some b) => match b.fz with
      | some d => Res.of (gIdx d kd) ρ1
      | none => .bad
    | _ => .bad
  | _ => .bad
theorem em_idxV {x : Str} {i : Nat} {p pos : Pos} {e : Expr} {m : Mn PyData} (hx : PE X (.Name x p) (tVar i)) (he : ED X W e m) (hs : PlainIx e) : EM X W (.Subscript (.Name x p) e pos) (mIdxV i m) :=
  PE.wk (pe_ix ix_seq hx he hs) fun σ H Q q => by
    obtain ⟨ρ, F, hid, s, q⟩ := q
    unfold mIdxV at q
    split at q
    · rename_i b0 e0
      obtain ⟨v0, ev, _⟩ := s.at_ i _ e0
      refine ⟨v0, ev, ρ, F, hid, s, REnd.mono Keep.refl (fun kd ρ1 q y H1 F1 k1 s1 q1 => ?_) (REnd.bind q)⟩
      split at q
      · rename_i b e1
        obtain ⟨v1, ev1, o1⟩ := s1.at_ i _ e1
        rw [ev] at ev1
        cases ev1
        cases ef : b.fz with
        | none => rw [ef] at q; exact q.elim
        | some d =>
          rw [ef] at q
          change REnd X.K W σ H F hid _ (Res.of (gIdx d kd) ρ1) at q
          cases eg : gIdx d kd with
          | none => rw [eg] at q; exact q.elim
          | some b' =>
            rw [eg] at q
            have q' : okB X.K σ H F hid Q b' ρ1 := q
            cases b with
            | val d' =>
              cases ef
              exact opIdx H1 _ v0 y d kd b' Q s1.domU o1 q1 eg (okB.ret s1 (q'.after k1))
            | lst ds =>
              cases ef
              obtain ⟨a, vs, rfl, f, h, r⟩ := o1
              cases kd with
              | int k =>
                obtain ⟨d', e3, e4⟩ := Option.map_eq_some_iff.mp (show (atI ds k).map B.val = some b' from eg)
                subst e4
                obtain ⟨w, e5, dw⟩ := atI_DVs r e3
                rw [inv_int q1]
                exact .inl ⟨a, vs, _, w, rfl, rfl, SqL.of h, e5, okB.val s1 (q'.after k1) dw⟩
              | _ => cases eg
            | exc c fs => cases ef
            | scr ns => cases ef
      · exact q.elim
    · exact q.elim
/-- len(x), what x holds stays its own -/
def mLenV (i : Nat) : Mn B := fun ρ => match ρ[i]? with
  | some (some b) => match b.fz with
    | some d => Res.of (gLen [d]) ρ
    | none => match b with
      | .scr ns => .ok (.val (.int ns.length)) ρ
      | _ => .bad
  | _ => .bad
theorem em_lenV {x : Str} {i : Nat} {p pf pos : Pos} (hx : PE X (.Name x p) (tVar i)) (hg : L2.Gl X "len") (hm : X.mg "len" = none)
    (hs : starEach [.Name x p] X.env = (false, eval (.Name x p) X.env) :: starEach [] X.env := by rfl) : EM X W (.Call (.Name "len" pf) [.Name x p] [] pos) (mLenV i) :=
  PE.wk (pe_callB call_len hg hm (by decide +kernel) (pa_cons hx pa_nil hs) (by decide) (by decide) hs rfl) fun σ H Q q => by
    obtain ⟨ρ, F, hid, s, q⟩ := q
    unfold mLenV at q
    split at q
    · rename_i b e0
      obtain ⟨v, ev, o⟩ := s.at_ i _ e0
      refine ⟨v, ev, ?_⟩
      cases b with
      | val d =>
        simp only [B.fz] at q
        cases eg : gLen [d] with
        | none => rw [eg] at q; exact q.elim
        | some b' =>
          rw [eg] at q
          have q' : okB X.K σ H F hid Q b' ρ := q
          exact ruleLen H _ [v] [d] b' Q s.domU (.cons o .nil) eg (okB.ret s q')
      | lst ds =>
        obtain ⟨a, vs, rfl, f, h, r⟩ := o
        have q' : okB X.K σ H F hid Q (.val (.int ds.length)) ρ := q
        exact ⟨_, _, rfl, .inl ⟨vs, SqL.of h, r.len.symm⟩, okB.val s q' (.int _)⟩
      | exc c fs => exact q.elim
      | scr ns =>
        obtain ⟨a, rfl, h⟩ := o
        have q' : okB X.K σ H F hid Q (.val (.int ns.length)) ρ := q
        exact ⟨_, _, rfl, .inl ⟨_, Same.seq wo_low h, by rw [List.length_map]⟩, okB.val s q' (.int _)⟩
    · exact q.elim
/-- script[k] -/
def mScr (i : Nat) (m : Mn PyData) : Mn B := fun ρ => match ρ[i]? with
  | some (some (.scr ns)) => (m ρ).bind fun kd ρ1 => match kd with
    | .int k => Res.of ((atI ns k).map fun n => .val (.int n)) ρ1
    | _ => .bad
  | _ => .bad
theorem em_scr {x : Str} {i : Nat} {p pos : Pos} {e : Expr} {m : Mn PyData} (hx : PE X (.Name x p) (tVar i)) (he : ED X W e m) (hs : PlainIx e) : EM X W (.Subscript (.Name x p) e pos) (mScr i m) :=
  PE.wk (pe_ix ix_seq hx he hs) fun σ H Q q => by
    obtain ⟨ρ, F, hid, s, q⟩ := q
    unfold mScr at q
    split at q
    · rename_i ns e0
      obtain ⟨v0, ev, a, rfl, hn⟩ := s.at_ i _ e0
      refine ⟨.ref a, ev, ρ, F, hid, s, REnd.mono Keep.refl (fun kd ρ1 q y H1 F1 k1 s1 q1 => ?_) (REnd.bind q)⟩
      split at q
      · rename_i k
        cases e3 : atI ns k with
        | none => rw [e3] at q; exact q.elim
        | some n =>
          rw [e3] at q
          have q' : okB X.K σ H F hid Q (.val (.int n)) ρ1 := q
          rw [inv_int q1]
          have sm : Same (wo H (Un2 F hid)) (wo H1 (Un2 F1 hid)) := k1.wo fun _ _ _ _ z => z
          refine .inl ⟨a, ns.map V.int, k, .int n, rfl, rfl, (Same.trans sm wo_low).seq hn, ?_, okB.val s1 (q'.after k1) (.int _)⟩
          unfold atI at e3 ⊢
          rw [List.length_map]
          cases e4 : ixN ns.length k with
          | none => rw [e4] at e3; cases e3
          | some j =>
            rw [e4] at e3
            have e5 : ns[j]? = some n := e3
            show (ns.map V.int)[j]? = some (.int n)
            rw [List.getElem?_map, e5]
            rfl
      · exact q.elim
    · exact q.elim
/-- x[k] = e -/
def sSub (i : Nat) (mk me : Mn PyData) : Sm := fun ρ => (me ρ).go fun d ρ1 => if isL ρ1 i = true then (mk ρ1).go fun kd ρ2 => match ρ2[i]?, kd with
  | some (some (.lst ds)), .int k => match ixN ds.length k with
    | some j => .nx (ρ2.set i (some (.lst (ds.set j d))))
    | none => .bad
  | _, _ => .bad else .bad
theorem es_sub {P : Nat → Bool} {x : Str} {i : Nat} {p pt pos : Pos} {e ek : Expr} {me mk : Mn PyData} (hx : PE X (.Name x p) (tVar i)) (he : ED X W e me) (hk : ED X W ek mk)
    (ha : ∀ v, assign (.Subscript (.Name x p) ek pt) X.env v = (do
      let ov ← holding [v] (eval (.Name x p) X.env)
      let iv ← holding [v, ov] (eval ek X.env)
      standAt pt
      holding [v, ov, iv] (setItem ov iv v)
      release [v, ov, iv] []) := by intro _; rfl)
    (hs : swapsWithSole [.Subscript (.Name x p) ek pt] e pos.line X.env = pure false := by rfl) (hw : swappedStores [.Subscript (.Name x p) ek pt] e X.env = pure none := by rfl)
    (h1 : (assignEach [.Subscript (.Name x p) ek pt] X.env).map (·.2) = [assign (.Subscript (.Name x p) ek pt) X.env] := by rfl) : ES X W P (.Assign [.Subscript (.Name x p) ek pt] e pos) (sSub i mk me) :=
  PS.wk (ps_asg he (pg_sub hx hk set_list ha) hs hw h1) fun D σ H q => by
    obtain ⟨ρ, F, hid, s, q⟩ := q
    refine ⟨ρ, F, hid, s, REnd.mono Keep.refl (fun d ρ1 q v H1 F1 k1 s1 q1 => ?_) (REnd.of_go q)⟩
    split at q
    · rename_i hl
      obtain ⟨ds0, e0⟩ := isL_of hl
      obtain ⟨a, vs0, ev, f0, h0, r0⟩ := s1.lstAt e0
      refine ⟨.ref a, ev, ρ1, F1, hid, s1, REnd.mono k1 (fun kd ρ2 q y H2 F2 k2 s2 q2 => ?_) (REnd.of_go q)⟩
      split at q
      · rename_i ds k e1
        split at q
        · rename_i j ej
          obtain ⟨a1, vs1, ev1, f1, h1, r1⟩ := s2.lstAt e1
          rw [ev] at ev1
          cases ev1
          have dv2 : DV X.K (wo H2 (Un2 F2 hid)) v d := q1.mono (k2.wo fun _ _ _ _ z => z)
          obtain ⟨s3, k3, e3⟩ := s2.mutate f1 ev (DVs.set dv2 j r1)
          have q' : okS X.K P σ H F hid D.nx (ρ2.set i (some (.lst (ds.set j d)))) := q
          rw [inv_int q2]
          exact ⟨a, vs1, k, j, rfl, rfl, h1, by rw [r1.len]; exact ej, q' σ _ F2 Agree.refl ((k1.trans k2).trans k3) s3⟩
        · exact q.elim
      · exact q.elim
    · exact q.elim
end
end ML
/-! # ML14 -/
set_option Elab.async false
set_option linter.all false
set_option maxRecDepth 100000
namespace ML
open PySem PySem.Spec PyProof PyProof.Rows L2
/-! ## isinstance -/
def tyOf : PyData → String
  | .none => "NoneType"
  | .bool _ => "bool"
  | .int _ => "int"
  | .str _ => "str"
  | .list _ => "list"
  | .tuple _ => "tuple"
  | .dict _ => "dict"
def isiF (tab : List (String × Bool)) (ex : List (Str × Bool)) : B → Option Bool
  | .val d => tab.lookup (tyOf d)
  | .lst _ => tab.lookup "list"
  | .exc c fs => if fs.isEmpty = true then ex.lookup c else none
  | .scr _ => none
def excCB (K : PySem.W.Frag) (D : Addr) : Bool :=
  decide (PySem.W.findIn K (.ref D) "__getattribute__" = some (some (.builtin "BaseException.__getattribute__"))) && decide (PySem.W.findIn K (.ref D) "__getattr__" = some none) && decide (PySem.W.subIn K (.ref D) (.type "BaseException") = some true) &&
  PySem.W.hasDictIn K D && decide (PySem.W.findIn K (.ref D) "__class__" = some (some (.builtin "object.__class__"))) && decide (PySem.W.specialIn K (.builtin "object.__class__") "__get__" = some (some (.builtin "getset_descriptor.__get__"))) &&
  decide (PySem.W.takesIn K (.builtin "object.__class__") = some true) && decide (PySem.W.mroIn K D (.type "object") = some true)
theorem excC_of {K : PySem.W.Frag} {D : Addr} (h : excCB K D = true) : ExcC K D := by
  unfold excCB at h
  simp only [Bool.and_eq_true, decide_eq_true_eq] at h
  obtain ⟨⟨⟨⟨⟨⟨⟨h1, h2⟩, h3⟩, h4⟩, h5⟩, h6⟩, h7⟩, h8⟩ := h
  exact ⟨h1, h2, h3, h4, h5, h6, h7, h8⟩
/-- the tables tell what isinstance asks of the class u -/
structure IsiOk (K : PySem.W.Frag) (u : Value) (tab : List (String × Bool)) (ex : List (Str × Bool)) : Prop where
  ty : ∀ p ∈ tab, PySem.W.kitOne K (.type p.1) u = some p.2
  ex : ∀ p ∈ ex, ExcC K (He.ga K p.1) ∧ PySem.W.kitOne K (.ref (He.ga K p.1)) u = some p.2
def isiTB (T : String) (tab : List (String × Bool)) : Bool := tab.all fun p => decide (kitB p.1 T = some p.2)
theorem isi_ty {K : PySem.W.Frag} {T : String} {tab : List (String × Bool)} (h : isiTB T tab = true) : IsiOk K (.type T) tab [] :=
  ⟨fun p hp => kit_ty (by simpa using List.all_eq_true.mp h p hp), fun p hp => by cases hp⟩
/-- an own class: what must be looked up -/
def isiCB (K : PySem.W.Frag) (c : Str) (tab : List (String × Bool)) (ex : List (Str × Bool)) : Bool :=
  (tab.all fun p => decide (PySem.W.kitOne K (.type p.1) (.ref (He.ga K c)) = some p.2)) && ex.all fun p => excCB K (He.ga K p.1) && decide (PySem.W.kitOne K (.ref (He.ga K p.1)) (.ref (He.ga K c)) = some p.2)
theorem isi_cls {K : PySem.W.Frag} {c : Str} {tab : List (String × Bool)} {ex : List (Str × Bool)} (h : isiCB K c tab ex = true) : IsiOk K (.ref (He.ga K c)) tab ex := by
  unfold isiCB at h
  simp only [Bool.and_eq_true, List.all_eq_true, decide_eq_true_eq] at h
  exact ⟨h.1, fun p hp => ⟨excC_of (h.2 p hp).1, (h.2 p hp).2⟩⟩
theorem lookup_mem {α β : Type} [BEq α] [LawfulBEq α] {a : α} {b : β} : ∀ {l : List (α × β)}, l.lookup a = some b → (a, b) ∈ l
  | [], h => by simp at h
  | (c, d) :: l, h => by
    rw [List.lookup_cons] at h
    cases e : a == c with
    | true =>
      rw [e] at h
      cases h
      rw [beq_iff_eq.mp e]
      exact List.mem_cons_self
    | false =>
      rw [e] at h
      exact List.mem_cons_of_mem _ (lookup_mem h)
section
variable {X : Cx} {W : WX}
def rIsM (X : Cx) : List V → Hp → VK → Prop := fun xs H Q => rIsi X.K xs H Q ∨ ∃ a D c u b, xs = [.ref a, c] ∧ ClsV c u ∧ H a = some (ExcO a D none) ∧ ExcC X.K D ∧ PySem.W.kitOne X.K (.ref D) u = some b ∧ Q (.bl b) H
theorem call_isM : CallR X (.builtin "isinstance") (rIsM X) := by
  intro pins s σ H xs us Q I r h
  rcases h with h | ⟨a, D, c, u, b, rfl, k, ha, C, e, q⟩
  · exact call_isi pins s σ H xs us Q I r h
  · obtain ⟨u1, u2, rfl, r1, r2⟩ := vals2 r
    have e2 := k.eq r2
    subst e2
    cases (show u1 = Value.ref a from r1)
    obtain ⟨⟨oe, vs, hget, hz, hv⟩, _, _⟩ := I.hok a _ ha
    have J : PySem.W.InstAt s.heap a oe D none := by
      obtain ⟨oc, od, oda, osl⟩ := oe
      obtain ⟨h1, h2⟩ := hz
      dsimp only at h1 h2 hv
      subst h1 h2 hv
      exact ⟨hget, rfl, rfl, trivial⟩
    exact PySem.W.kia_one (PySem.W.handS_kitx_exc C.hg C.hk C.hs C.hd C.ha C.hn C.ht C.hm) I.kIn J e (fun z => nomatch z) fun tk => ⟨.bl b, H, I.kept (t' := tk) fun _ _ z => z, rfl, q⟩
theorem tyX_tup {K : PySem.W.Frag} {H : Hp} {a : Addr} {vs : List V} (h : SqT K H a vs) : TyX K H (.ref a) (.type "tuple") := by
  rcases h with (h | ⟨o, h⟩) | ⟨o, its, n, h1, h2, _⟩
  · exact .base (.tup h)
  · exact .fTuple h
  · exact .kTuple h1 h2
theorem tyX_dv {K : PySem.W.Frag} {H : Hp} {v : V} {d : PyData} (h : DV K H v d) : TyX K H v (.type (tyOf d)) := by
  cases h with
  | non => exact .base .non
  | bl b => exact .base (.bl b)
  | int i => exact .base (.int i)
  | str x => exact .base (.str x)
  | lst a b => exact .base (.lst a)
  | tup a b => exact tyX_tup a
  | dic a => exact .base (.dK a)
def mIsi (tab : List (String × Bool)) (ex : List (Str × Bool)) (m : Mn B) : Mn B := fun ρ => (asV m ρ).bind fun b ρ1 => match isiF tab ex b with
  | some k => .ok (.val (.bool k)) ρ1
  | none => .bad
theorem em_isi {e ec : Expr} {m : Mn B} {c : V} {u : Value} {tab : List (String × Bool)} {ex : List (Str × Bool)} {p pos : Pos} (hg : L2.Gl X "isinstance") (hm : X.mg "isinstance" = none) (he : EM X W e m) (hc : PE X ec (tC c)) (hv : ClsV c u) (ok : IsiOk X.K u tab ex)
    (h1 : starEach [e, ec] X.env = (false, eval e X.env) :: starEach [ec] X.env := by rfl) (h2 : starEach [ec] X.env = (false, eval ec X.env) :: starEach [] X.env := by rfl) (hpl : (backTo pos (starEach [ec] X.env)).any (·.1) = false := by rfl) :
    EM X W (.Call (.Name "isinstance" p) [e, ec] [] pos) (mIsi tab ex m) :=
  PE.wk (pe_callB call_isM hg hm boot_isinstance (pa_cons (PE.wk he fun σ H Q q => asV_of q) (pa_cons hc pa_nil h2) h1) (by decide) (by decide) h1 hpl) fun σ H Q q => by
    obtain ⟨ρ, F, hid, s, q⟩ := q
    refine ⟨ρ, F, hid, s, REnd.mono Keep.refl (fun b ρ1 q v H1 F1 k1 s1 q1 => ?_) (REnd.bind q)⟩
    cases ei : isiF tab ex b with
    | none => rw [ei] at q; exact q.elim
    | some k =>
      rw [ei] at q
      have q' : okB X.K σ H F hid Q (.val (.bool k)) ρ1 := q
      have fin : Q (.bl k) H1 := okB.val s1 (q'.after k1) (.bl _)
      cases b with
      | val d =>
        have q2 : DV X.K (wo H1 (Un2 F1 hid)) v d := q1
        exact .inl ⟨v, c, _, u, k, rfl, hv, tyX_dv (q2.mono wo_low), ok.ty _ (lookup_mem ei), fin⟩
      | lst ds =>
        obtain ⟨_, _, _, p, _⟩ := q1
        exact p.elim
      | exc cn fs =>
        have ei : (if fs.isEmpty = true then ex.lookup cn else none) = some k := ei
        split at ei
        · rename_i hf
          obtain ⟨a, d, rfl, ha, hd⟩ := q1
          have ef : fs = [] := by cases fs with
            | nil => rfl
            | cons _ _ => cases hf
          subst ef
          have ed : d = none := by
            rcases hd with ⟨_, hd⟩ | ⟨dd, ks, _, hd⟩
            · exact hd
            · exact absurd rfl hd.1
          subst ed
          obtain ⟨C, kk⟩ := ok.ex _ (lookup_mem ei)
          exact .inr ⟨a, _, c, u, k, rfl, hv, wo_low _ _ ha, C, kk, fin⟩
        · cases ei
      | scr ns => cases ei
end
end ML
/-! # ML15 -/
set_option Elab.async false
set_option linter.all false
set_option maxRecDepth 100000
namespace ML
open PySem PySem.Spec PyProof PyProof.Rows L2
/-! ## list(range(..)), tuple(range(..)), sorted(set(..)) -/
def rgI (a b : Int) : List PyData := (List.range (b - a).toNat).map fun (i : Nat) => .int (a + (i : Int))
def rgOkB (a b : Int) : Bool := decide (-(2 ^ 62) ≤ a ∧ a < 2 ^ 62 ∧ -(2 ^ 62) ≤ b ∧ b < 2 ^ 62 ∧ (b - a).toNat ≤ 2 ^ 24)
theorem rgD_rel {K : PySem.W.Frag} {H : Hp} {a b : Int} : DVs K H (rgV a b) (rgI a b) := by
  unfold rgV rgI
  generalize List.range (b - a).toNat = l
  induction l with
  | nil => exact .nil
  | cons x xs ih => exact .cons (.int _) ih
theorem rgOk_of {a b : Int} (h : rgOkB a b = true) : RgOk a b := of_decide_eq_true (p := _ ∧ _) h
def mLRg1 (m : Mn PyData) : Mn B := fun ρ => (m ρ).bind fun d ρ1 => match d with
  | .int n => if rgOkB 0 n = true then .ok (.lst (rgI 0 n)) ρ1 else .bad
  | _ => .bad
def mTRg1 (m : Mn PyData) : Mn B := fun ρ => (m ρ).bind fun d ρ1 => match d with
  | .int n => if rgOkB 0 n = true then .ok (.val (.tuple (rgI 0 n))) ρ1 else .bad
  | _ => .bad
def mLRg2 (m m2 : Mn PyData) : Mn B := fun ρ => (m ρ).bind fun d ρ1 => (m2 ρ1).bind fun e ρ2 => match d, e with
  | .int a, .int n => if rgOkB a n = true then .ok (.lst (rgI a n)) ρ2 else .bad
  | _, _ => .bad
section
variable {X : Cx} {W : WX}
theorem em_lrg1 {a : Expr} {m : Mn PyData} {p pos p2 pos2 : Pos} (hc : X.calm = true) (hl : L2.Gl X "list") (hlm : X.mg "list" = none) (hg : L2.Gl X "range") (hm : X.mg "range" = none) (ha : ED X W a m) (na : starEach [a] X.env = (false, eval a X.env) :: starEach [] X.env := by rfl)
    (nb : starEach [.Call (.Name "range" p) [a] [] pos] X.env = (false, eval (.Call (.Name "range" p) [a] [] pos) X.env) :: starEach [] X.env := by rfl) : EM X W (.Call (.Name "list" p2) [.Call (.Name "range" p) [a] [] pos] [] pos2) (mLRg1 m) :=
  PE.wk (pe_listRg hc hl hlm (prg_1 hg hm ha na) nb) fun σ H Q q => by
    obtain ⟨ρ, F, hid, s, q⟩ := q
    refine ⟨ρ, F, hid, s, REnd.mono Keep.refl (fun d ρ1 q v H1 F1 k1 s1 q1 => ?_) (REnd.bind q)⟩
    split at q
    · rename_i n
      split at q
      · rename_i hr
        have q' : okB X.K σ H F hid Q (.lst (rgI 0 n)) ρ1 := q
        exact ⟨n, inv_int q1, rgOk_of hr, fun p hp => (okB.ret s1 (q'.after k1)).lst s1.domU rgD_rel hp⟩
      · exact q.elim
    · exact q.elim
theorem em_trg1 {a : Expr} {m : Mn PyData} {p pos p2 pos2 : Pos} (hc : X.calm = true) (hl : L2.Gl X "tuple") (hlm : X.mg "tuple" = none) (hg : L2.Gl X "range") (hm : X.mg "range" = none) (ha : ED X W a m) (na : starEach [a] X.env = (false, eval a X.env) :: starEach [] X.env := by rfl)
    (nb : starEach [.Call (.Name "range" p) [a] [] pos] X.env = (false, eval (.Call (.Name "range" p) [a] [] pos) X.env) :: starEach [] X.env := by rfl) : EM X W (.Call (.Name "tuple" p2) [.Call (.Name "range" p) [a] [] pos] [] pos2) (mTRg1 m) :=
  PE.wk (pe_tupRg hc hl hlm (prg_1 hg hm ha na) nb) fun σ H Q q => by
    obtain ⟨ρ, F, hid, s, q⟩ := q
    refine ⟨ρ, F, hid, s, REnd.mono Keep.refl (fun d ρ1 q v H1 F1 k1 s1 q1 => ?_) (REnd.bind q)⟩
    split at q
    · rename_i n
      split at q
      · rename_i hr
        have q' : okB X.K σ H F hid Q (.val (.tuple (rgI 0 n))) ρ1 := q
        exact ⟨n, inv_int q1, rgOk_of hr, fun p hp => (okB.ret s1 (q'.after k1)).tup s1.domU rgD_rel hp⟩
      · exact q.elim
    · exact q.elim
end
/-- ascending, each once -/
def insU (n : Int) : List Int → List Int
  | [] => [n]
  | m :: ms => if n < m then n :: m :: ms else if n = m then m :: ms else m :: insU n ms
def sortU : List Int → List Int
  | [] => []
  | n :: ns => insU n (sortU ns)
theorem insU_mem {n k : Int} : ∀ {ms : List Int}, k ∈ insU n ms ↔ k = n ∨ k ∈ ms
  | [] => by simp [insU]
  | m :: ms => by
    have ih := @insU_mem n k ms
    unfold insU
    split
    · simp
    · split
      · rename_i e
        subst e
        simp
      · simp only [List.mem_cons, ih]
        constructor
        · rintro (h | h | h)
          · exact .inr (.inl h)
          · exact .inl h
          · exact .inr (.inr h)
        · rintro (h | h | h)
          · exact .inr (.inl h)
          · exact .inl h
          · exact .inr (.inr h)
theorem sortU_mem {k : Int} : ∀ {ns : List Int}, k ∈ sortU ns ↔ k ∈ ns
  | [] => by simp [sortU]
  | n :: ns => by
    unfold sortU
    rw [insU_mem, sortU_mem, List.mem_cons]
theorem insU_asc {n : Int} : ∀ {ms : List Int}, ms.Pairwise (· < ·) → (insU n ms).Pairwise (· < ·)
  | [], _ => by simp [insU]
  | m :: ms, h => by
    obtain ⟨h1, h2⟩ := List.pairwise_cons.mp h
    unfold insU
    split
    · rename_i hn
      refine List.pairwise_cons.mpr ⟨fun y hy => ?_, h⟩
      rcases List.mem_cons.mp hy with rfl | hy
      · exact hn
      · exact Int.lt_trans hn (h1 y hy)
    · split
      · exact h
      · refine List.pairwise_cons.mpr ⟨fun y hy => ?_, insU_asc h2⟩
        rcases insU_mem.mp hy with rfl | hy
        · omega
        · exact h1 y hy
theorem sortU_asc : ∀ ns : List Int, (sortU ns).Pairwise (· < ·)
  | [] => .nil
  | n :: ns => insU_asc (sortU_asc ns)
theorem asc_uniq : ∀ {a b : List Int}, a.Pairwise (· < ·) → b.Pairwise (· < ·) → (∀ k, k ∈ a ↔ k ∈ b) → a = b
  | [], [], _, _, _ => rfl
  | [], y :: ys, _, _, h => by simpa using (h y).mpr List.mem_cons_self
  | x :: xs, [], _, _, h => by simpa using (h x).mp List.mem_cons_self
  | x :: xs, y :: ys, ha, hb, h => by
    obtain ⟨a1, a2⟩ := List.pairwise_cons.mp ha
    obtain ⟨b1, b2⟩ := List.pairwise_cons.mp hb
    have e : x = y := by
      rcases List.mem_cons.mp ((h x).mp List.mem_cons_self) with e | hx
      · exact e
      · rcases List.mem_cons.mp ((h y).mpr List.mem_cons_self) with e | hy
        · exact e.symm
        · have q1 := a1 y hy
          have q2 := b1 x hx
          omega
    subst e
    refine congrArg (x :: ·) (asc_uniq a2 b2 fun k => ?_)
    constructor
    · intro hk
      rcases List.mem_cons.mp ((h k).mp (List.mem_cons_of_mem _ hk)) with e | hk'
      · have q1 := a1 k hk
        omega
      · exact hk'
    · intro hk
      rcases List.mem_cons.mp ((h k).mpr (List.mem_cons_of_mem _ hk)) with e | hk'
      · have q1 := b1 k hk
        omega
      · exact hk'
def gSortSet : G1
  | .tuple ds => (intsOf ds).bind fun ns => if ns.length < 64 then some (.lst ((sortU ns).map .int)) else none
  | _ => none
section
variable {X : Cx} {W : WX}
def rSetT (X : Cx) : List V → Hp → VK → Prop := fun xs H Q => ∃ (a : Addr) (ns : List Int), xs = [.ref a] ∧ SqT X.K H a (ns.map V.int) ∧ ns.length < 64 ∧ ∀ p c, H p = none → c ≤ ns.length → Q (.ref p) (upd H p (SetO X.w p (fun j => decide (j ∈ ns)) c))
theorem call_setT (hc : X.calm = true) : CallR X (.type "set") (rSetT X) := by
  intro pins s σ H xs us Q I r h
  obtain ⟨a, ns, rfl, hs, h64, q⟩ := h
  obtain ⟨its, rv, ht, hz⟩ := I.tuple hs
  obtain ⟨u, rfl, rx⟩ := vals1 r
  cases rx
  have hit : IntsAre its.toArray.toList ns := by simpa using rv.ints
  refine call_set_tupI ns (I.ok.hd hc) ht hit (by show ns.length + 1 < 4096; omega) fun h' tk c R hc k => ?_
  have hn : H s.heap.objs.size = none := I.hok.fresh (Nat.le_refl _)
  exact ⟨.ref _, _, I.laid (t' := tk) k (Nat.le_refl _) (setO_new R), rfl, q _ c hn hc⟩
theorem em_sortSet {e : Expr} {m : Mn PyData} {p pos p2 pos2 : Pos} (hc : X.calm = true) (hl : L2.Gl X "sorted") (hlm : X.mg "sorted" = none) (hg : L2.Gl X "set") (hm : X.mg "set" = none) (ha : ED X W e m) (na : starEach [e] X.env = (false, eval e X.env) :: starEach [] X.env := by rfl)
    (nb : starEach [.Call (.Name "set" p) [e] [] pos] X.env = (false, eval (.Call (.Name "set" p) [e] [] pos) X.env) :: starEach [] X.env := by rfl) : EM X W (.Call (.Name "sorted" p2) [.Call (.Name "set" p) [e] [] pos] [] pos2) (m1 gSortSet m) :=
  PE.wk (pe_callB (cr_sortedSet hc) hl hlm boot_sorted (pa_cons (pe_callTy (call_setT hc) hg hm boot_set (pa_cons ha pa_nil na) (by decide) (by decide) na rfl) pa_nil nb) (by decide) (by decide) nb rfl) fun σ H Q q => by
    obtain ⟨ρ, F, hid, s, q⟩ := q
    refine ⟨ρ, F, hid, s, REnd.mono Keep.refl (fun d ρ1 q v H1 F1 k1 s1 q1 => ?_) (REnd.bind q)⟩
    cases eg : gSortSet d with
    | none => rw [eg] at q; exact q.elim
    | some b =>
      rw [eg] at q
      have q' : okB X.K σ H F hid Q b ρ1 := q
      unfold gSortSet at eg
      split at eg
      · rename_i ds
        cases e : intsOf ds with
        | none => rw [e] at eg; cases eg
        | some ns =>
          rw [e] at eg
          have eg : (if ns.length < 64 then some (B.lst ((sortU ns).map .int)) else none) = some b := eg
          split at eg
          · rename_i h64
            cases eg
            obtain ⟨a, vs, rfl, ha, hr⟩ := inv_DVs q1
            have ev := ints_of e hr
            subst ev
            refine ⟨a, ns, rfl, seqT_low ha, h64, fun p c hp hcn => ?_⟩
            refine ⟨p, _, c, rfl, upd_same, by omega, fun ns' l hs hm hlen hl => ?_⟩
            have e2 : ns' = sortU ns := asc_uniq hs (sortU_asc ns) fun k => by rw [hm k, sortU_mem]; simp
            subst e2
            have hlp : l ≠ p := fun z => by
              rw [z, upd_same] at hl
              cases hl
            rw [upd_ne hlp] at hl
            have s2 := s1.grow (same_upd (o := SetO X.w p (fun j => decide (j ∈ ns)) c) hp)
            exact (okB.ret s2 (q'.after (k1.trans (Keep.same (same_upd hp))))).lst s2.domU (DVs.ofInts _) (by rw [upd_ne hlp]; exact hl)
          · cases eg
      · cases eg
end

/-! ## raise -/
/-- an own error class without fields -/
structure ExcG (G : Glob) (c : Str) : Prop where
  ei : PySem.W.excIn G.K (He.ga G.K c) He.veBase "ValueError.__new__" = true
  kp : PySem.W.keepIn G.K (.ref (He.ga G.K c)) = true
  sb : PySem.W.subIn G.K (.ref (He.ga G.K c)) (.type "BaseException") = some true
  ty : PySem.W.typeIn G.K (.ref (He.ga G.K c)) = some (.type "type")
  mg : G.mg c = some (.ref (He.ga G.K c))
def sRaise (c : Str) : Sm := fun ρ => .exc c [] ρ
section
variable {G : Glob} {N : List Str} {sc : Scope} {k : Nat} {X : Cx} {W : WX} {P : Nat → Bool}
theorem g_raise {c m : Str} {j : Nat} {p p2 pos pos2 : Pos} (g : Good G N sc k X W) (E : ExcG G c) (hb : (gloB sc c && dunB c) = true) : ES X W P (.Raise (some (.Call (.Name c p) [.Constant (.str m) j p2] [] pos)) none pos2) (sRaise c) := by
  simp only [Bool.and_eq_true] at hb
  have e := g.gl
  subst e
  have mk := pmk_own (X := X) (x := c) (m := m) (j := j) (p := p) (p2 := p2) (pos := pos) PySem.F.excBase_ValueError E.ei E.mg E.kp (raises_own E.sb E.ty) (g.glo hb.1) (dun_d hb.2)
  refine PS.wk (ps_raise g.calm g.tk mk) fun D σ H q => ?_
  obtain ⟨ρ, F, hid, s, q⟩ := q
  have q' : okX X.K W P σ H F hid c [] ρ := q
  exact q' none σ H F Agree.refl Keep.refl s (.inl ⟨rfl, rfl⟩)
end

/-! ## a, b = x, y -/
def sPar2 (i j : Nat) (ma mb : Mn B) : Sm := fun ρ => (ma ρ).go fun b1 ρ1 => (mb ρ1).go fun b2 ρ2 => .nx ((ρ2.set j (some b2)).set i (some b1))
def sPar3 (i j l : Nat) (ma mb mc : Mn B) : Sm := fun ρ => (ma ρ).go fun b1 ρ1 => (mb ρ1).go fun b2 ρ2 => (mc ρ2).go fun b3 ρ3 => .nx (((ρ3.set l (some b3)).set j (some b2)).set i (some b1))
section
variable {K : PySem.W.Frag} {H H1 H2 : Hp} {σ σ' : Slots} {ρ ρ1 ρ2 : Env'} {F F1 F2 : Ow} {hid fp1 fp2 : Addr → Prop} {v1 : V} {b1 : B}
/-- a value waits while another part runs -/
theorem wait (k2 : Keep H1 (UF F1) H2 fun a => UF F2 a ∨ fp2 a) (s1 : SOk K H1 σ ρ1 F1 fun a => hid a ∨ fp1 a) (o1 : OwnB K (wo H1 (Un2 F1 fun a => hid a ∨ fp1 a)) H1 v1 b1 fp1) :
    OwnB K (wo H2 (Un2 F2 fun a => (hid a ∨ fp1 a) ∨ fp2 a)) H2 v1 b1 fp1 := by
  refine o1.mono (H' := H2) (Same.trans (k2.wo (hid := fun a => hid a ∨ fp1 a) (hid' := fun a => hid a ∨ fp1 a) fun _ _ _ _ z => z) (wo_iff_same fun a => ?_)) fun a o p e => (k2 a o e fun ⟨i, f⟩ => s1.hidden i a f (.inr p)).1
  constructor
  · rintro ((z | z) | z)
    · exact .inl z
    · exact .inr (.inr z)
    · exact .inr (.inl z)
  · rintro (z | z | z)
    · exact .inl (.inl z)
    · exact .inr z
    · exact .inl (.inr z)
theorem keep2 (k1 : Keep H (UF F) H1 fun a => UF F1 a ∨ fp1 a) (k2 : Keep H1 (UF F1) H2 fun a => UF F2 a ∨ fp2 a) : Keep H (UF F) H2 fun a => UF F2 a ∨ fp1 a ∨ fp2 a := fun b o e n => by
  obtain ⟨e1, n1⟩ := k1 b o e n
  obtain ⟨e2, n2⟩ := k2 b o e1 fun z => n1 (.inl z)
  exact ⟨e2, fun z => z.elim (fun z => n2 (.inl z)) fun z => z.elim (fun z => n1 (.inr z)) fun z => n2 (.inr z)⟩
end
section
variable {X : Cx} {W : WX} {P : Nat → Bool}
theorem es_par2 {i j : Nat} {x y : Str} {a b : Expr} {ma mb : Mn B} {px py pt pos : Pos} {kt k2 pt2} (hpi : P i = false) (hpj : P j = false) (hc : X.calm = true) (hN : X.N.Nodup) (hi : X.N[i]? = some x) (hj : X.N[j]? = some y) (hij : i ≠ j)
    (hx : X.env.scope.names.lookup x = some .local) (hy : X.env.scope.names.lookup y = some .local) (ha : EM X W a ma) (hb : EM X W b mb)
    (hw : swappedStores [.Tuple [.Name x px, .Name y py] kt pt] (.Tuple [a, b] k2 pt2) X.env = pure (some [x, y]))
    (hs : swapsWithSole [.Tuple [.Name x px, .Name y py] kt pt] (.Tuple [a, b] k2 pt2) pos.line X.env = pure false := by rfl)
    (h1 : starEach [a, b] X.env = (false, eval a X.env) :: starEach [b] X.env := by rfl) (h2 : starEach [b] X.env = (false, eval b X.env) :: starEach [] X.env := by rfl) :
    ES X W P (.Assign [.Tuple [.Name x px, .Name y py] kt pt] (.Tuple [a, b] k2 pt2) pos) (sPar2 i j ma mb) :=
  PS.wk (ps_par hc hN hi hj hij hx hy (pa_cons ha (pa_cons hb pa_nil h2) h1) hw hs) fun D σ H q => by
    obtain ⟨ρ, F, hid, s, q⟩ := q
    refine ⟨ρ, F, hid, s, REnd.mono Keep.refl (fun b1 ρ1 q v1 H1 F1 fp1 k1 s1 o1 => ?_) (REnd.of_go q)⟩
    have k1' : Keep H (UF F) H1 (UF F1) := k1.less fun _ z => .inl z
    have q2 := REnd.of_go (K := X.K) q
    refine ⟨ρ1, F1, fun a => hid a ∨ fp1 a, s1, ?_⟩
    -- the second part runs with what the first left hidden
    have conv : ∀ {α : Type} {Pq : α → Env' → Prop} {r : Res α}, REnd X.K W σ H F hid Pq r → REnd X.K W σ H1 F1 (fun a => hid a ∨ fp1 a) Pq r := fun {α Pq r} h => by
      cases r with
      | ok a ρ' => exact h
      | bad => exact h
      | exc c fs ρ' =>
        have h' : okE X.K W σ H F hid c fs ρ' := h
        intro d H' F' k' s' dd
        exact h' d H' F' (k1'.trans k') (s'.drop fun _ z => .inl z) (dd.mono (wo_same (fun _ _ e => e) fun _ _ _ z => z.imp (fun z => z) .inl))
    refine REnd.mono Keep.refl (fun b2 ρ2 q v2 H2 F2 fp2 k2 s2 o2 => ?_) (conv q2)
    have q' : okS X.K P σ H F hid D.nx ((ρ2.set j (some b2)).set i (some b1)) := q
    have w1 := wait k2 s1 o1
    obtain ⟨s3, k3⟩ := SOk.put (i := j) s1 k2 s2 o2
    have k13 : Keep H (UF F) H2 fun a => UF (setF F2 j fp2) a ∨ fp1 a := (keep2 k1 k2).less fun a z => z.elim (fun ⟨t, z⟩ => z.elim (fun z => .inr (.inr z.2)) fun z => .inl ⟨t, z.2⟩) fun z => .inr (.inl z)
    have w3 : OwnB X.K (wo H2 (Un2 (setF F2 j fp2) fun a => hid a ∨ fp1 a)) H2 v1 b1 fp1 := w1.mono (H' := H2) (wo_same (fun _ _ e => e) fun a _ _ z => by
      rcases z with ⟨t, z | z⟩ | z
      · exact .inr (.inr z.2)
      · exact .inl ⟨t, z.2⟩
      · exact .inr (.inl z)) fun _ _ _ e => e
    obtain ⟨s4, k4⟩ := SOk.put (i := i) s k13 s3 w3
    refine ⟨v1, v2, rfl, ?_⟩
    rw [List.set_comm _ _ hij]
    exact q' _ H2 _ ((Agree.set hpj).trans (Agree.set hpi)) k4 s4
theorem es_par3 {i j l : Nat} {x y z : Str} {a b c : Expr} {ma mb mc : Mn B} {px py pz pt pos : Pos} {kt k2 pt2} (hpi : P i = false) (hpj : P j = false) (hpl : P l = false) (hc : X.calm = true) (hN : X.N.Nodup) (hi : X.N[i]? = some x) (hj : X.N[j]? = some y) (hl : X.N[l]? = some z) (hij : i ≠ j) (hil : i ≠ l) (hjl : j ≠ l)
    (hx : X.env.scope.names.lookup x = some .local) (hy : X.env.scope.names.lookup y = some .local) (hz : X.env.scope.names.lookup z = some .local) (ha : EM X W a ma) (hb : EM X W b mb) (hcc : EM X W c mc)
    (hw : swappedStores [.Tuple [.Name x px, .Name y py, .Name z pz] kt pt] (.Tuple [a, b, c] k2 pt2) X.env = pure (some [x, y, z]))
    (hs : swapsWithSole [.Tuple [.Name x px, .Name y py, .Name z pz] kt pt] (.Tuple [a, b, c] k2 pt2) pos.line X.env = pure false := by rfl)
    (h1 : starEach [a, b, c] X.env = (false, eval a X.env) :: starEach [b, c] X.env := by rfl) (h2 : starEach [b, c] X.env = (false, eval b X.env) :: starEach [c] X.env := by rfl) (h3 : starEach [c] X.env = (false, eval c X.env) :: starEach [] X.env := by rfl) :
    ES X W P (.Assign [.Tuple [.Name x px, .Name y py, .Name z pz] kt pt] (.Tuple [a, b, c] k2 pt2) pos) (sPar3 i j l ma mb mc) :=
  PS.wk (ps_par3 hc hN hi hj hl hij hil hjl hx hy hz (pa_cons ha (pa_cons hb (pa_cons hcc pa_nil h3) h2) h1) hw hs) fun D σ H q => by
    obtain ⟨ρ, F, hid, s, q⟩ := q
    have conv : ∀ {α : Type} {Pq : α → Env' → Prop} {r : Res α} {H1 : Hp} {F1 : Ow} {hid1 : Addr → Prop}, Keep H (UF F) H1 (UF F1) → (∀ a, hid a → hid1 a) → REnd X.K W σ H F hid Pq r → REnd X.K W σ H1 F1 hid1 Pq r := fun {α Pq r H1 F1 hid1} k1 hh h => by
      cases r with
      | ok a ρ' => exact h
      | bad => exact h
      | exc c fs ρ' =>
        have h' : okE X.K W σ H F hid c fs ρ' := h
        intro d H' F' k' s' dd
        exact h' d H' F' (k1.trans k') (s'.drop hh) (dd.mono (wo_same (fun _ _ e => e) fun _ _ _ z => z.imp (fun z => z) (hh _)))
    refine ⟨ρ, F, hid, s, REnd.mono Keep.refl (fun b1 ρ1 q v1 H1 F1 fp1 k1 s1 o1 => ?_) (REnd.of_go q)⟩
    have k1' : Keep H (UF F) H1 (UF F1) := k1.less fun _ z => .inl z
    have q2 := REnd.of_go (K := X.K) q
    refine ⟨ρ1, F1, fun a => hid a ∨ fp1 a, s1, ?_⟩
    refine REnd.mono Keep.refl (fun b2 ρ2 q v2 H2 F2 fp2 k2 s2 o2 => ?_) (conv k1' (fun _ z => .inl z) q2)
    have k2' : Keep H (UF F) H2 (UF F2) := (keep2 k1 k2).less fun _ z => .inl z
    have q3 := REnd.of_go (K := X.K) q
    refine ⟨ρ2, F2, fun a => (hid a ∨ fp1 a) ∨ fp2 a, s2, ?_⟩
    refine REnd.mono Keep.refl (fun b3 ρ3 q v3 H3 F3 fp3 k3 s3 o3 => ?_) (conv k2' (fun _ z => .inl (.inl z)) q3)
    have q' : okS X.K P σ H F hid D.nx (((ρ3.set l (some b3)).set j (some b2)).set i (some b1)) := q
    have w2 := wait k3 s2 o2
    -- the third is put
    obtain ⟨s4, k4⟩ := SOk.put (i := l) s2 k3 s3 o3
    have k24 : Keep H1 (UF F1) H3 fun a => UF (setF F3 l fp3) a ∨ fp2 a := (keep2 k2 k3).less fun a z => z.elim (fun ⟨t, z⟩ => z.elim (fun z => .inr (.inr z.2)) fun z => .inl ⟨t, z.2⟩) fun z => .inr (.inl z)
    have w2' : OwnB X.K (wo H3 (Un2 (setF F3 l fp3) fun a => (hid a ∨ fp1 a) ∨ fp2 a)) H3 v2 b2 fp2 := w2.mono (H' := H3) (wo_same (fun _ _ e => e) fun a _ _ z => by
      rcases z with ⟨t, z | z⟩ | z
      · exact .inr (.inr z.2)
      · exact .inl ⟨t, z.2⟩
      · exact .inr (.inl z)) fun _ _ _ e => e
    -- the second
    have w1 := wait k24 s1 o1
    obtain ⟨s5, k5⟩ := SOk.put (i := j) s1 k24 s4 w2'
    have k15 : Keep H (UF F) H3 fun a => UF (setF (setF F3 l fp3) j fp2) a ∨ fp1 a := (keep2 k1 k24).less fun a z => z.elim (fun ⟨t, z⟩ => z.elim (fun z => .inr (.inr z.2)) fun z => .inl ⟨t, z.2⟩) fun z => .inr (.inl z)
    have w1' : OwnB X.K (wo H3 (Un2 (setF (setF F3 l fp3) j fp2) fun a => hid a ∨ fp1 a)) H3 v1 b1 fp1 := w1.mono (H' := H3) (wo_same (fun _ _ e => e) fun a _ _ z => by
      rcases z with ⟨t, z | z⟩ | z
      · exact .inr (.inr z.2)
      · exact .inl ⟨t, z.2⟩
      · exact .inr (.inl z)) fun _ _ _ e => e
    obtain ⟨s6, k6⟩ := SOk.put (i := i) s k15 s5 w1'
    refine ⟨v1, v2, v3, rfl, ?_⟩
    rw [List.set_comm _ _ hij, List.set_comm _ _ hil, List.set_comm _ _ hjl]
    exact q' _ H3 _ (((Agree.set hpl).trans (Agree.set hpj)).trans (Agree.set hpi)) k6 s6
end
end ML
/-! # ML16 -/
set_option Elab.async false
set_option linter.all false
set_option maxRecDepth 100000
namespace ML
open PySem PySem.Spec PyProof PyProof.Rows L2
/-! ## try: body, except C as n: y = n -/
section
variable {X : Cx} {pins : List (Addr × Obj)} {σ : Slots} {H : Hp} {s : Shared}
/-- a pinned error becomes a tracked one -/
theorem track {a E : Addr} {d : Option Addr} {oe : Obj} {vs : Array Value} (I : Inv X ((a, oe) :: pins) σ H s) (hz : Zc (.ref E) d oe) (hd : oe.data = .fields vs) (hnew : X.s_0.heap.get? a = none) (hp : ∀ p ∈ X.pn ++ pins, p.1 ≠ a) :
    Inv X pins σ (upd H a (ExcO a E d)) s := by
  obtain ⟨ha, na, nL, nF, nc⟩ := I.pin (a, oe) (List.mem_append_right _ List.mem_cons_self)
  have old : ∀ b u, H b = some u → upd H a (ExcO a E d) b = some u := fun b u e => by rw [upd_ne (ne_of_none e na)]; exact e
  refine ⟨I.ok, I.os, I.bare, ⟨I.base.keep, I.base.slot, fun b o e n hx => ?_, I.base.there, fun b xs q => old b _ (I.base.tups b xs q), fun b o u q => old b _ (I.base.frzs b o u q), fun b ps q => ?_⟩, I.loc, I.cell, ?_, fun x c e => ?_, fun p hm => ?_, fun b u e => ?_, I.len⟩
  · have hb : b ≠ a := fun z => by rw [z, hnew] at e; cases e
    rw [upd_ne hb]
    exact I.base.free b o e n hx
  · obtain ⟨more, q⟩ := I.base.tbls b ps q
    exact ⟨more, old b _ q⟩
  · rw [upd_ne fun z => nL z.symm]
    exact I.free
  · have hc : c ≠ a := fun z => by
      obtain ⟨v, o, e1, e2⟩ := I.cell x c e
      rw [z, ha] at e1
      cases e1
      exact nc _ e2
    rw [upd_ne hc]
    exact I.freeC x c e
  · obtain ⟨h1, h2, h3⟩ := I.pin p (by
      rcases List.mem_append.mp hm with z | z
      · exact List.mem_append_left _ z
      · exact List.mem_append_right _ (List.mem_cons_of_mem _ z))
    exact ⟨h1, by rw [upd_ne (hp p hm)]; exact h2, h3⟩
  · by_cases hb : b = a
    · subst hb
      rw [upd_same] at e
      cases e
      refine ⟨⟨oe, vs, ha, hz, hd⟩, ⟨oe, ha⟩, ?_⟩
      rintro h1 h2 ⟨o', vs', e1, z1, d1⟩ k
      exact ⟨o', vs', k _ e1, z1, d1⟩
    · rw [upd_ne hb] at e
      exact (I.hok b u e).stay (fun _ _ _ q => q) (fun c q => old c _ q) fun c xs q => old c _ q
/-- out of the suite, the error still pinned -/
theorem unsuiteP {a : Addr} {oe : Obj} (I : Inv (X.suite a ((a, oe) :: (X.pn ++ pins))) [] σ H s) (ok : X.Ok) : Inv X ((a, oe) :: pins) σ H s :=
  ⟨ok, I.os, I.bare, I.base, I.loc, I.cell, I.free, I.freeC, fun p hp => I.pin p (List.mem_append_left _ (by
    rcases List.mem_append.mp hp with z | z
    · exact List.mem_cons_of_mem _ (List.mem_append_left _ z)
    · rcases List.mem_cons.mp z with z | z
      · rw [z]
        exact List.mem_cons_self
      · exact List.mem_cons_of_mem _ (List.mem_append_right _ z))), I.hok, I.len⟩
end
/-- what the clause wishes of an error of the body -/
def wTry (K : PySem.W.Frag) (C : Value) (i j : Nat) (W : WX) (D : Ends) : WX := fun cls d σ H =>
  ∃ (E : Addr) (b : Bool), cls = .ref E ∧ PySem.W.exmOne K cls C = some b ∧ (b = true → ∀ a, H a = none → D.nx (((σ.set i (some (.ref a))).set j (some (.ref a))).set i none) (upd H a (ExcO a E d))) ∧ (b = false → W cls d σ H)
section
variable {X : Cx} {x n y : Str} {C : Value} {i j : Nat} {body : List Stmt} {np py pn sp pos pos' : Pos} {tb : WX → TS} {W : WX}
theorem ps_tryM (hst : X.stack = X.env :: X.outer) (hfr : X.env.frame = some X.env.locals) (hex : X.ex = []) (hN : X.N.Nodup) (hi : X.N[i]? = some n) (hj : X.N[j]? = some y) (hln : X.env.kindOf n = some .local) (hly : L2.Loc X.env.scope y) (hfy : X.fn y = true ∨ X.env.scope.names.lookup y = some .local) (hvn : Vis X.env.scope n)
    (hdn : (n == ("__debug__" : Str)) = false) (hcn : (n == ("__classdict__" : Str)) = false) (hC : Names X x C) (tk : Takes X W)
    (hb : ∀ (W' : WX) (q : List (Addr × Obj)) (xe : Value → Shared → Prop), Takes (X.tr q xe) W' → PassesOwn (model X.prog X.w) X.A X.env xe → PSs (X.tr q xe) body (tb W'))
    (hsw : ∀ Y : Cx, Y.env = X.env → swapsWith (.Name n pn) (some (.Name y py)) sp.line Y.env = pure false) :
    PS X (.Try body [.ExceptHandler (some (.Name x np)) (some n) [.Assign [.Name y py] (.Name n pn) sp] pos'] [] [] pos) (fun D σ H => tb (wTry X.K C i j W D) D σ H) := by
  refine ⟨fun pins s σ H D I want => ?_⟩
  have ok := I.ok
  have frames : X.A.frames = some (X.env :: X.outer) := by rw [ok.frames, hst]
  refine wpAny_Try_except (wpAny_mono ((hb (wTry X.K C i j W D) (X.pn ++ pins) _ ?takes PassesOwn.looking).run [] s σ H D (I.toTry _) want) ?good fun e s1 he => he)
  case good =>
    intro f s1 h
    cases f with
    | next => obtain ⟨σ', H', J, q⟩ := h; exact wpAny_execs_nil ⟨σ', H', J.ofTry ok, q⟩
    | brk => obtain ⟨σ', H', J, q⟩ := h; exact ⟨σ', H', J.ofTry ok, q⟩
    | cont => obtain ⟨σ', H', J, q⟩ := h; exact ⟨σ', H', J.ofTry ok, q⟩
    | ret u => obtain ⟨v, σ', H', J, r, q⟩ := h; exact ⟨v, σ', H', J.ofTry ok, r, q⟩
  case takes =>
    rintro u s' ⟨a, G, sI, pins', σ', H', cls, d, rfl, JT, ground, up0, sky, na, os, bare, E, b, rfl, hbm, yes, no⟩
    have J : Inv X pins σ' H' sI := JT.ofTry ok
    have sky1 : Sky G (X.env :: X.outer) a (Zc (.ref E) d) X.env.locals s'.heap := by rw [← hst]; exact sky
    show wpAny (model X.prog X.w) X.A (noteFrame (.ref a) X.env) _ _ _
    refine Sky.land Zc.steady frames hfr sky1 fun h1 fly1 up1 => ?_
    have J1 : Inv X pins σ' H' { s' with heap := h1 } := J.landed ground fly1.1 (up0.trans up1) os bare
    obtain ⟨o1, vs1, get1, zc1, dat1⟩ := fly1.there
    have notFrame : a ∉ frs (X.env :: X.outer) := fun hm => by
      obtain ⟨_, o', e', hnf⟩ := fly1.2.2.1.mem hm
      rw [get1] at e'
      cases e'
      exact hnf _ dat1
    have notL : a ≠ X.env.locals := fun z => notFrame (List.mem_filterMap.mpr ⟨X.env, List.mem_cons_self, by rw [hfr, z]⟩)
    have notF : a ∉ X.fs := fun hm => by
      obtain ⟨e, he, q⟩ := List.mem_filterMap.mp hm
      exact notFrame (List.mem_filterMap.mpr ⟨e, List.mem_cons_of_mem _ he, q⟩)
    have notI : sI.heap.get? a = none := by
      cases q : sI.heap.get? a with
      | none => rfl
      | some o =>
        have z := ground a o q (by rw [hst]; exact notFrame)
        rw [fly1.2.1] at z
        cases z
    have newer : X.s_0.heap.get? a = none := by
      cases q : X.s_0.heap.get? a with
      | none => rfl
      | some o =>
        obtain ⟨o', z⟩ := J.base.there a o q (by rw [hex]; exact fun z => nomatch z)
        rw [notI] at z
        cases z
    have unpinned : ∀ p ∈ X.pn ++ pins, p.1 ≠ a := fun p hp z => by
      have q := (J.pin p hp).1
      rw [z, notI] at q
      cases q
    have S1 := J1.suite get1 dat1 na notL notF
    refine wpAny_handleBy_cons (codeAny_handlers_test ?_) (by intro q; cases q)
    have typ : PySem.W.Looks (model X.prog X.w) h1 (typeOf (.ref a)) (.ref E) := fun A Q E' s k q => wpAny_typeOf_ref (k _ _ get1) (by rw [zc1.1]; exact q)
    have same := PySem.W.exm_one (M := model X.prog X.w) J1.kIn typ hbm
    have named : ∀ {Q E' : Value → Shared → Prop}, Q C { s' with heap := h1 } → wpAny (model X.prog X.w) (X.A.mark (some (.ref a))) (eval (.Name x np) X.env) Q E' { s' with heap := h1 } := fun {Q E'} q => by
      rcases hC with ⟨hg, hdb, hm | ⟨hm, hv, hn⟩⟩
      · exact ld_glob (X := X.suite a ((a, o1) :: (X.pn ++ pins))) S1 hg hm q hdb
      · exact ld_blt (X := X.suite a ((a, o1) :: (X.pn ++ pins))) S1 hg hm hv q hn hdb
    refine named (same.here ?_)
    cases b with
    | true =>
      refine codeAny_handlers_suite_as (HandSPX.lands_againZ fly1 fun h2 fly2 up2 => ?_)
      have J2 : Inv X pins σ' H' { s' with heap := h2 } := J.landed ground fly2.1 ((up0.trans up1).trans up2) os bare
      obtain ⟨o2, vs2, get2, zc2, dat2⟩ := fly2.there
      have S2 := J2.suite get2 dat2 na notL notF
      refine store_ok (X := X.suite a ((a, o2) :: (X.pn ++ pins))) (v := .ref a) S2 hN hi (.inl hln) rfl (fun s5 S5 => ?_) (.inr hln)
      have hlen : i < σ'.length := by rw [J.len]; exact (List.getElem?_eq_some_iff.mp hi).1
      have body2 : PSs (X.suite a ((a, o2) :: (X.pn ++ pins))) [.Assign [.Name y py] (.Name n pn) sp] (tAsg (tVar i) (gName j)) :=
        pss_one (ps_set (X := X.suite a ((a, o2) :: (X.pn ++ pins))) hN hj hly (pe_var hi hvn hdn hcn) (hsw (X.suite a ((a, o2) :: (X.pn ++ pins))) rfl) hfy)
      let D2 : Ends := { nx := fun τ H2 => τ = (σ'.set i (some (.ref a))).set j (some (.ref a)) ∧ H2 = H', rt := fun _ _ => False }
      refine wpAny_mono (body2.run [] s5 _ H' D2 S5 ⟨.ref a, List.getElem?_set_self hlen, rfl, rfl⟩) (fun f s6 h => ?_) fun _ _ z => z.elim
      cases f with
      | next =>
        obtain ⟨τ, H6, S6, rfl, rfl⟩ := h
        have P6 := unsuiteP S6 ok
        refine gone_ok P6 hN hi hln fun s7 P7 => ⟨_, _, track P7 zc2 dat2 newer unpinned, yes rfl a na⟩
      | brk => obtain ⟨_, _, _, z⟩ := h; exact z.elim
      | cont => obtain ⟨_, _, _, z⟩ := h; exact z.elim
      | ret u => obtain ⟨_, _, _, _, _, z⟩ := h; exact z.elim
    | false =>
      show wpAny _ X.A (handleBy (.ref a) X.env []) _ _ _
      refine wpAny_handleBy_nil ?_
      obtain ⟨_, _, _, o3, vs3, T, _, _, get3, _, dat3, fld3, _⟩ := id fly1
      unfold PySem.passOn
      refine wpAny_bind (wpAny_field get3 dat3 fld3 ?_)
      rw [if_neg (show ¬ ((Value.ref T == Value.none) = true) by simp)]
      have rest : wpAny (model X.prog X.w) X.A (setFlight (.ref a) X.env.frame) (fun _ s4 => wpAny (model X.prog X.w) X.A (throw (.ref a) : Sem Flow) (SP X pins D) X.xe s4) X.xe { s' with heap := h1 } := by
        rw [hfr]
        refine HandSPX.setFlight_upZ fly1 fun h4 held up4 => wpAny_throw (tk _ _ ⟨a, G, sI, pins, σ', H', .ref E, d, rfl, J, ground, (up0.trans up1).trans up4, .inr (.inr (by rw [hst]; exact held)), na, os, bare, no rfl⟩)
      first
        | exact wpAny_bind (wpAny_pure (wpAny_bind rest))
        | exact wpAny_bind rest
end
def sTry (hit : Str → Option Bool) (i j : Nat) (mb : Sm) : Sm := fun ρ => match mb ρ with
  | .exc c fs ρ1 => match hit c with
    | some true => .nx ((ρ1.set j (some (.exc c fs))).set i none)
    | some false => .exc c fs ρ1
    | none => .bad
  | r => r
section
variable {G : Glob} {N : List Str} {sc : Scope} {k : Nat} {X : Cx} {W : WX} {P : Nat → Bool}
theorem GoodS.tr (g : GoodS G N sc k X W) {q : List (Addr × Obj)} {xe : Value → Shared → Prop} {W' : WX} (tk : Takes (X.tr q xe) W') (po : PassesOwn (model X.prog X.w) X.A X.env xe) : GoodS G N sc k (X.tr q xe) W' :=
  { gl := g.gl, nm := g.nm, nd := g.nd, sc := g.sc, room := g.room, gd := g.gd, calm := g.calm, tk := tk, st := g.st, fr := g.fr, ex := g.ex, own := po, fn := g.fn }
/-- which classes the clause catches -/
def HitOk (K : PySem.W.Frag) (C : Value) (hit : Str → Option Bool) : Prop := ∀ c b, hit c = some b → PySem.W.exmOne K (.ref (He.ga K c)) C = some b
def locIs (N : List Str) (sc : Scope) (x : Str) (i : Nat) : Bool := decide (N[i]? = some x) && decide (sc.names.lookup x = some .local) && dunB x
theorem SOk.caught {K : PySem.W.Frag} {H : Hp} {σ : Slots} {ρ : Env'} {F : Ow} {hid : Addr → Prop} {i j : Nat} {a : Addr} {d : Option Addr} {c : Str} {fs : List (Str × PyData)} (s : SOk K H σ ρ F hid) (na : H a = none) (q : DctOk K (wo H (Un2 F hid)) d fs) (hij : i ≠ j) :
    SOk K (upd H a (ExcO a (He.ga K c) d)) (((σ.set i (some (.ref a))).set j (some (.ref a))).set i none) ((ρ.set j (some (.exc c fs))).set i none) (setF F j fun _ => False) hid ∧ Keep H (UF F) (upd H a (ExcO a (He.ga K c) d)) (UF (setF F j fun _ => False)) := by
  have sub : ∀ b, UF (setF F j fun _ => False) b → UF F b := by
    rintro b ⟨t, ⟨_, z⟩ | ⟨_, z⟩⟩
    · exact z.elim
    · exact ⟨t, z⟩
  have sm : Same H (upd H a (ExcO a (He.ga K c) d)) := same_upd na
  have nin : ¬ Un2 (setF F j fun _ => False) hid a := fun z => by
    obtain ⟨o, e⟩ := s.dom a (z.imp (sub a) fun z => z)
    rw [na] at e
    cases e
  have smF : Same (wo H (Un2 F hid)) (wo (upd H a (ExcO a (He.ga K c) d)) (Un2 (setF F j fun _ => False) hid)) := wo_same sm fun b _ _ z => z.imp (sub b) fun z => z
  refine ⟨⟨fun b z => ?_, ?_, ?_, by simpa using s.len, fun t b e => ?_⟩, (Keep.same sm).less sub⟩
  · obtain ⟨o, e⟩ := s.dom b (z.imp (sub b) fun z => z)
    exact ⟨o, sm b o e⟩
  · rintro t t' b (⟨_, z⟩ | ⟨_, z⟩) (⟨_, z'⟩ | ⟨_, z'⟩)
    · exact z.elim
    · exact z.elim
    · exact z'.elim
    · exact s.apart t t' b z z'
  · rintro t b (⟨_, z⟩ | ⟨_, z⟩)
    · exact z.elim
    · exact s.hidden t b z
  · by_cases hi : i = t
    · subst hi
      rw [List.getElem?_set] at e
      rw [if_pos rfl] at e
      split at e <;> cases e
    · rw [List.getElem?_set_ne hi] at e
      by_cases hj : j = t
      · subst hj
        rw [List.getElem?_set] at e
        rw [if_pos rfl] at e
        split at e
        · rename_i hl
          cases e
          refine ⟨.ref a, ?_, a, d, rfl, wo_iff.mpr ⟨nin, upd_same⟩, q.mono smF⟩
          rw [List.getElem?_set_ne hi, List.getElem?_set_self (by rw [List.length_set, ← s.len]; exact hl)]
        · cases e
      · rw [List.getElem?_set_ne hj] at e
        obtain ⟨v, ev, o⟩ := s.at_ t b e
        refine ⟨v, ?_, (o.mono (H' := upd H a (ExcO a (He.ga K c) d)) smF fun b o _ e => sm b o e).sub fun b f => .inr ⟨fun z => hj z.symm, f⟩⟩
        rw [List.getElem?_set_ne hi, List.getElem?_set_ne hj, List.getElem?_set_ne hi]
        exact ev
theorem g_try {x n y : Str} {i j : Nat} {C : Value} {hit : Str → Option Bool} {body : List Stmt} {mb : Sm} {np py pn sp pos pos' : Pos} (g : GoodS G N sc k X W) (hpi : P i = false) (hpj : P j = false) (hij : i ≠ j) (hn : locIs N sc n i = true) (hy : lcB N sc y j = true) (hC : Names X x C) (ok : HitOk X.K C hit)
    (hb : ∀ (Y : Cx) (W' : WX), GoodS G N sc k Y W' → ESs Y W' P body mb)
    (hsw : ∀ Y : Cx, Y.env = X.env → swapsWith (.Name n pn) (some (.Name y py)) sp.line Y.env = pure false := by intro _ _; rfl) :
    ES X W P (.Try body [.ExceptHandler (some (.Name x np)) (some n) [.Assign [.Name y py] (.Name n pn) sp] pos'] [] [] pos) (sTry hit i j mb) := by
  unfold locIs at hn
  unfold lcB at hy
  simp only [Bool.and_eq_true, decide_eq_true_eq] at hn hy
  have hk : X.env.kindOf n = some .local := by
    unfold Env.kindOf
    rw [g.sc]
    exact hn.1.2
  refine PS.wk (ps_tryM (W := W) (tb := fun W2 => tS X.K W2 P mb) g.st g.fr g.ex (by rw [g.nm]; exact g.nd) (by rw [g.nm]; exact hn.1.1) (by rw [g.nm]; exact hy.1) hk (g.loc hy.2) (.inl (g.fn y)) (.inl hk) (dun_d hn.2) (dun_c hn.2) hC g.tk
    (fun W' q xe tk po => hb (X.tr q xe) W' (g.tr tk po)) hsw) fun D σ H q => ?_
  obtain ⟨ρ, F, hid, s, q⟩ := q
  show tS X.K (wTry X.K C i j W D) P mb D σ H
  refine ⟨ρ, F, hid, s, ?_⟩
  unfold sTry at q
  cases em : mb ρ with
  | nx ρ1 => rw [em] at q; exact q
  | rt b ρ1 => rw [em] at q; exact q
  | bk ρ1 => rw [em] at q; exact q
  | ct ρ1 => rw [em] at q; exact q
  | bad => rw [em] at q; exact q
  | exc c fs ρ1 =>
    rw [em] at q
    intro d σ' H' F' ag kp s' dd
    cases eh : hit c with
    | none =>
      simp only [eh] at q
      exact q.elim
    | some b =>
      refine ⟨He.ga X.K c, b, rfl, ok c b eh, fun hb a na => ?_, fun hb => ?_⟩
      · subst hb
        simp only [eh] at q
        have q' : okS X.K P σ H F hid D.nx ((ρ1.set j (some (.exc c fs))).set i none) := q
        obtain ⟨s2, k2⟩ := SOk.caught (i := i) (j := j) (c := c) s' na dd hij
        exact q' _ _ _ (((ag.trans (Agree.set hpi)).trans (Agree.set hpj)).trans (Agree.set hpi)) (kp.trans k2) s2
      · subst hb
        simp only [eh] at q
        have q' : okX X.K W P σ H F hid c fs ρ1 := q
        exact q' d σ' H' F' ag kp s' dd
end
end ML
/-! # ML17 -/
set_option Elab.async false
set_option linter.all false
set_option maxRecDepth 100000
namespace ML
open PySem PySem.Spec PyProof PyProof.Rows L2
/-! ## calls by keywords alone -/
def pick {α : Type} (perm : List Nat) (l : List α) : List α := perm.filterMap fun i => l[i]?
inductive VBs (K : PySem.W.Frag) (Hf : Hp) : List V → List (Option B) → Prop
  | nil : VBs K Hf [] []
  | cons {v b vs bs} : VB K Hf v b → VBs K Hf vs bs → VBs K Hf (v :: vs) (some b :: bs)
section
variable {K : PySem.W.Frag} {Hf : Hp} {σ : Slots}
theorem VBs.of : ∀ {as : List Ar} {vs : List V} {bs : List (Option B)}, (rfs as).isEmpty = true → ArgsOk K Hf σ as vs bs → VBs K Hf vs bs
  | _, _, _, _, .nil => .nil
  | _, _, _, h, .rf _ r => by simp [rfs] at h
  | _, _, _, h, .vl q r => .cons q (VBs.of (by simpa [rfs] using h) r)
theorem VBs.get : ∀ {vs : List V} {bs : List (Option B)} {i : Nat}, VBs K Hf vs bs → (vs[i]? = none ∧ bs[i]? = none) ∨ ∃ v b, vs[i]? = some v ∧ bs[i]? = some (some b) ∧ VB K Hf v b
  | _, _, _, .nil => .inl ⟨by simp, by simp⟩
  | _, _, 0, .cons q _ => .inr ⟨_, _, rfl, rfl, q⟩
  | _, _, i + 1, .cons _ r => by simpa using VBs.get (i := i) r
theorem VBs.pick {vs : List V} {bs : List (Option B)} (h : VBs K Hf vs bs) : ∀ perm : List Nat, VBs K Hf (pick perm vs) (pick perm bs)
  | [] => .nil
  | i :: perm => by
    have ih := VBs.pick h perm
    unfold ML.pick at ih ⊢
    rw [List.filterMap_cons, List.filterMap_cons]
    rcases h.get (i := i) with ⟨e1, e2⟩ | ⟨v, b, e1, e2, q⟩
    · rw [e1, e2]
      exact ih
    · rw [e1, e2]
      exact .cons q ih
def vlAll (bs : List (Option B)) : List Ar := bs.map fun _ => .vl (mC .none)
theorem VBs.args : ∀ {vs : List V} {bs : List (Option B)}, VBs K Hf vs bs → ArgsOk K Hf σ (vlAll bs) vs bs
  | _, _, .nil => .nil
  | _, _, .cons q r => .vl q r.args
theorem vlAll_rfs : ∀ {bs : List (Option B)}, rfs (vlAll bs) = []
  | [] => rfl
  | _ :: bs => vlAll_rfs (bs := bs)
theorem vlAll_fill {ρ : Env'} : ∀ {bs : List (Option B)}, fillA (vlAll bs) bs ρ = bs
  | [] => rfl
  | _ :: bs => congrArg _ (vlAll_fill (bs := bs))
theorem vlAll_back {ρ : Env'} : ∀ {bs : List (Option B)} {xs : Env'}, backA (vlAll bs) xs ρ = ρ
  | [], _ => by simp [vlAll, backA]
  | _ :: bs, [] => by simp [vlAll, backA]
  | _ :: bs, _ :: xs => vlAll_back (bs := bs) (xs := xs)
end
theorem pick_vals {vs : List V} {us : List Value} (h : Vals vs us) : ∀ perm : List Nat, Vals (pick perm vs) (pick perm us)
  | [] => .nil
  | i :: perm => by
    have ih := pick_vals h perm
    unfold ML.pick at ih ⊢
    rw [List.filterMap_cons, List.filterMap_cons]
    cases e : vs[i]? with
    | none =>
      rw [Vals.none_of h e]
      exact ih
    | some v =>
      obtain ⟨u, eu, r⟩ := h.get e
      rw [eu]
      exact .cons r ih
def mCallK (fn : Fn) (as : List Ar) (perm : List Nat) : Mn B := fun ρ => (mArgs as ρ).bind fun bs ρ1 => match fn (pick perm bs) with
  | .ok b _ => .ok b ρ1
  | .exc c fs _ => .exc c fs ρ1
  | .bad => .bad
/-- a name that calls a def, by the keywords ks -/
structure CalleeK (G : Glob) (k : Nat) (x : Str) (fn : Fn) (ks : List Str) (perm : List Nat) : Prop where
  ex : ∃ (f : Addr) (fd : FuncData) (ps : List Str), G.mg x = some (.ref f) ∧ PySem.W.keepIn G.K (.ref f) = true ∧ (∀ (s : Shared) (us : List Value), us.length = ks.length → BindsTo s fd ⟨[], ks.zip us⟩ (ps.zip (pick perm us))) ∧ FnG G k f fd ps fn
section
variable {X : Cx} {W : WX}
theorem kr_nil : PK X [] (tR X.K W []) := ⟨fun pos pins s σ H Q I q => by
  obtain ⟨ρ, F, hid, so, q⟩ := q
  have q' : okR X.K [] σ H F hid Q [] ρ := q
  exact pk_nil.run pos pins s σ H Q I (q' [] H F Keep.refl so .nil)⟩
theorem kr_vl {e : Expr} {nm : Option Str} {kpos : Pos} {kws : List Keyword} {m : Mn B} {as : List Ar} (he : EM X W e m) (hr : PK X kws (tR X.K W as)) : PK X (⟨nm, e, kpos⟩ :: kws) (tR X.K W (.vl m :: as)) := ⟨fun pos pins s σ H Q I q => by
  refine (pk_cons (PE.wk he fun σ H Q q => asV_of q) hr).run pos pins s σ H Q I ?_
  obtain ⟨ρ, F, hid, so, q⟩ := q
  refine ⟨ρ, F, hid, so, REnd.mono Keep.refl (fun b ρ1 q v H1 F1 k1 s1 q1 => ?_) (REnd.bind q)⟩
  refine ⟨ρ1, F1, hid, s1, REnd.mono k1 (fun bs ρ2 q' vs H2 F2 k2 s2 q2 => ?_) (REnd.bind q)⟩
  have q3 : okR X.K (.vl m :: as) σ H F hid Q (some b :: bs) ρ2 := q'
  exact q3 (v :: vs) H2 F2 (k1.trans k2) s2 (.vl (q1.mono (k2.wo fun _ _ _ _ z => z)) q2)⟩
end
section
variable {G : Glob} {N : List Str} {sc : Scope} {k : Nat} {X : Cx} {W : WX} {x : Str}
theorem g_callK {fn : Fn} {j : Nat} {kws : List Keyword} {as : List Ar} {p pos : Pos} {ks : List Str} {perm : List Nat} (g : Good G N sc k X W) (C : CalleeK G j x fn ks perm) (hj : Nat.ble j k = true) (hx : (gloB sc x && dunB x) = true) (ha : PK X kws (tR X.K W as)) (hv : (rfs as).isEmpty = true) (hl : as.length = ks.length)
    (hall : (backToKw pos (keywordEach kws X.env)).all (·.1.isSome) = true := by rfl) (hks : (backToKw pos (keywordEach kws X.env)).filterMap (·.1) = ks := by rfl) (hpl : ((backTo pos (starEach [] X.env)).any (·.1) || (backToKw pos (keywordEach kws X.env)).any (·.1.isNone)) = false := by rfl) :
    EM X W (.Call (.Name x p) [] kws pos) (mCallK fn as perm) := by
  have g := g.mono (Nat.le_of_ble_eq_true hj)
  simp only [Bool.and_eq_true] at hx
  obtain ⟨f, fd, ps, hm, hk, hb, F⟩ := C.ex
  have eg : G = glOf X := g.gl.symm
  subst eg
  refine ⟨fun pins s σ H Q I h => ?_⟩
  refine wpAny_Call_Name_kw (ld_glob I (g.glo hx.1) hm ?_ (dun_d hx.2))
  obtain ⟨ρ, F0, hid, so, h⟩ := h
  have h1 : tR X.K W as σ H (fun vs H1 => vs.length = ks.length ∧ tM X.K (fun c d _ H => W c d σ H) fn ((pick perm vs).map some) H1 Q) := by
    refine ⟨ρ, F0, hid, so, REnd.mono Keep.refl (fun bs ρ1 q vs H1 F1 k1 s1 q1 => ⟨by rw [← hl]; exact q1.lens.1, ?_⟩) (REnd.bind h)⟩
    have vb := (VBs.of hv q1).pick perm
    refine lent (as := vlAll (pick perm bs)) s1 (by rw [vlAll_rfs]; exact .nil) vb.args ?_
    rw [vlAll_fill]
    cases ef : fn (pick perm bs) with
    | ok b ρf =>
      simp only [ef, vlAll_back] at q ⊢
      exact okB.after (K := X.K) k1 q
    | exc c fs ρf =>
      simp only [ef, vlAll_back] at q ⊢
      exact okE.after (K := X.K) k1 q
    | bad =>
      rw [ef] at q
      exact q.elim
  refine PySem.W.callWith_KW0 (h₀ := X.base) I.ok.mod.kin hk hall (thn (ha.run pos pins s σ H _ I h1) fun us s1 ⟨vs, H1, I1, r, hlen, q⟩ => ⟨I1.kIn, ?_⟩) hpl
  rw [hks]
  have bb := hb s1 us (by rw [← r.length]; exact hlen)
  exact wpAny_call (codeAny_mono (run_g g F bb I1 (pick_vals r perm) q) fun res s' hq => hq)
end

/-! ## the head's own question -/
open He in
def obsM (fa : List Fa) (fn : List DefD) (gs : List (PySem.W.Frag → Bool)) (K : PySem.W.Frag) : AlD := (((fa.all fun f => f.ok K) && fn.all fun d => d.ok K) && gs.all fun g => g K, fn.map fun d => fnW K d.at_)
def SaysM (fa : List He.Fa) (fn : List He.DefD) (gs : List (PySem.W.Frag → Bool)) (K : PySem.W.Frag) : Prop := obsM fa fn gs K = He.valD fn
def obsMG (n : Nat) (fa : List He.Fa) (fn : List He.DefD) (gs : List (PySem.W.Frag → Bool)) (g : Addr → Option Obj) : He.AlD := obsM fa fn gs (He.frG g (He.asD g n))
def hookM (n : Nat) (fa : List He.Fa) (fn : List He.DefD) (gs : List (PySem.W.Frag → Bool)) : PySem.W.Hook where
  α := He.AlD
  obs := fun s => obsMG n fa fn gs s.heap.get?
  val := fun _ => He.valD fn
  says := fun _ h => ∃ K : PySem.W.Frag, K.In h ∧ SaysM fa fn gs K
  of := fun _ _ e => ⟨_, He.frG_in, e⟩
  keeps := fun _ _ _ ⟨K, hK, c⟩ kp => ⟨K, PySem.W.Frag.In.keeps hK kp, c⟩
theorem obsMG_eq {n : Nat} {fa : List He.Fa} {fn : List He.DefD} {gs : List (PySem.W.Frag → Bool)} {g : Addr → Option Obj} {s : Shared} (h : ∀ a, g a = s.heap.get? a) : obsMG n fa fn gs g = (hookM n fa fn gs).obs s := by
  have e : g = s.heap.get? := funext h
  subst e
  rfl
theorem SaysM.d {fa : List He.Fa} {fn : List He.DefD} {gs : List (PySem.W.Frag → Bool)} {K : PySem.W.Frag} (h : SaysM fa fn gs K) : He.SaysD fa fn K ∧ ∀ g ∈ gs, g K = true := by
  have h1 : (((fa.all fun f => f.ok K) && fn.all fun d => d.ok K) && gs.all fun g => g K) = true := congrArg (fun z : He.AlD => z.1) h
  have h2 : (fn.map fun d => He.fnW K d.at_) = fn.map He.DefD.val := congrArg (fun z : He.AlD => z.2) h
  rw [Bool.and_eq_true] at h1
  refine ⟨?_, fun g hg => List.all_eq_true.mp h1.2 g hg⟩
  show (((fa.all fun f => f.ok K) && fn.all fun d => d.ok K), fn.map fun d => He.fnW K d.at_) = (true, fn.map He.DefD.val)
  rw [h1.1, h2]
end ML
/-! # ML18 -/
set_option Elab.async false
set_option linter.all false
set_option maxRecDepth 100000
namespace ML
open PySem PySem.Spec PyProof PyProof.Rows L2
/-! ## a tuple once -/
theorem tuple_once (l : Addr) (items : Array Value) (n : Nat) (dd : Option Addr) (sl : Array (Option Value)) (u : Tok) :
    Meets (Builtin.«tuple.__mul__» ⟨[.ref l, .int 1 u], []⟩) (fun _ R s => s.heap.get? l = some { cls := .type "tuple", dict := dd, data := .seq items n, slots := sl } ∧ R (.ok (.ret (Value.ref l))) s) :=
  .of_wp fun prog w A R s h => by
    obtain ⟨hp, g, d, tk, os⟩ := s
    obtain ⟨hl, h⟩ := h
    have f1 := AutoSeq1.idx_int
    have c1 : (items.isEmpty || (1 : Int) == 1) = true := by simp
    wp_walk using wpAny_loadPart' hl
    repeat (first
      | (refine wpAny_ite_false (decide_eq_false (by decide)) ?_; wp_walk using wpAny_loadPart' hl)
      | (refine wpAny_ite_true (decide_eq_true (by rw [c1])) ?_; wp_walk using wpAny_loadPart' hl))
    exact ⟨_, rfl, h⟩
def rOnce (K : PySem.W.Frag) : R2 := fun x y H Q => ∃ l xs, x = .ref l ∧ y = .int 1 ∧ SqT K H l xs ∧ Q (.ref l) H
theorem op_once {X : Cx} : OpR X (binaryOp .Mult) (rOnce X.K) := by
  intro pins s σ H x y v u Q I rx ry h
  obtain ⟨l, xs, rfl, rfl, hT, q⟩ := h
  cases rx
  obtain ⟨t, rfl⟩ := ry
  obtain ⟨its, r, ⟨⟨cls, dd, data, sl⟩, ho, hc, n, hd⟩, hs⟩ := I.tuple hT
  simp only at hc hd
  subst hc hd
  refine wpAny_binaryOp_repeat_ref (T := "tuple") (U := "int") (by decide) ⟨_, ho, rfl⟩ (fun s' => typeIs_int s' 1 t) noFill_tuple_mul F.fills_int_mul F.slot_int_rmul repeat_tuple F.slot_int_index.lookup ?_
  refine call_meets F.slot_int_rmul (typeIs_int s 1 t) F.entry_int_rmul (F.args_int_rmul_2 _ _) (int_rmul_tuple 1 t l its.toArray n dd sl) ⟨ho, rfl, ⟨_, ho, rfl⟩, ?_⟩
  exact call_meets F.slot_tuple_mul ⟨_, ho, rfl⟩ F.entry_tuple_mul (F.args_tuple_mul_2 _ _) (tuple_once l its.toArray n dd sl t) ⟨ho, .ref l, H, I, rfl, q⟩

/-! ## the rules as they are used -/
def gMulX : G2 := fun d e => match d, e with
  | .tuple xs, .int 1 => some (.val (.tuple xs))
  | d, e => gMul d e
section
variable {X : Cx} {W : WX} {a b c : Expr} {ma mb mc : Mn PyData} {pos : Pos}
theorem ruleMulX : OpR X (binaryOp .Mult) (fun x y H Q => rOnce X.K x y H Q ∨ (rI CMulW (fun i j => .int (i * j)) x y H Q ∨ rRep x y H Q ∨ rRepT X.K x y H Q)) := OpR.or op_once ruleMul
theorem opMulX : Rule2 X.K (fun x y H Q => rOnce X.K x y H Q ∨ (rI CMulW (fun i j => .int (i * j)) x y H Q ∨ rRep x y H Q ∨ rRepT X.K x y H Q)) gMulX := by
  intro H O x y d e b Q dm hx hy hg r
  unfold gMulX at hg
  split at hg
  · cases hg
    obtain ⟨a, vs, rfl, sa, da⟩ := inv_DVs hx
    rw [inv_int hy]
    exact .inl ⟨a, vs, rfl, rfl, seqT_low sa, r.here hx⟩
  · exact .inr (opMul H O x y _ _ b Q dm hx hy hg r)
theorem b_add (ha : ED X W a ma) (hb : ED X W b mb) : EM X W (.BinOp a .Add b pos) (m2 gAdd ma mb) := em_bin ruleAdd opAdd ha hb
theorem b_sub (ha : ED X W a ma) (hb : ED X W b mb) : EM X W (.BinOp a .Sub b pos) (m2 gSub ma mb) := em_bin op_sub opSub ha hb
theorem b_mul (ha : ED X W a ma) (hb : ED X W b mb) : EM X W (.BinOp a .Mult b pos) (m2 gMulX ma mb) := em_bin ruleMulX opMulX ha hb
theorem b_fdiv (ha : ED X W a ma) (hb : ED X W b mb) : EM X W (.BinOp a .FloorDiv b pos) (m2 gFdiv ma mb) := em_bin op_fdivW opFdiv ha hb
theorem b_mod (ha : ED X W a ma) (hb : ED X W b mb) : EM X W (.BinOp a .Mod b pos) (m2 gMod ma mb) := em_bin op_mod opMod ha hb
theorem b_pow (ha : ED X W a ma) (hb : ED X W b mb) : EM X W (.BinOp a .Pow b pos) (m2 gPow ma mb) := em_bin rulePow opPow ha hb
theorem u_neg (ha : ED X W a ma) : EM X W (.UnaryOp .USub a pos) (m1 gNeg ma) := em_un un_neg opNeg ha
/-- == of two texts too, whatever stands in them -/
def gEqS : G2 := fun d e => match d, e with
  | .str x, .str y => vB (decide (x = y))
  | d, e => gEq d e
def gNeS : G2 := fun d e => match d, e with
  | .str x, .str y => vB (!decide (x = y))
  | d, e => gNe d e
theorem opEqS : Rule2 X.K (fun x y H Q => rEq x y H Q ∨ rEqV X.K x y H Q) gEqS := by
  intro H O x y d e b Q dm hx hy hg r
  unfold gEqS at hg
  split at hg
  · rename_i u v
    cases hg
    rw [inv_str hx, inv_str hy]
    have e : decide (V.str u = V.str v) = decide (u = v) := by simp
    exact .inl ⟨rfl, by rw [e]; exact r.here (.bl _)⟩
  · exact .inr (opEq H O x y _ _ b Q dm hx hy hg r)
theorem opNeS : Rule2 X.K (fun x y H Q => rNe x y H Q ∨ rNeV X.K x y H Q) gNeS := by
  intro H O x y d e b Q dm hx hy hg r
  unfold gNeS at hg
  split at hg
  · rename_i u v
    cases hg
    rw [inv_str hx, inv_str hy]
    have e : decide (V.str u = V.str v) = decide (u = v) := by simp
    exact .inl ⟨rfl, by rw [e]; exact r.here (.bl _)⟩
  · exact .inr (opNe H O x y _ _ b Q dm hx hy hg r)
theorem vB_bool {k : Bool} {b : B} (h : vB k = some b) : ∃ k, b = .val (.bool k) := by cases h; exact ⟨_, rfl⟩
theorem bg_eq : BoolG gEq := fun d e b h => by unfold gEq at h; split at h; exact vB_bool h; cases h
theorem bg_ne : BoolG gNe := fun d e b h => by unfold gNe at h; split at h; exact vB_bool h; cases h
theorem bg_eqS : BoolG gEqS := fun d e b h => by unfold gEqS at h; split at h; exact vB_bool h; exact bg_eq _ _ _ h
theorem bg_neS : BoolG gNeS := fun d e b h => by unfold gNeS at h; split at h; exact vB_bool h; exact bg_ne _ _ _ h
theorem bg_lt : BoolG gLt := fun d e b h => by
  unfold gLt at h
  split at h
  · exact vB_bool h
  · split at h
    · exact vB_bool h
    · cases h
  · cases h
theorem bg_le : BoolG gLe := fun d e b h => by unfold gLe at h; split at h; exact vB_bool h; cases h
theorem bg_gt : BoolG gGt := fun d e b h => by unfold gGt at h; split at h; exact vB_bool h; cases h
theorem bg_ge : BoolG gGe := fun d e b h => by unfold gGe at h; split at h; exact vB_bool h; cases h
theorem bg_in : BoolG gIn := fun d e b h => by
  unfold gIn at h
  split at h
  · exact vB_bool h
  · split at h; exact vB_bool h; cases h
  · split at h; exact vB_bool h; cases h
  · cases h
theorem bg_notin : BoolG gNotIn := fun d e b h => by
  unfold gNotIn at h
  split at h
  · exact vB_bool h
  · split at h; exact vB_bool h; cases h
  · split at h; exact vB_bool h; cases h
  · cases h
theorem bg_is : BoolG gIs := fun d e b h => by unfold gIs at h; split at h; exact vB_bool h; exact vB_bool h; cases h
theorem bg_isnot : BoolG gIsNot := fun d e b h => by unfold gIsNot at h; split at h; exact vB_bool h; exact vB_bool h; cases h
end
/-- an operator of comparison: its rule, its answer -/
structure CmpO (X : Cx) (op : CmpOp) (g : G2) : Prop where
  ex : ∃ r : R2, OpR X (compareOp op) r ∧ Rule2 X.K r g
  bg : BoolG g
section
variable {G : Glob} {N : List Str} {sc : Scope} {k : Nat} {X : Cx} {W : WX} {P : Nat → Bool} {a b c : Expr} {ma mb mc : Mn PyData} {pos : Pos}
theorem Good.hu (g : Good G N sc k X W) : X.A.units + 65 < cLine := by
  have := g.room.un
  omega
theorem o_eq (g : Good G N sc k X W) : CmpO X .Eq gEqS := ⟨⟨_, OpR.or op_eq (ruleEq g.hu), opEqS⟩, bg_eqS⟩
theorem o_ne (g : Good G N sc k X W) : CmpO X .NotEq gNeS := ⟨⟨_, OpR.or op_ne (ruleNe g.hu), opNeS⟩, bg_neS⟩
theorem o_lt (g : Good G N sc k X W) : CmpO X .Lt gLt := ⟨⟨_, ruleLt g.hu, opLt⟩, bg_lt⟩
theorem o_le (g : Good G N sc k X W) : CmpO X .LtE gLe := ⟨⟨_, op_le, opLe⟩, bg_le⟩
theorem o_gt (g : Good G N sc k X W) : CmpO X .Gt gGt := ⟨⟨_, op_gt, opGt⟩, bg_gt⟩
theorem o_ge (g : Good G N sc k X W) : CmpO X .GtE gGe := ⟨⟨_, op_ge, opGe⟩, bg_ge⟩
theorem o_in (g : Good G N sc k X W) : CmpO X .In gIn := ⟨⟨_, ruleIn g.hu, opIn⟩, bg_in⟩
theorem o_notin (g : Good G N sc k X W) : CmpO X .NotIn gNotIn := ⟨⟨_, ruleNotIn g.hu, opNotIn⟩, bg_notin⟩
theorem o_is (g : Good G N sc k X W) : CmpO X .Is gIs := ⟨⟨_, ruleIs, opIs⟩, bg_is⟩
theorem o_isnot (g : Good G N sc k X W) : CmpO X .IsNot gIsNot := ⟨⟨_, ruleIsNot, opIsNot⟩, bg_isnot⟩
theorem e_cmp {op : CmpOp} {g : G2} (o : CmpO X op g) (ha : ED X W a ma) (hb : ED X W b mb) (hm : behindInMarks op b = false := by rfl) : EM X W (.Compare a [op] [b] pos) (m2 g ma mb) := by
  obtain ⟨⟨r, h1, h2⟩, _⟩ := o
  exact em_cmp h1 h2 ha hb hm
theorem t_cmp {op : CmpOp} {g : G2} (o : CmpO X op g) (ha : ED X W a ma) (hb : ED X W b mb) (hm : behindInMarks op b = false := by rfl) : ET X W (.Compare a [op] [b] pos) (asT (m2 g ma mb)) := by
  obtain ⟨⟨r, h1, h2⟩, h3⟩ := o
  exact et_cmp h1 h2 h3 ha hb hm
theorem e_chn {op op' : CmpOp} {g g' : G2} (o : CmpO X op g) (o' : CmpO X op' g') (ha : ED X W a ma) (hb : ED X W b mb) (hc : ED X W c mc) (hm : lastMarks [op, op'] [b, c] = false := by rfl) : EM X W (.Compare a [op, op'] [b, c] pos) (mChn g g' ma mb mc) := by
  obtain ⟨⟨r, h1, h2⟩, _⟩ := o
  obtain ⟨⟨r', h1', h2'⟩, _⟩ := o'
  exact em_chn h1 h1' h2 h2' ha hb hc hm
theorem t_chn {op op' : CmpOp} {g g' : G2} (o : CmpO X op g) (o' : CmpO X op' g') (ha : ED X W a ma) (hb : ED X W b mb) (hc : ED X W c mc) (hm : lastMarks [op, op'] [b, c] = false := by rfl) : ET X W (.Compare a [op, op'] [b, c] pos) (asT (mChn g g' ma mb mc)) := by
  obtain ⟨⟨r, h1, h2⟩, _⟩ := o
  obtain ⟨⟨r', h1', h2'⟩, h3⟩ := o'
  exact et_chn h1 h1' h2 h2' h3 ha hb hc hm
theorem t_val {e : Expr} {m : Mn B} (h : EM X W e m) (he : ∀ whole, isTrue e X.env whole = (do let v ← whole; standAt e.pos; holding [v] (truthy v)) := by intro _; rfl) : ET X W e (asT m) := et_val h he
theorem e_idx (ha : ED X W a ma) (hb : ED X W b mb) (hs : PlainIx b := by intro _ _; rfl) : EM X W (.Subscript a b pos) (m2 gIdx ma mb) := em_idx ha hb hs
theorem e_cons {e : Expr} {es : List Expr} {m : Mn PyData} {mr : Mn (List PyData)} (he : ED X W e m) (hr : EA X W es mr) (hs : starEach (e :: es) X.env = (false, eval e X.env) :: starEach es X.env := by rfl) : EA X W (e :: es) (mCons m mr) := ea_cons he hr hs
/-- a module's int -/
def IntG (G : Glob) (x : Str) (i : Int) : Prop := ∃ t, G.mg x = some (.int i t)
theorem g_int (g : Good G N sc k X W) {x : Str} {i : Int} (h : IntG G x i) (hb : (gloB sc x && dunB x) = true) : EM X W (.Name x pos) (mC (.int i)) := by
  simp only [Bool.and_eq_true] at hb
  obtain ⟨t, ht⟩ := h
  have e := g.gl
  subst e
  exact em_glo (g.glo hb.1) ⟨.int i, _, ht, ⟨t, rfl⟩, fun _ => .int i⟩ (dun_d hb.2)
def StrG (G : Glob) (x : Str) (z : Str) : Prop := ∃ t, G.mg x = some (.str z t)
theorem g_str (g : Good G N sc k X W) {x z : Str} (h : StrG G x z) (hb : (gloB sc x && dunB x) = true) : EM X W (.Name x pos) (mC (.str z)) := by
  simp only [Bool.and_eq_true] at hb
  obtain ⟨t, ht⟩ := h
  have e := g.gl
  subst e
  exact em_glo (g.glo hb.1) ⟨.str z, _, ht, ⟨t, rfl⟩, fun _ => .str z⟩ (dun_d hb.2)
/-- a slot's name -/
theorem g_pe (g : Good G N sc k X W) {x : Str} {i : Nat} (h : nmB N sc x i = true) : PE X (.Name x pos) (tVar i) := by
  unfold nmB at h
  simp only [Bool.and_eq_true, decide_eq_true_eq] at h
  exact pe_var (by rw [g.nm]; exact h.1.1) (g.vis h.1.2) (dun_d h.2) (dun_c h.2)
/-! ### built-ins -/
section
variable {e : Expr} {es : List Expr} {mr : Mn (List PyData)} {p : Pos}
abbrev Free (G : Glob) (x : Str) (sc : Scope) : Prop := FreeG G x ∧ bltB sc x = true
theorem g_len (g : Good G N sc k X W) (hm : FreeG G "len") (hb : bltB sc "len" = true) (ha : EA X W [e] mr) (he : starEach [e] X.env = (false, eval e X.env) :: starEach [] X.env := by rfl) : EM X W (.Call (.Name "len" p) [e] [] pos) (mA gLen mr) := g_bi g hm hb (by decide +kernel) call_len ruleLen ha he rfl
theorem g_all (g : Good G N sc k X W) (hm : FreeG G "all") (hb : bltB sc "all" = true) (ha : EA X W [e] mr) (he : starEach [e] X.env = (false, eval e X.env) :: starEach [] X.env := by rfl) : EM X W (.Call (.Name "all" p) [e] [] pos) (mA gAll mr) := g_bi g hm hb (by decide +kernel) (cr_all g.calm) ruleAll ha he rfl
theorem g_any (g : Good G N sc k X W) (hm : FreeG G "any") (hb : bltB sc "any" = true) (ha : EA X W [e] mr) (he : starEach [e] X.env = (false, eval e X.env) :: starEach [] X.env := by rfl) : EM X W (.Call (.Name "any" p) [e] [] pos) (mA gAny mr) := g_bi g hm hb (by decide +kernel) (cr_any g.calm) ruleAny ha he rfl
theorem g_sum (g : Good G N sc k X W) (hm : FreeG G "sum") (hb : bltB sc "sum" = true) (ha : EA X W [e] mr) (he : starEach [e] X.env = (false, eval e X.env) :: starEach [] X.env := by rfl) : EM X W (.Call (.Name "sum" p) [e] [] pos) (mA gSum mr) := g_bi g hm hb (by decide +kernel) (cr_sum g.calm) ruleSum ha he rfl
theorem g_sorted (g : Good G N sc k X W) (hm : FreeG G "sorted") (hb : bltB sc "sorted" = true) (ha : EA X W [e] mr) (he : starEach [e] X.env = (false, eval e X.env) :: starEach [] X.env := by rfl) : EM X W (.Call (.Name "sorted" p) [e] [] pos) (mA gSorted mr) := g_bi g hm hb (by decide +kernel) cr_sortedI ruleSorted ha he rfl
theorem g_repr (g : Good G N sc k X W) (hm : FreeG G "repr") (hb : bltB sc "repr" = true) (ha : EA X W [e] mr) (he : starEach [e] X.env = (false, eval e X.env) :: starEach [] X.env := by rfl) : EM X W (.Call (.Name "repr" p) [e] [] pos) (mA gRepr mr) :=
  g_bi g hm hb (by decide +kernel) (call_repr (by have := g.room.un; omega) g.gd) ruleRepr ha he rfl
theorem g_max2 {e2 : Expr} (g : Good G N sc k X W) (hm : FreeG G "max") (hb : bltB sc "max" = true) (ha : EA X W [e, e2] mr) (he : starEach [e, e2] X.env = (false, eval e X.env) :: starEach [e2] X.env := by rfl) (hpl : (backTo pos (starEach [e2] X.env)).any (·.1) = false := by rfl) : EM X W (.Call (.Name "max" p) [e, e2] [] pos) (mA gMax2 mr) := g_bi g hm hb (by decide +kernel) (call_max2 g.calm) ruleMax2 ha he hpl
theorem g_min2 {e2 : Expr} (g : Good G N sc k X W) (hm : FreeG G "min") (hb : bltB sc "min" = true) (ha : EA X W [e, e2] mr) (he : starEach [e, e2] X.env = (false, eval e X.env) :: starEach [e2] X.env := by rfl) (hpl : (backTo pos (starEach [e2] X.env)).any (·.1) = false := by rfl) : EM X W (.Call (.Name "min" p) [e, e2] [] pos) (mA gMin2 mr) := g_bi g hm hb (by decide +kernel) (call_min2 g.calm) ruleMin2 ha he hpl
theorem g_tuple (g : Good G N sc k X W) (hm : FreeG G "tuple") (hb : bltB sc "tuple" = true) (ha : EA X W [e] mr) (he : starEach [e] X.env = (false, eval e X.env) :: starEach [] X.env := by rfl) : EM X W (.Call (.Name "tuple" p) [e] [] pos) (mA gTuple mr) := g_ty g hm hb (by decide +kernel) call_tuple_of ruleTuple ha he rfl
theorem g_list (g : Good G N sc k X W) (hm : FreeG G "list") (hb : bltB sc "list" = true) (ha : EA X W [e] mr) (he : starEach [e] X.env = (false, eval e X.env) :: starEach [] X.env := by rfl) : EM X W (.Call (.Name "list" p) [e] [] pos) (mA gList mr) := g_ty g hm hb (by decide +kernel) call_list_of ruleList ha he rfl
theorem g_toint (g : Good G N sc k X W) (hm : FreeG G "int") (hb : bltB sc "int" = true) (ha : EA X W [e] mr) (he : starEach [e] X.env = (false, eval e X.env) :: starEach [] X.env := by rfl) : EM X W (.Call (.Name "int" p) [e] [] pos) (mA gInt mr) := g_ty g hm hb (by decide +kernel) call_int1 ruleInt ha he rfl
theorem g_lenV {x : Str} {i : Nat} {px : Pos} (g : Good G N sc k X W) (hm : FreeG G "len") (hb : bltB sc "len" = true) (h : nmB N sc x i = true) : EM X W (.Call (.Name "len" p) [.Name x px] [] pos) (mLenV i) := em_lenV (g_pe g h) (g.glo (blt_g hb).1) (g.mgn hm)
theorem g_idxV {x : Str} {i : Nat} {px : Pos} {m : Mn PyData} (g : Good G N sc k X W) (h : nmB N sc x i = true) (he : ED X W e m) (hs : PlainIx e := by intro _ _; rfl) : EM X W (.Subscript (.Name x px) e pos) (mIdxV i m) := em_idxV (g_pe g h) he hs
theorem g_scr {x : Str} {i : Nat} {px : Pos} {m : Mn PyData} (g : Good G N sc k X W) (h : nmB N sc x i = true) (he : ED X W e m) (hs : PlainIx e := by intro _ _; rfl) : EM X W (.Subscript (.Name x px) e pos) (mScr i m) := em_scr (g_pe g h) he hs
theorem g_isi {T : String} {m : Mn B} {tab : List (String × Bool)} {x : Str} {px : Pos} (g : Good G N sc k X W) (hm : FreeG G "isinstance") (hb : bltB sc "isinstance" = true) (hx : FreeG G x) (hbx : bltB sc x = true) (hv : bootBuiltins x = some (.type T)) (he : EM X W e m) (ht : isiTB T tab = true)
    (h1 : starEach [e, .Name x px] X.env = (false, eval e X.env) :: starEach [.Name x px] X.env := by rfl) : EM X W (.Call (.Name "isinstance" p) [e, .Name x px] [] pos) (mIsi tab [] m) :=
  em_isi (g.glo (blt_g hb).1) (g.mgn hm) he (pe_bltn (v := .ty T) (g.glo (blt_g hbx).1) (g.mgn hx) hv rfl (blt_n hbx) (dun_d (blt_g hbx).2)) (.ty T) (isi_ty ht) h1 rfl rfl
theorem g_isiC {m : Mn B} {tab : List (String × Bool)} {ex : List (Str × Bool)} {x : Str} {px : Pos} (g : Good G N sc k X W) (hm : FreeG G "isinstance") (hb : bltB sc "isinstance" = true) (E : ExcG G x) (hbx : (gloB sc x && dunB x) = true) (he : EM X W e m) (ht : isiCB G.K x tab ex = true)
    (h1 : starEach [e, .Name x px] X.env = (false, eval e X.env) :: starEach [.Name x px] X.env := by rfl) : EM X W (.Call (.Name "isinstance" p) [e, .Name x px] [] pos) (mIsi tab ex m) := by
  have eg := g.gl
  subst eg
  simp only [Bool.and_eq_true] at hbx
  exact em_isi (g.glo (blt_g hb).1) (g.mgn hm) he (pe_glob (v := .ref _) (g.glo hbx.1) E.mg rfl (dun_d hbx.2)) (.own _) (isi_cls ht) h1 rfl rfl
theorem g_lrg1 {m : Mn PyData} {p2 pos2 : Pos} (g : Good G N sc k X W) (hl : FreeG G "list") (hlb : bltB sc "list" = true) (hm : FreeG G "range") (hb : bltB sc "range" = true) (ha : ED X W e m) (na : starEach [e] X.env = (false, eval e X.env) :: starEach [] X.env := by rfl) : EM X W (.Call (.Name "list" p2) [.Call (.Name "range" p) [e] [] pos] [] pos2) (mLRg1 m) :=
  em_lrg1 g.calm (g.glo (blt_g hlb).1) (g.mgn hl) (g.glo (blt_g hb).1) (g.mgn hm) ha na rfl
theorem g_trg1 {m : Mn PyData} {p2 pos2 : Pos} (g : Good G N sc k X W) (hl : FreeG G "tuple") (hlb : bltB sc "tuple" = true) (hm : FreeG G "range") (hb : bltB sc "range" = true) (ha : ED X W e m) (na : starEach [e] X.env = (false, eval e X.env) :: starEach [] X.env := by rfl) : EM X W (.Call (.Name "tuple" p2) [.Call (.Name "range" p) [e] [] pos] [] pos2) (mTRg1 m) :=
  em_trg1 g.calm (g.glo (blt_g hlb).1) (g.mgn hl) (g.glo (blt_g hb).1) (g.mgn hm) ha na rfl
theorem g_sortSet {m : Mn PyData} {p2 pos2 : Pos} (g : Good G N sc k X W) (hl : FreeG G "sorted") (hlb : bltB sc "sorted" = true) (hm : FreeG G "set") (hb : bltB sc "set" = true) (ha : ED X W e m) (na : starEach [e] X.env = (false, eval e X.env) :: starEach [] X.env := by rfl) : EM X W (.Call (.Name "sorted" p2) [.Call (.Name "set" p) [e] [] pos] [] pos2) (m1 gSortSet m) :=
  em_sortSet g.calm (g.glo (blt_g hlb).1) (g.mgn hl) (g.glo (blt_g hb).1) (g.mgn hm) ha na rfl
/-! ### what loops go over -/
variable {tg : Expr}
theorem g_rg1 (g : Good G N sc k X W) (hm : FreeG G "range") (hb : bltB sc "range" = true) (ha : EA X W [e] mr) (hs : starEach [e] X.env = [(false, eval e X.env)] := by rfl) : EI X W tg (.Call (.Name "range" p) [e] [] pos) (mRg1 mr) := ei_rg1 (g.glo (blt_g hb).1) (g.mgn hm) ha hs
theorem g_rg2 {e2 : Expr} (g : Good G N sc k X W) (hm : FreeG G "range") (hb : bltB sc "range" = true) (ha : EA X W [e, e2] mr) (hs : starEach [e, e2] X.env = [(false, eval e X.env), (false, eval e2 X.env)] := by rfl) (hs2 : starEach [e2] X.env = [(false, eval e2 X.env)] := by rfl) : EI X W tg (.Call (.Name "range" p) [e, e2] [] pos) (mRg2 mr) := ei_rg2 (g.glo (blt_g hb).1) (g.mgn hm) ha hs hs2
theorem g_zip {e2 : Expr} {elts : List Expr} {kk : Nat} {tpos : Pos} (g : Good G N sc k X W) (hm : FreeG G "zip") (hb : bltB sc "zip" = true) (ha : EA X W [e, e2] mr) (hs : starEach [e, e2] X.env = (false, eval e X.env) :: starEach [e2] X.env := by rfl) (hpl : (backTo pos (starEach [e2] X.env)).any (·.1) = false := by rfl) :
    EI X W (.Tuple elts kk tpos) (.Call (.Name "zip" p) [e, e2] [] pos) (mZip mr) := ei_zip (g.glo (blt_g hb).1) (g.mgn hm) ha hs hpl
/-! ### targets, loops, comprehensions -/
theorem g_tn (g : Good G N sc k X W) {x : Str} {i : Nat} (hp : P i = false) (h : lcB N sc x i = true) (hf : X.fn x = true ∨ sc.names.lookup x = some .local) : PG X (.Name x pos) (tG X.K P (bName i)) := by
  unfold lcB at h
  simp only [Bool.and_eq_true, decide_eq_true_eq] at h
  exact eg_name hp (by rw [g.nm]; exact g.nd) (by rw [g.nm]; exact h.1) (g.loc h.2) (by rw [g.sc]; exact hf)
theorem g_tt (g : Good G N sc k X W) {es : List Expr} {kk n : Nat} {bs : Bds} (h : PGs X es (tGs X.K P bs)) (hn : (assignEach es X.env).length = n := by rfl) (hst : (assignEach es X.env).findIdx? (·.1) = none := by rfl) : PG X (.Tuple es kk pos) (tG X.K P (bTup n bs)) := eg_tup g.calm h hn hst
theorem g_for {iter : Expr} {body : List Stmt} {mi : Mn (List PyData)} {bnd : Bd} {mb : Sm} (g : GoodS G N sc k X W) (hi : EI X W tg iter mi) (hg : PG X tg (tG X.K P bnd)) (hb : ESs X W P body mb) (hs : ∀ x, foldedSetIterable iter X.env x = pure x := by intro _; rfl) : ES X W P (.For tg iter body [] pos) (sFor mi bnd mb) := es_for g.own g.calm hi hg hb hs
theorem Good.blk (g : Good G N sc k X W) {scope : Scope} {s : Shared} {H : Hp} {C : Addr} {cl : List (Str × Addr)} {fp : List Addr} : Good G N (relS scope sc) k (X.blk s H scope (compEnvC scope cl C X.env) fp) W0 :=
  { gl := g.gl, nm := g.nm, nd := g.nd, sc := by rw [← g.sc]; rfl, room := g.room, gd := g.gd, calm := g.calm, tk := takes0 }
/-- the names a block owns -/
def Owns (X : Cx) (scope : Scope) : Prop := ∀ x, X.fn x = (scope.names.lookup x == some .cell)
theorem owns_name (h : Owns X scope) {x : Str} (c : (scope.names.lookup x == some .cell) = true ∨ sc.names.lookup x = some .local) : X.fn x = true ∨ sc.names.lookup x = some .local := c.imp (fun c => (h x).trans c) fun c => c
def ownB (scope sc : Scope) (x : Str) : Bool := (scope.names.lookup x == some .cell) || (sc.names.lookup x == some .local)
theorem g_to (g : Good G N sc k X W) {scope : Scope} (ow : Owns X scope) {x : Str} {i : Nat} (hp : P i = false) (h : lcB N sc x i = true) (hf : ownB scope sc x = true) : PG X (.Name x pos) (tG X.K P (bName i)) := by
  unfold ownB at hf
  rw [Bool.or_eq_true] at hf
  exact g_tn g hp h (hf.imp (fun c => (ow x).trans c) fun c => by simpa using c)
abbrev pOut (own : List (Str × Nat)) : Nat → Bool := fun i => !decide (i ∈ own.map (·.2))
theorem g_lc {elt iter : Expr} {ifs : List Expr} {scope : Scope} {own : List (Str × Nat)} {mi : Mn (List PyData)} {bnd : Bd} {mt : Mn Bool} {me : Mn PyData} (g : Good G N sc k X W) (ok : blkC N sc scope own = true) (hi : EI X W tg iter mi)
    (hb : ∀ Y : Cx, Good G N (relS scope sc) k Y W0 → Owns Y scope → PG Y tg (tG Y.K (pOut own) bnd) ∧ PTs' Y ifs mt ∧ ED Y W0 elt me) (hs : ∀ x, foldedSetIterable iter X.env x = pure x := by intro _; rfl) :
    EM X W (.ListComp elt [⟨tg, iter, ifs, 0⟩] scope pos) (mLc mi bnd mt me (own.map (·.2))) :=
  em_lc g.calm (by rw [g.nm]; exact g.nd) (by rw [g.nm, g.sc]; exact ok) hi (fun s H C cl fp => hb _ g.blk fun _ => rfl) hs
theorem g_setLc {i : Nat} {y : Str} {py spos : Pos} {elt iter : Expr} {ifs : List Expr} {scope : Scope} {own : List (Str × Nat)} {mi : Mn (List PyData)} {bnd : Bd} {mt : Mn Bool} {me : Mn PyData} (g : Good G N sc k X W) (hp : P i = false) (hy : locIs N sc y i = true) (ok : blkC N sc scope own = true) (hi : EI X W tg iter mi)
    (hb : ∀ Y : Cx, Good G N (relS scope sc) k Y W0 → Owns Y scope → PG Y tg (tG Y.K (pOut own) bnd) ∧ PTs' Y ifs mt ∧ ED Y W0 elt me)
    (hsw : (decide (sc.kind = .function) && (py.line == pos.line) && !(scope.names.any fun (n, k) => n == y && (k == .local || k == .cell))) = true) (hs : ∀ x, foldedSetIterable iter X.env x = pure x := by intro _; rfl) :
    ES X W P (.Assign [.Name y py] (.ListComp elt [⟨tg, iter, ifs, 0⟩] scope pos) spos) (sSet i (mLc mi bnd mt me (own.map (·.2)))) := by
  unfold locIs at hy
  simp only [Bool.and_eq_true, decide_eq_true_eq, Bool.not_eq_true'] at hy hsw
  exact es_setLc hp g.calm (by rw [g.nm]; exact g.nd) (by rw [g.nm]; exact hy.1.1) (by rw [g.sc]; exact hy.1.2) (sw_true (by rw [g.sc]; exact hsw.1.1) (by rw [g.sc]; exact hy.1.2) hsw.1.2 hsw.2) (by rw [g.nm, g.sc]; exact ok) hi (fun s H C cl fp => hb _ g.blk fun _ => rfl) hs
theorem g_lc2 {elt iter tg1 iter1 : Expr} {ifs ifs1 : List Expr} {scope : Scope} {own : List (Str × Nat)} {vs1 : List Nat} {mi mi1 : Mn (List PyData)} {bnd bnd1 : Bd} {mt mt1 : Mn Bool} {me : Mn PyData} (g : Good G N sc k X W) (ok : blkC N sc scope own = true) (hv : (vs1.all fun v => decide (v ∈ own.map (·.2))) = true) (hi : EI X W tg iter mi)
    (hb : ∀ Y : Cx, Good G N (relS scope sc) k Y W0 → Owns Y scope → (PG Y tg (tG Y.K (pOut own) bnd) ∧ PTs' Y ifs mt) ∧ EI Y W0 tg1 iter1 mi1 ∧ (PG Y tg1 (tG Y.K (fun i => !decide (i ∈ vs1)) bnd1) ∧ PTs' Y ifs1 mt1) ∧ ED Y W0 elt me)
    (hs : ∀ x, foldedSetIterable iter X.env x = pure x := by intro _; rfl) (hs1 : ∀ env x, foldedSetIterable iter1 env x = pure x := by intro _ _; rfl) : EM X W (.ListComp elt [⟨tg, iter, ifs, 0⟩, ⟨tg1, iter1, ifs1, 0⟩] scope pos) (mLc2 mi bnd mt mi1 bnd1 mt1 me (own.map (·.2)) vs1) :=
  em_lc2 g.calm (by rw [g.nm]; exact g.nd) (by rw [g.nm, g.sc]; exact ok) hv hi (fun s H C cl fp => hb _ g.blk fun _ => rfl) hs hs1
theorem g_setLc2 {i : Nat} {y : Str} {py spos : Pos} {elt iter tg1 iter1 : Expr} {ifs ifs1 : List Expr} {scope : Scope} {own : List (Str × Nat)} {vs1 : List Nat} {mi mi1 : Mn (List PyData)} {bnd bnd1 : Bd} {mt mt1 : Mn Bool} {me : Mn PyData} (g : Good G N sc k X W) (hp : P i = false) (hy : locIs N sc y i = true) (ok : blkC N sc scope own = true) (hv : (vs1.all fun v => decide (v ∈ own.map (·.2))) = true) (hi : EI X W tg iter mi)
    (hb : ∀ Y : Cx, Good G N (relS scope sc) k Y W0 → Owns Y scope → (PG Y tg (tG Y.K (pOut own) bnd) ∧ PTs' Y ifs mt) ∧ EI Y W0 tg1 iter1 mi1 ∧ (PG Y tg1 (tG Y.K (fun i => !decide (i ∈ vs1)) bnd1) ∧ PTs' Y ifs1 mt1) ∧ ED Y W0 elt me)
    (hsw : (decide (sc.kind = .function) && (py.line == pos.line) && !(scope.names.any fun (n, k) => n == y && (k == .local || k == .cell))) = true)
    (hs : ∀ x, foldedSetIterable iter X.env x = pure x := by intro _; rfl) (hs1 : ∀ env x, foldedSetIterable iter1 env x = pure x := by intro _ _; rfl) : ES X W P (.Assign [.Name y py] (.ListComp elt [⟨tg, iter, ifs, 0⟩, ⟨tg1, iter1, ifs1, 0⟩] scope pos) spos) (sSet i (mLc2 mi bnd mt mi1 bnd1 mt1 me (own.map (·.2)) vs1)) := by
  unfold locIs at hy
  simp only [Bool.and_eq_true, decide_eq_true_eq, Bool.not_eq_true'] at hy hsw
  exact es_setLc2 hp g.calm (by rw [g.nm]; exact g.nd) (by rw [g.nm]; exact hy.1.1) (by rw [g.sc]; exact hy.1.2) (sw_true (by rw [g.sc]; exact hsw.1.1) (by rw [g.sc]; exact hy.1.2) hsw.1.2 hsw.2) (by rw [g.nm, g.sc]; exact ok) hv hi (fun s H C cl fp => hb _ g.blk fun _ => rfl) hs hs1
/-! ### own lists -/
theorem g_append {x : Str} {i : Nat} {px apos cpos : Pos} {m : Mn PyData} (g : Good G N sc k X W) (h : nmB N sc x i = true) (he : ED X W e m)
    (hfew : ((backTo cpos (starEach [e] X.env)).all (fun x => !x.1) && (backToKw cpos (keywordEach [] X.env)).all (fun x => x.1.isSome) && decide (([e] : List Expr).length + ([] : List Keyword).length + (if ([] : List Keyword).isEmpty then 0 else 1) < 30)) = true := by rfl)
    (hline : (apos.endLine == cpos.line) = true := by rfl) (hs : starEach [e] X.env = (false, eval e X.env) :: starEach [] X.env := by rfl) : EM X W (.Call (.Attribute (.Name x px) "append" apos) [e] [] cpos) (mAppend i m) := em_append (g_pe g h) he rfl hfew hline hs
theorem g_extend {x : Str} {i : Nat} {px apos cpos : Pos} {m : Mn PyData} (g : Good G N sc k X W) (h : nmB N sc x i = true) (he : ED X W e m)
    (hfew : ((backTo cpos (starEach [e] X.env)).all (fun x => !x.1) && (backToKw cpos (keywordEach [] X.env)).all (fun x => x.1.isSome) && decide (([e] : List Expr).length + ([] : List Keyword).length + (if ([] : List Keyword).isEmpty then 0 else 1) < 30)) = true := by rfl)
    (hline : (apos.endLine == cpos.line) = true := by rfl) (hs : starEach [e] X.env = (false, eval e X.env) :: starEach [] X.env := by rfl) : EM X W (.Call (.Attribute (.Name x px) "extend" apos) [e] [] cpos) (mExtend i m) := em_extend (g_pe g h) he PySem.F.slot_list_extend PySem.F.type_list_extend rfl hfew hline hs
theorem g_popAt {x : Str} {i : Nat} {px apos cpos : Pos} {m : Mn PyData} (g : Good G N sc k X W) (h : nmB N sc x i = true) (he : ED X W e m)
    (hfew : ((backTo cpos (starEach [e] X.env)).all (fun x => !x.1) && (backToKw cpos (keywordEach [] X.env)).all (fun x => x.1.isSome) && decide (([e] : List Expr).length + ([] : List Keyword).length + (if ([] : List Keyword).isEmpty then 0 else 1) < 30)) = true := by rfl)
    (hline : (apos.endLine == cpos.line) = true := by rfl) (hs : starEach [e] X.env = (false, eval e X.env) :: starEach [] X.env := by rfl) : EM X W (.Call (.Attribute (.Name x px) "pop" apos) [e] [] cpos) (mPopAt i m) := em_popAt (g_pe g h) he PySem.F.slot_list_pop PySem.F.type_list_pop rfl hfew hline hs
theorem g_pop {x : Str} {i : Nat} {px apos cpos : Pos} (g : Good G N sc k X W) (h : nmB N sc x i = true) (hline : (apos.endLine == cpos.line) = true := by rfl) : EM X W (.Call (.Attribute (.Name x px) "pop" apos) [] [] cpos) (mPop i) := em_pop (g_pe g h) PySem.F.slot_list_pop PySem.F.type_list_pop rfl hline
theorem g_sub {x : Str} {i : Nat} {px pt : Pos} {ek : Expr} {me mk : Mn PyData} (g : Good G N sc k X W) (h : nmB N sc x i = true) (he : ED X W e me) (hk : ED X W ek mk)
    (ha : ∀ v, assign (.Subscript (.Name x px) ek pt) X.env v = (do
      let ov ← holding [v] (eval (.Name x px) X.env)
      let iv ← holding [v, ov] (eval ek X.env)
      standAt pt
      holding [v, ov, iv] (setItem ov iv v)
      release [v, ov, iv] []) := by intro _; rfl)
    (hs : swapsWithSole [.Subscript (.Name x px) ek pt] e pos.line X.env = pure false := by rfl) (hw : swappedStores [.Subscript (.Name x px) ek pt] e X.env = pure none := by rfl)
    (h1 : (assignEach [.Subscript (.Name x px) ek pt] X.env).map (·.2) = [assign (.Subscript (.Name x px) ek pt) X.env] := by rfl) : ES X W P (.Assign [.Subscript (.Name x px) ek pt] e pos) (sSub i mk me) := es_sub (g_pe g h) he hk ha hs hw h1
/-- what depends on the names' kinds alone -/
theorem by_scope {α : Type} {f : Env → α} {y : α} (g : Good G N sc k X W) (h : ∀ env : Env, env.scope = sc → f env = y) : f X.env = y := h X.env g.sc
theorem g_par2 {i j : Nat} {x y : Str} {a b : Expr} {ma mb : Mn B} {px py pt : Pos} {kt k2 pt2} (g : GoodS G N sc k X W) (hpi : P i = false) (hpj : P j = false) (hi : locIs N sc x i = true) (hj : locIs N sc y j = true) (hij : i ≠ j) (ha : EM X W a ma) (hb : EM X W b mb)
    (hw : ∀ env : Env, env.scope = sc → swappedStores [.Tuple [.Name x px, .Name y py] kt pt] (.Tuple [a, b] k2 pt2) env = pure (some [x, y]))
    (hs : swapsWithSole [.Tuple [.Name x px, .Name y py] kt pt] (.Tuple [a, b] k2 pt2) pos.line X.env = pure false := by rfl)
    (h1 : starEach [a, b] X.env = (false, eval a X.env) :: starEach [b] X.env := by rfl) (h2 : starEach [b] X.env = (false, eval b X.env) :: starEach [] X.env := by rfl) :
    ES X W P (.Assign [.Tuple [.Name x px, .Name y py] kt pt] (.Tuple [a, b] k2 pt2) pos) (sPar2 i j ma mb) := by
  unfold locIs at hi hj
  simp only [Bool.and_eq_true, decide_eq_true_eq] at hi hj
  exact es_par2 hpi hpj g.calm (by rw [g.nm]; exact g.nd) (by rw [g.nm]; exact hi.1.1) (by rw [g.nm]; exact hj.1.1) hij (by rw [g.sc]; exact hi.1.2) (by rw [g.sc]; exact hj.1.2) ha hb (hw _ g.sc) hs h1 h2
theorem g_par3 {i j l : Nat} {x y z : Str} {a b c : Expr} {ma mb mc : Mn B} {px py pz pt : Pos} {kt k2 pt2} (g : GoodS G N sc k X W) (hpi : P i = false) (hpj : P j = false) (hpl : P l = false) (hi : locIs N sc x i = true) (hj : locIs N sc y j = true) (hl : locIs N sc z l = true) (hij : i ≠ j) (hil : i ≠ l) (hjl : j ≠ l) (ha : EM X W a ma) (hb : EM X W b mb) (hc : EM X W c mc)
    (hw : ∀ env : Env, env.scope = sc → swappedStores [.Tuple [.Name x px, .Name y py, .Name z pz] kt pt] (.Tuple [a, b, c] k2 pt2) env = pure (some [x, y, z]))
    (hs : swapsWithSole [.Tuple [.Name x px, .Name y py, .Name z pz] kt pt] (.Tuple [a, b, c] k2 pt2) pos.line X.env = pure false := by rfl)
    (h1 : starEach [a, b, c] X.env = (false, eval a X.env) :: starEach [b, c] X.env := by rfl) (h2 : starEach [b, c] X.env = (false, eval b X.env) :: starEach [c] X.env := by rfl) (h3 : starEach [c] X.env = (false, eval c X.env) :: starEach [] X.env := by rfl) :
    ES X W P (.Assign [.Tuple [.Name x px, .Name y py, .Name z pz] kt pt] (.Tuple [a, b, c] k2 pt2) pos) (sPar3 i j l ma mb mc) := by
  unfold locIs at hi hj hl
  simp only [Bool.and_eq_true, decide_eq_true_eq] at hi hj hl
  exact es_par3 hpi hpj hpl g.calm (by rw [g.nm]; exact g.nd) (by rw [g.nm]; exact hi.1.1) (by rw [g.nm]; exact hj.1.1) (by rw [g.nm]; exact hl.1.1) hij hil hjl (by rw [g.sc]; exact hi.1.2) (by rw [g.sc]; exact hj.1.2) (by rw [g.sc]; exact hl.1.2) ha hb hc (hw _ g.sc) hs h1 h2 h3
/-- (a, b, ..) = data -/
def sUnp (m : Mn B) (bnd : Bd) : Sm := fun ρ => (asD m ρ).go fun d ρ1 => match bnd d ρ1 with
  | some ρ2 => .nx ρ2
  | none => .bad
theorem g_unp {es : List Expr} {kk : Nat} {pt : Pos} {m : Mn B} {bnd : Bd} (g : Good G N sc k X W) (he : EM X W e m) (hg : PG X (.Tuple es kk pt) (tG X.K P bnd)) (hw : ∀ env : Env, env.scope = sc → swappedStores [.Tuple es kk pt] e env = pure none)
    (hs : swapsWithSole [.Tuple es kk pt] e pos.line X.env = pure false := by rfl) (h1 : (assignEach [.Tuple es kk pt] X.env).map (·.2) = [assign (.Tuple es kk pt) X.env] := by rfl) : ES X W P (.Assign [.Tuple es kk pt] e pos) (sUnp m bnd) :=
  PS.wk (ps_asg he.d hg hs (hw _ g.sc) h1) fun D σ H q => by
    obtain ⟨ρ, F, hid, s, q⟩ := q
    refine ⟨ρ, F, hid, s, REnd.mono Keep.refl (fun d ρ1 q v H1 F1 k1 s1 q1 => ?_) (REnd.of_go q)⟩
    cases eb : bnd d ρ1 with
    | none => simp only [eb] at q; exact q.elim
    | some ρ2 =>
      simp only [eb] at q
      have q' : okS X.K P σ H F hid D.nx ρ2 := q
      exact ⟨ρ1, F1, hid, d, s1, q1, ρ2, eb, fun σ2 F2 ag sub s2 => q' σ2 H1 F2 ag (k1.less sub) s2⟩
theorem g_names {x : Str} {c : Str} (g : Good G N sc k X W) (E : G.mg x = some (.ref (He.ga G.K c))) (hb : (gloB sc x && dunB x) = true) : Names X x (.ref (He.ga X.K c)) := by
  have eg := g.gl
  subst eg
  simp only [Bool.and_eq_true] at hb
  exact ⟨g.glo hb.1, dun_d hb.2, .inl E⟩
/-- which own classes are caught by another -/
def hitB (K : PySem.W.Frag) (y : Str) (l : List (Str × Bool)) : Bool := l.all fun p => decide (PySem.W.exmOne K (.ref (He.ga K p.1)) (.ref (He.ga K y)) = some p.2)
theorem hit_ok {K : PySem.W.Frag} {y : Str} {l : List (Str × Bool)} (h : hitB K y l = true) : HitOk K (.ref (He.ga K y)) fun c => l.lookup c := fun c b e => by simpa using List.all_eq_true.mp h _ (lookup_mem e)
theorem g_try' {x n y : Str} {i j : Nat} {l : List (Str × Bool)} {body : List Stmt} {mb : Sm} {np py pn sp pos' : Pos} (g : GoodS G N sc k X W) (hpi : P i = false) (hpj : P j = false) (hij : i ≠ j) (hn : locIs N sc n i = true) (hy : lcB N sc y j = true) (E : G.mg x = some (.ref (He.ga G.K x))) (hb : (gloB sc x && dunB x) = true) (ok : hitB G.K x l = true)
    (hbody : ∀ (Y : Cx) (W' : WX), GoodS G N sc k Y W' → ESs Y W' P body mb)
    (hsw : ∀ Y : Cx, Y.env = X.env → swapsWith (.Name n pn) (some (.Name y py)) sp.line Y.env = pure false := by intro _ _; rfl) :
    ES X W P (.Try body [.ExceptHandler (some (.Name x np)) (some n) [.Assign [.Name y py] (.Name n pn) sp] pos'] [] [] pos) (sTry (fun c => l.lookup c) i j mb) := by
  have h := g_names g.toGood E hb
  have eg := g.gl
  subst eg
  exact g_try g hpi hpj hij hn hy h (hit_ok ok) hbody hsw
end
end
end ML
/-! # ML19 -/
set_option Elab.async false
set_option linter.all false
set_option maxRecDepth 100000
namespace ML
open PySem PySem.Spec PyProof PyProof.Rows L2
/-! ## the law's own call -/
section
variable {P : Program} {w : World} {K : PySem.W.Frag} {mg mb : Str → Option Value} {k : Nat} {fa a : Addr} {fd : FuncData} {x : Str} {fn : Fn} {s₁ : Shared} {vs : List Value} {ns : List Int}
/-- an abstract heap that holds the script -/
theorem script_heap (KX : K.In s₁.heap) (ha : s₁.heap.get? a = some { cls := .type "list", data := .seq vs.toArray }) (hi : IntsAre vs ns) (hl : ns.length ≤ sizeLine) :
    ∃ H : Hp, Only H ∧ SqL K H a (ns.map V.int) ∧ HOk P w H s₁.heap ∧ (∀ b, H b ≠ none → b = a) ∧ (H a ≠ none → K.lookup a = none) := by
  have rv := vals_ints hi
  cases look : K.lookup a with
  | some o =>
    have e := KX a o look
    rw [ha] at e
    cases e
    refine ⟨fun _ => none, fun _ => .inl rfl, .inr ⟨_, vs.toArray, _, look, rfl, rfl, rfl, ?_, by simpa using rv⟩, fun b u z => (nomatch z), fun b z => absurd rfl z, fun z => absurd rfl z⟩
    rw [List.size_toArray, hi.length]
    exact hl
  | none =>
    let o : Obj := { cls := .type "list", data := .seq vs.toArray }
    refine ⟨fun b => if b = a then some (.frz o (.lst (ns.map V.int))) else none, fun b => ?_, .inl (.inr ⟨o, if_pos rfl⟩), fun b u z => ?_, fun b z => ?_, fun _ => rfl⟩
    · by_cases e : b = a
      · exact .inr ⟨_, _, if_pos e⟩
      · exact .inl (if_neg e)
    · have z : (if b = a then some (.frz o (.lst (ns.map V.int))) else none) = some u := z
      by_cases e : b = a
      · rw [if_pos e] at z
        cases z
        subst e
        exact ⟨ha, by rw [List.length_map]; exact hl, vs, _, rv, ha⟩
      · rw [if_neg e] at z
        cases z
    · by_cases e : b = a
      · exact e
      · exact absurd (if_neg e) z
theorem law_callG (KX : K.In s₁.heap) (hns : s₁.heap.Ns mainGlobals mg) (hb : s₁.heap.Ns builtinsNs mb) (hbb : ∀ x : Str, x ≠ "__name__" → mb x = bootBuiltins x) (hlim : s₁.heap.NoLimit) (hg : s₁.gens = #[])
    (ha : s₁.heap.get? a = some { cls := .type "list", data := .seq vs.toArray }) (hi : IntsAre vs ns) (hl : ns.length ≤ sizeLine) (room : Room k callerA)
    (F : ∀ base : Heap, K.In base → base.Ns mainGlobals mg → FnG ⟨P, w, K, mg, base⟩ k fa fd [x] fn) (bnd : ∀ (s : Shared) (u : Value), BindsTo s fd ⟨[u], []⟩ [(x, u)])
    (good : ∃ ρ, fn [some (.scr ns)] = .ok (.val (.bool true)) ρ) :
    codeAny (model P w) callerA (.call (.ref fa) ⟨[.ref a], []⟩) (fun r s' => r = .ok (.ret (.bool true)) ∧ OldK s₁.heap s'.heap ∧ s'.os = s₁.os ∧ AllBare s'.gens) s₁ := by
  obtain ⟨H, only, hS, hok, hA, hK⟩ := script_heap (P := P) (w := w) KX ha hi hl
  have isA : ∀ {b : Addr} {u : HO}, H b = some u → b = a := fun {b u} e => hA b (by rw [e]; exact fun z => nomatch z)
  have seen : ∀ {b : Addr} {o : Obj}, s₁.heap.get? b = some o → (∀ u, H b = some u → False) → (hidT s₁.heap H).get? b = some o := fun {b o} e n => hidT_get e (by
    cases q : H b with
    | none => rfl
    | some u => exact (n u q).elim)
  have notDict : ∀ {b : Addr} {o : Obj} {es : Array DictEntry} {ep : Nat}, s₁.heap.get? b = some o → o.data = .dict es ep → ∀ u, H b = some u → False := fun {b o es ep} e d u q => by
    rw [isA q, ha] at e
    cases e
    exact nomatch (show Data.seq vs.toArray _ = Data.dict es ep from d)
  have space : ∀ {b : Addr} {m : Str → Option Value}, s₁.heap.Ns b m → (hidT s₁.heap H).Ns b m := by
    rintro b m ⟨o, es, ep, e, d, r⟩
    exact ⟨o, es, ep, seen e (notDict e d), d, r⟩
  have KB : K.In (hidT s₁.heap H) := fun b o e => seen (KX b o e) fun u q => by
    have ea := isA q
    subst ea
    rw [hK (by rw [q]; exact fun z => nomatch z)] at e
    cases e
  have modK : Mod K mg (hidT s₁.heap H) := by
    obtain ⟨mc, h1, h2⟩ := hlim
    exact ⟨KB, space hns, ⟨mb, space hb, hbb⟩, ⟨mc, space h1, h2⟩⟩
  have e0 : Env0 P w K mg (hidT s₁.heap H) callerA [] s₁ H := ⟨rfl, modK, fun b o e => of_hidT e, Nat.le_of_eq (hidT_size _ _), trivial, fun b hb => (nomatch hb), hok, .of_eq hg⟩
  obtain ⟨ρ', ef⟩ := good
  have want : tM K (fun _ _ _ _ => False) fn ([V.ref a].map some) H (fun v _ => v = .bl true) := by
    refine ⟨[some (.scr ns)], fun _ _ => False, fun _ => False, ⟨fun b z => (z.elim (fun ⟨_, z⟩ => z) fun z => z).elim, fun _ _ _ z => z.elim, fun _ _ z => z.elim, rfl, fun i b e => ?_⟩, ?_⟩
    · cases i with
      | zero =>
        cases e
        exact ⟨.ref a, rfl, a, rfl, (show Same H (wo H _) from fun b o e => wo_iff.mpr ⟨fun z => (z.elim (fun ⟨_, z⟩ => z) fun z => z), e⟩).seq hS⟩
      | succ i => simp at e
    · rw [ef]
      intro v H' F' fp _ _ o
      cases (show DV K _ v (.bool true) from o)
      rfl
  refine codeAny_mono ((F _ KB (space hns)).run callerA [] s₁ H ⟨[.ref a], []⟩ [.ref a] [.ref a] _ (fun _ _ _ => False) room rfl e0 (bnd s₁ (.ref a)) (.cons rfl .nil) want) fun r s' h => ?_
  cases r with
  | error e =>
    obtain ⟨_, _, _, _, _, _, _, _, _, _, _, _, z⟩ := h
    exact z.elim
  | ok fl =>
    cases fl with
    | ret u =>
      obtain ⟨v, H', os, bare, un, hok', r', rfl⟩ := h
      cases r'
      refine ⟨rfl, OldK.of_keep fun b o e => ?_, os, bare⟩
      cases q : H b with
      | none => exact un.keep b o e q (fun z => nomatch z) fun z => nomatch z
      | some u =>
        rcases only b with z | ⟨ob, xs, z⟩
        · rw [q] at z
          cases z
        · obtain ⟨e1, _⟩ := hok b _ z
          obtain ⟨e2, _⟩ := hok' b _ (un.frzs b ob _ z)
          rw [e] at e1
          cases e1
          exact e2
    | _ => exact h.elim
end
/-- the goal that the head leaves -/
theorem walkG {l : PySem.W.OpenLaw} {n k : Nat} {q : Program} {loose : List Str} {XP : (Str → Option Value) → Heap → Prop} {YP : World → Heap → Prop} {d : DefRec} {x : Str} {fn : Fn}
    (hn : l.most = some n) (hn2 : n ≤ sizeLine) (hdf : d.params.defaults = []) (room : Room k callerA)
    (F : ∀ (w : World) (mg : Str → Option Value) (fa : Addr) (h : Heap), YP w h → h.Ns mainGlobals mg → mg d.name = some (.ref fa) →
      ∃ (K : PySem.W.Frag) (fd : FuncData), K.In h ∧ (∀ (s : Shared) (u : Value), BindsTo s fd ⟨[u], []⟩ [(x, u)]) ∧ ∀ base : Heap, K.In base → base.Ns mainGlobals mg → FnG ⟨l.prog, w, K, mg, base⟩ k fa fd [x] fn)
    (good : ∀ ns : List Int, ns.length ≤ n → ∃ ρ, fn [some (.scr ns)] = .ok (.val (.bool true)) ρ) :
    PySem.W.WalkO q loose XP YP l.row.toRowW d [] (fun f vs => PySem.call f vs) := by
  refine Att.attach_call hn hdf fun w s₀ s₁ mg mb fa o pm cd doc a vs ns G Y ho hd hcd hmg hobj hints hlen hg => ?_
  obtain ⟨K, fd, KX, hb, hF⟩ := F w mg fa _ Y G.T.g hmg
  exact law_callG KX G.T.g G.T.b G.T.builtins G.T.nolimit hg hobj hints (Nat.le_trans hlen hn2) room hF hb (good ns hlen)
end ML
/-! # K02P -/
set_option Elab.async false
set_option linter.all false
set_option maxRecDepth 100000
namespace K02
open PySem PySem.Spec PyProof PyProof.Rows L2 ML
/-! ## what the defs compute -/
def tabC : List (String × Bool) := [("NoneType", false), ("bool", false), ("int", false), ("str", false), ("list", false), ("tuple", false), ("dict", false)]
def ex_BadLock : List (Str × Bool) := [("KeyedError", false), ("BadMake", false), ("BadKey", false), ("BadLock", true), ("TooMany", false)]
def ex_BadMake : List (Str × Bool) := [("KeyedError", false), ("BadMake", true), ("BadKey", false), ("BadLock", false), ("TooMany", false)]
def hit_KeyedError : List (Str × Bool) := [("KeyedError", true), ("BadMake", true), ("BadKey", true), ("BadLock", true), ("TooMany", true)]
def f_is_integer : Fn := mDef [true] 1 (sRet (mAnd (mIsi [("NoneType", false), ("bool", true), ("int", true), ("str", false), ("list", false), ("tuple", false), ("dict", false)] [] (mVar 0)) (mNot (asT (mIsi [("NoneType", false), ("bool", true), ("int", false), ("str", false), ("list", false), ("tuple", false), ("dict", false)] [] (mVar 0))))))
def f_is_row : Fn := mDef [true, true, true] 3 (sRet (mAnd (mIsi [("NoneType", false), ("bool", false), ("int", false), ("str", false), ("list", false), ("tuple", true), ("dict", false)] [] (mVar 0)) (mChn gLe gLe (asD (mVar 1)) (asD (mLenV 0)) (asD (mVar 2)))))
def f_is_ascending : Fn := mDef [true] 3 (sRet (mA gAll (mCons (asD (mLc (mZip (mCons (asD (mVar 0)) (mCons (asD (mSl (asD (mVar 0)) (mO (some (asD (mC (.int 1))))) (mO none))) mNil))) (bTup 2 (bCons (bName 1) (bCons (bName 2) bNil))) mYes (asD (m2 gLt (asD (mVar 1)) (asD (mVar 2)))) [1, 2])) mNil)))
def f_product_rows : Fn := mDef [true] 5 (sSeq (sSet 1 (mLst (mCons (asD (mTup mNil)) mNil)))
  (sSeq (sFor (mIt (mVar 0)) (bName 2) (sSet 1 (mLc2 (mIt (mVar 1)) (bName 3) mYes (mIt (mVar 2)) (bName 4) mYes (asD (m2 gAdd (asD (mVar 3)) (asD (mTup (mCons (asD (mVar 4)) mNil))))) [3, 4] [4])))
  (sRetV 1)))
def f_product_of : Fn := mDef [true] 3 (sSeq (sSet 1 (mC (.int 1)))
  (sSeq (sFor (mIt (mVar 0)) (bName 2) (sSet 1 (m2 gMulX (asD (mVar 1)) (asD (mVar 2)))))
  (sRetV 1)))
def f_does_open : Fn := mDef [true, true] 4 (sRet (mA gAll (mCons (asD (mLc (mZip (mCons (asD (mVar 1)) (mCons (asD (mVar 0)) mNil))) (bTup 2 (bCons (bName 2) (bCons (bName 3) bNil))) mYes (asD (m2 gIn (asD (mVar 2)) (asD (mVar 3)))) [2, 3])) mNil)))
def f__law_source : Fn := mDef [true, true] 3 (sSeq (sSet 2 (mIf (asT (m2 gLt (asD (mVar 1)) (asD (mLenV 0)))) (mScr 0 (asD (mVar 1))) (mC (.int 0))))
  (sRet (mLst (mCons (asD (mA gMax2 (mCons (asD (mC (.int 0))) (mCons (asD (m2 gSub (asD (mVar 2)) (asD (m2 gPow (asD (mC (.int 10))) (asD (mC (.int 18))))))) mNil)))) (mCons (asD (m2 gAdd (asD (m2 gAdd (asD (m2 gMulX (asD (m2 gMod (asD (mA gInt (mCons (asD (mVar 2)) mNil))) (asD (m2 gAdd (asD (m2 gPow (asD (mC (.int 10))) (asD (mC (.int 29))))) (asD (mC (.int 319))))))) (asD (mC (.int 1013))))) (asD (m2 gMulX (asD (mC (.int 8513))) (asD (mVar 1)))))) (asD (mC (.int 91))))) (mCons (asD (mC (.int 0))) mNil))))))
def f__law_take : Fn := mDef [true, true] 4 (sSeq (sIf (asT (m2 gGt (asD (mIdxV 0 (asD (mC (.int 0))))) (asD (mC (.int 0))))) (sSeq (sSet 2 (m2 gMod (asD (mA gInt (mCons (asD (mIdxV 0 (asD (mC (.int 0))))) mNil))) (asD (mVar 1))))
   (sSeq (sSub 0 (asD (mC (.int 0))) (asD (m2 gFdiv (asD (mIdxV 0 (asD (mC (.int 0))))) (asD (mVar 1)))))
   (sRetV 2))) sNil)
  (sSeq (sSub 0 (asD (mC (.int 2))) (asD (m2 gAdd (asD (mIdxV 0 (asD (mC (.int 2))))) (asD (mC (.int 1))))))
  (sSeq (sSet 3 (m2 gMod (asD (mA gInt (mCons (asD (m2 gPow (asD (m2 gAdd (asD (mIdxV 0 (asD (mC (.int 1))))) (asD (m2 gMulX (asD (mC (.int 31415926535897931))) (asD (mIdxV 0 (asD (mC (.int 2))))))))) (asD (mC (.int 3))))) mNil))) (asD (m2 gAdd (asD (m2 gPow (asD (mC (.int 10))) (asD (mC (.int 38))))) (asD (mC (.int 133)))))))
  (sSeq (sSet 3 (m2 gMod (asD (mA gInt (mCons (asD (m2 gAdd (asD (m2 gAdd (asD (m2 gMulX (asD (mVar 3)) (asD (mVar 3)))) (asD (m2 gMulX (asD (mC (.int 27182818284590451))) (asD (mIdxV 0 (asD (mC (.int 2))))))))) (asD (mC (.int 7))))) mNil))) (asD (m2 gAdd (asD (m2 gPow (asD (mC (.int 10))) (asD (mC (.int 41))))) (asD (mC (.int 109)))))))
  (sRet (m2 gMod (asD (mA gInt (mCons (asD (m2 gFdiv (asD (mVar 3)) (asD (m2 gPow (asD (mC (.int 10))) (asD (mC (.int 8))))))) mNil))) (asD (mVar 1))))))))
def f__law_same : Fn := mDef [true, true] 2 (sRet (mAnd (m2 gEqS (asD (mVar 0)) (asD (mVar 1))) (m2 gEqS (asD (mA gRepr (mCons (asD (mVar 0)) mNil))) (asD (mA gRepr (mCons (asD (mVar 1)) mNil))))))
def f__law_put : Fn := mDef [true, true, true] 3 (sRet (m2 gAdd (asD (m2 gAdd (asD (mSl (asD (mVar 0)) (mO none) (mO (some (asD (mVar 1)))))) (asD (mTup (mCons (asD (mVar 2)) mNil))))) (asD (mSl (asD (mVar 0)) (mO (some (asD (m2 gAdd (asD (mVar 1)) (asD (mC (.int 1))))))) (mO none)))))
def f__law_opens : Fn := mDef [true, true] 4 (sRet (m2 gEqS (asD (mLc (mZip (mCons (asD (mVar 1)) (mCons (asD (mVar 0)) mNil))) (bTup 2 (bCons (bName 2) (bCons (bName 3) bNil))) (asT (m2 gNotIn (asD (mVar 2)) (asD (mVar 3)))) (asD (mC (.int 1))) [2, 3])) (asD (mLst mNil))))
def f__law_as_lock : Fn := mDef [true, true] 5 (sRet (mA gTuple (mCons (asD (mLc (mZip (mCons (asD (mIdxV 0 (asD (mC (.int 0))))) (mCons (asD (mIdxV 0 (asD (mC (.int 1))))) mNil))) (bTup 2 (bCons (bName 2) (bCons (bName 3) bNil))) mYes (asD (mA gTuple (mCons (asD (mA gSorted (mCons (asD (mLc (mIt (mIdxV 1 (asD (mVar 2)))) (bName 4) mYes (asD (mIdxV 3 (asD (mVar 4)))) [4])) mNil))) mNil))) [2, 3])) mNil)))
def f__law_both : Fn := mDef [true, true] 6 (sSeq (sSet 2 (mA gTuple (mCons (asD (mLc (mZip (mCons (asD (mVar 0)) (mCons (asD (mVar 1)) mNil))) (bTup 2 (bCons (bName 3) (bCons (bName 4) bNil))) mYes (asD (mA gTuple (mCons (asD (mLc (mIt (mVar 3)) (bName 5) (asT (m2 gIn (asD (mVar 5)) (asD (mVar 4)))) (asD (mVar 5)) [5])) mNil))) [3, 4])) mNil)))
  (sRet (mIf (asT (m2 gIn (asD (mTup mNil)) (asD (mVar 2)))) (mC .none) (mVar 2))))
def f_is_within_kinds : Fn := mDef [true, true, true] 3 (sRet (mAnd (mCall f_is_integer [.vl (mVar 0)]) (mChn gLe gLe (asD (mVar 1)) (asD (mVar 0)) (asD (mVar 2)))))
def f_key_count : Fn := mDef [true] 2 (sRet (mCall f_product_of [.vl (mLc (mIt (mVar 0)) (bName 1) mYes (asD (mLenV 1)) [1])]))
def f_key_list : Fn := mDef [true] 1 (sRet (mCall f_product_rows [.vl (mA gList (mCons (asD (mVar 0)) mNil))]))
def f__law_pick : Fn := mDef [true, true] 2 (sRet (mIdxV 1 (asD (mCall f__law_take [.rf 0, .vl (mLenV 1)]))))
def f__law_mixed : Fn := mDef [true, true] 5 (sSeq (sPar2 2 3 (mA gList (mCons (asD (mVar 1)) mNil)) (mLst mNil))
  (sSeq (sFor (mRg1 (mCons (asD (mLenV 1)) mNil)) (bName 4) (sExp (mAppend 3 (asD (mPopAt 2 (asD (mCall f__law_take [.rf 0, .vl (mLenV 2)])))))))
  (sRetV 3)))
def f__law_make : Fn := mDef [true] 1 (sRet (mTup (mCons (asD (m2 gAdd (asD (mC (.int 1))) (asD (mCall f__law_take [.rf 0, .vl (mC (.int 5))])))) (mCons (asD (m2 gAdd (asD (mC (.int 2))) (asD (mCall f__law_take [.rf 0, .vl (mC (.int 4))])))) mNil))))
def f__law_cuts : Fn := mDef [true, true] 4 (sSeq (sSet 2 (mLc (mRg1 (mCons (asD (mVar 1)) mNil)) (bName 3) (asT (m2 gEqS (asD (mCall f__law_take [.rf 0, .vl (mC (.int 2))])) (asD (mC (.int 0))))) (asD (mVar 3)) [3]))
  (sRet (mIf (asT (m2 gNeS (asD (mVar 2)) (asD (mLst mNil)))) (mA gTuple (mCons (asD (mVar 2)) mNil)) (mTup (mCons (asD (mCall f__law_take [.rf 0, .vl (mVar 1)])) mNil)))))
def f_are_within : Fn := mDef [true, true, true, true] 5 (sRet (mAnd (mCall f_is_row [.vl (mVar 0), .vl (mVar 1), .vl (mVar 1)]) (mA gAll (mCons (asD (mLc (mIt (mVar 0)) (bName 4) mYes (asD (mCall f_is_within_kinds [.vl (mVar 4), .vl (mVar 2), .vl (mVar 3)])) [4])) mNil))))
def f_is_make : Fn := mDef [true] 1 (sRet (mAnd (mCall f_is_row [.vl (mVar 0), .vl (mC (.int 2)), .vl (mC (.int 2))]) (mAnd (mCall f_is_within_kinds [.vl (mIdxV 0 (asD (mC (.int 0)))), .vl (mC (.int 1)), .vl (mC (.int 5))]) (mCall f_is_within_kinds [.vl (mIdxV 0 (asD (mC (.int 1)))), .vl (mC (.int 2)), .vl (mC (.int 5))]))))
def f_are_cuts : Fn := mDef [true, true] 3 (sRet (mAnd (mCall f_is_row [.vl (mVar 1), .vl (mC (.int 1)), .vl (mIdxV 0 (asD (mC (.int 1))))]) (mAnd (mA gAll (mCons (asD (mLc (mIt (mVar 1)) (bName 2) mYes (asD (mCall f_is_within_kinds [.vl (mVar 2), .vl (mC (.int 0)), .vl (m2 gSub (asD (mIdxV 0 (asD (mC (.int 1))))) (asD (mC (.int 1))))])) [2])) mNil)) (mCall f_is_ascending [.vl (mVar 1)]))))
def f__law_lock : Fn := mDef [true, true] 3 (sRet (mA gTuple (mCons (asD (mLc (mRg1 (mCons (asD (mIdxV 1 (asD (mC (.int 0))))) mNil)) (bName 2) mYes (asD (mCall f__law_cuts [.rf 0, .vl (mIdxV 1 (asD (mC (.int 1))))])) [2])) mNil)))
def f__law_turn : Fn := mDef [true, true] 4 (sSeq (sSet 2 (mCall f__law_mixed [.rf 0, .vl (mLRg1 (asD (mIdxV 1 (asD (mC (.int 0))))))]))
  (sRet (mTup (mCons (asD (mVar 2)) (mCons (asD (mLc (mIt (mVar 2)) (bName 3) mYes (asD (mCall f__law_mixed [.rf 0, .vl (mLRg1 (asD (mIdxV 1 (asD (mC (.int 1))))))])) [3])) mNil)))))
def f_need_make : Fn := mDef [true] 1 (sIf (tNotM (asT (mCall f_is_make [.vl (mVar 0)]))) (sRaise "BadMake") sNil)
def f_is_key_form : Fn := mDef [true, true] 2 (sRet (mCall f_are_within [.vl (mVar 1), .vl (mIdxV 0 (asD (mC (.int 0)))), .vl (mC (.int 0)), .vl (m2 gSub (asD (mIdxV 0 (asD (mC (.int 1))))) (asD (mC (.int 1))))]))
def f_is_lock_form : Fn := mDef [true, true] 3 (sRet (mAnd (mCall f_is_row [.vl (mVar 1), .vl (mIdxV 0 (asD (mC (.int 0)))), .vl (mIdxV 0 (asD (mC (.int 0))))]) (mA gAll (mCons (asD (mLc (mIt (mVar 1)) (bName 2) mYes (asD (mCall f_are_cuts [.vl (mVar 0), .vl (mVar 2)])) [2])) mNil))))
def f_need_key : Fn := mDef [true, true] 2 (sIf (tNotM (asT (mCall f_is_key_form [.vl (mVar 0), .vl (mVar 1)]))) (sRaise "BadKey") sNil)
def f_need_lock : Fn := mDef [true, true] 2 (sSeq (sExp (mCall f_need_make [.vl (mVar 0)]))
  (sIf (tNotM (asT (mCall f_is_lock_form [.vl (mVar 0), .vl (mVar 1)]))) (sRaise "BadLock") sNil))
def f_opens : Fn := mDef [true, true, true] 3 (sSeq (sExp (mCall f_need_lock [.vl (mVar 0), .vl (mVar 1)]))
  (sSeq (sExp (mCall f_need_key [.vl (mVar 0), .vl (mVar 2)]))
  (sRet (mCall f_does_open [.vl (mVar 1), .vl (mVar 2)]))))
def f_count_keys : Fn := mDef [true, true] 2 (sSeq (sExp (mCall f_need_lock [.vl (mVar 0), .vl (mVar 1)]))
  (sRet (mCall f_key_count [.vl (mVar 1)])))
def f_keys_of : Fn := mDef [true, true] 2 (sSeq (sExp (mCall f_need_lock [.vl (mVar 0), .vl (mVar 1)]))
  (sSeq (sIf (asT (m2 gGt (asD (mCall f_key_count [.vl (mVar 1)])) (asD (mC (.int 500))))) (sRaise "TooMany") sNil)
  (sRet (mCall f_key_list [.vl (mVar 1)]))))
def f_both_locks : Fn := mDef [true, true, true] 7 (sSeq (sExp (mCall f_need_lock [.vl (mVar 0), .vl (mVar 1)]))
  (sSeq (sExp (mCall f_need_lock [.vl (mVar 0), .vl (mVar 2)]))
  (sSeq (sSet 3 (mA gTuple (mCons (asD (mLc (mZip (mCons (asD (mVar 1)) (mCons (asD (mVar 2)) mNil))) (bTup 2 (bCons (bName 4) (bCons (bName 5) bNil))) mYes (asD (mA gTuple (mCons (asD (mLc (mIt (mVar 4)) (bName 6) (asT (m2 gIn (asD (mVar 6)) (asD (mVar 5)))) (asD (mVar 6)) [6])) mNil))) [4, 5])) mNil)))
  (sRet (mIf (asT (m2 gIn (asD (mTup mNil)) (asD (mVar 3)))) (mC .none) (mVar 3))))))
def f_is_within : Fn := mDef [true, true, true] 6 (sSeq (sExp (mCall f_need_lock [.vl (mVar 0), .vl (mVar 1)]))
  (sSeq (sExp (mCall f_need_lock [.vl (mVar 0), .vl (mVar 2)]))
  (sRet (mA gAll (mCons (asD (mLc2 (mZip (mCons (asD (mVar 1)) (mCons (asD (mVar 2)) mNil))) (bTup 2 (bCons (bName 3) (bCons (bName 4) bNil))) mYes (mIt (mVar 3)) (bName 5) mYes (asD (m2 gIn (asD (mVar 5)) (asD (mVar 4)))) [3, 4, 5] [5])) mNil)))))
def f__law_refused : Fn := mDef [true, true, true, true] 7 (sSeq (sSet 4 (mC .none))
  (sSeq (sTry (fun c => hit_KeyedError.lookup c) 6 4 (sSet 5 (mIf (asT (m2 gEqS (asD (mVar 0)) (asD (mC (.int 0))))) (mCall f_both_locks [.vl (mVar 1), .vl (mVar 2), .vl (mVar 3)]) (mCall f_is_within [.vl (mVar 1), .vl (mVar 2), .vl (mVar 3)]))))
  (sRet (mAnd (mIsi tabC ex_BadLock (mVar 4)) (mNot (asT (mIsi tabC ex_BadMake (mVar 4))))))))
def f__law_two_right : Fn := mDef [true, true, true, true] 15 (sSeq (sSet 4 (mCall f__law_both [.vl (mVar 2), .vl (mVar 3)]))
  (sSeq (sSet 5 (mLst (mCons (asD (m2 gEqS (asD (mVar 4)) (asD (mVar 2)))) (mCons (asD (m2 gEqS (asD (mVar 4)) (asD (mVar 3)))) mNil))))
  (sSeq (sIf (tNotM (asT (mCall f__law_same [.vl (mLst (mCons (asD (mCall f_both_locks [.vl (mVar 1), .vl (mVar 2), .vl (mVar 3)])) (mCons (asD (mCall f_both_locks [.vl (mVar 1), .vl (mVar 3), .vl (mVar 2)])) (mCons (asD (mCallK f_both_locks [.vl (mVar 3), .vl (mVar 2), .vl (mVar 1)] [2, 1, 0])) mNil)))), .vl (m2 gMulX (asD (mLst (mCons (asD (mVar 4)) mNil))) (asD (mC (.int 3))))]))) (sRet (mC (.bool false))) sNil)
  (sSeq (sIf (tNotM (asT (mCall f__law_same [.vl (mLst (mCons (asD (mCall f_is_within [.vl (mVar 1), .vl (mVar 2), .vl (mVar 3)])) (mCons (asD (mCall f_is_within [.vl (mVar 1), .vl (mVar 3), .vl (mVar 2)])) (mCons (asD (mCall f_is_within [.vl (mVar 1), .vl (mVar 2), .vl (mVar 2)])) mNil)))), .vl (m2 gAdd (asD (mVar 5)) (asD (mLst (mCons (asD (mC (.bool true))) mNil))))]))) (sRet (mC (.bool false))) sNil)
  (sSeq (sSet 6 (mCall f__law_turn [.rf 0, .vl (mVar 1)]))
  (sSeq (sPar2 7 8 (mCall f__law_as_lock [.vl (mVar 6), .vl (mVar 2)]) (mCall f__law_as_lock [.vl (mVar 6), .vl (mVar 3)]))
  (sSeq (sIf (tNotM (asT (mCall f__law_same [.vl (mLst (mCons (asD (mCall f_both_locks [.vl (mVar 1), .vl (mVar 7), .vl (mVar 8)])) (mCons (asD (mCall f_is_within [.vl (mVar 1), .vl (mVar 7), .vl (mVar 8)])) mNil))), .vl (mLst (mCons (asD (mIf (asT (m2 gIs (asD (mVar 4)) (asD (mC .none)))) (mC .none) (mCall f__law_as_lock [.vl (mVar 6), .vl (mVar 4)]))) (mCons (asD (mIdxV 5 (asD (mC (.int 0))))) mNil)))]))) (sRet (mC (.bool false))) sNil)
  (sSeq (sIf (tAndM (asT (m2 gIsNot (asD (mVar 4)) (asD (mC .none)))) (tNotM (asT (mCall f__law_same [.vl (mLst (mCons (asD (mCall f_is_within [.vl (mVar 1), .vl (mVar 4), .vl (mVar 2)])) (mCons (asD (mCall f_is_within [.vl (mVar 1), .vl (mVar 4), .vl (mVar 3)])) mNil))), .vl (mLst (mCons (asD (mC (.bool true))) (mCons (asD (mC (.bool true))) mNil)))])))) (sRet (mC (.bool false))) sNil)
  (sSeq (sFor (mRg1 (mCons (asD (mC (.int 4))) mNil)) (bName 9) (sSeq (sSet 10 (mA gTuple (mCons (asD (mLc (mIt (mCall f__law_pick [.rf 0, .vl (mLst (mCons (asD (mVar 2)) (mCons (asD (mVar 3)) mNil)))])) (bName 14) mYes (asD (mCall f__law_pick [.rf 0, .vl (mVar 14)])) [14])) mNil)))
   (sSeq (sSet 11 (mAnd (m2 gIsNot (asD (mVar 4)) (asD (mC .none))) (mCall f_opens [.vl (mVar 1), .vl (mVar 4), .vl (mVar 10)])))
   (sIf (tOrM (asT (m2 gNeS (asD (mAnd (mCall f_opens [.vl (mVar 1), .vl (mVar 2), .vl (mVar 10)]) (mCall f_opens [.vl (mVar 1), .vl (mVar 3), .vl (mVar 10)]))) (asD (mVar 11)))) (tAndM (asT (mIdxV 5 (asD (mC (.int 0))))) (tAndM (asT (mCall f_opens [.vl (mVar 1), .vl (mVar 2), .vl (mVar 10)])) (tNotM (asT (mCall f_opens [.vl (mVar 1), .vl (mVar 3), .vl (mVar 10)])))))) (sRet (mC (.bool false))) sNil))))
  (sSeq (sIf (asT (m2 gLt (asD (mCall f_count_keys [.vl (mVar 1), .vl (mVar 2)])) (asD (mC (.int 200))))) (sSeq (sSet 12 (mLc (mIt (mCall f_keys_of [.vl (mVar 1), .vl (mVar 2)])) (bName 10) (tNotM (asT (mCall f__law_opens [.vl (mVar 3), .vl (mVar 10)]))) (asD (mVar 10)) [10]))
   (sIf (asT (m2 gNeS (asD (mLenV 12)) (asD (m2 gSub (asD (mCall f_count_keys [.vl (mVar 1), .vl (mVar 2)])) (asD (mIf (asT (m2 gIs (asD (mVar 4)) (asD (mC .none)))) (mC (.int 0)) (mCall f_count_keys [.vl (mVar 1), .vl (mVar 4)]))))))) (sRet (mC (.bool false))) sNil)) sNil)
  (sSeq (sFor (mIt (mLst (mCons (asD (mC .none)) (mCons (asD (mA gList (mCons (asD (mVar 2)) mNil))) (mCons (asD (mSl (asD (mVar 2)) (mO none) (mO (some (asD (m1 gNeg (asD (mC (.int 1))))))))) (mCons (asD (m2 gAdd (asD (mVar 2)) (asD (mTup (mCons (asD (mTup (mCons (asD (mC (.int 0))) mNil))) mNil))))) (mCons (asD (mCall f__law_put [.vl (mVar 2), .vl (mC (.int 0)), .vl (mTup mNil)])) (mCons (asD (mCall f__law_put [.vl (mVar 2), .vl (mC (.int 0)), .vl (mTup (mCons (asD (mIdxV 1 (asD (mC (.int 1))))) mNil))])) (mCons (asD (mCall f__law_put [.vl (mVar 2), .vl (mC (.int 0)), .vl (mTup (mCons (asD (mC (.int 0))) (mCons (asD (mC (.int 0))) mNil)))])) (mCons (asD (mCall f__law_put [.vl (mVar 2), .vl (mC (.int 0)), .vl (mLst (mCons (asD (mC (.int 0))) mNil))])) mNil)))))))))) (bName 13) (sIf (tOrM (tNotM (asT (mCall f__law_refused [.vl (mCall f__law_take [.rf 0, .vl (mC (.int 2))]), .vl (mVar 1), .vl (mVar 13), .vl (mVar 3)]))) (tNotM (asT (mCall f__law_refused [.vl (mCall f__law_take [.rf 0, .vl (mC (.int 2))]), .vl (mVar 1), .vl (mVar 2), .vl (mVar 13)])))) (sRet (mC (.bool false))) sNil))
  (sRet (mC (.bool true))))))))))))))
def f_law : Fn := mDef [true] 15 (sSeq (sFor (mRg1 (mCons (asD (mA gMax2 (mCons (asD (mC (.int 1))) (mCons (asD (mA gMin2 (mCons (asD (mC (.int 3))) (mCons (asD (mLenV 0)) mNil)))) mNil)))) mNil)) (bName 1) (sSeq (sSet 2 (mCall f__law_source [.vl (mVar 0), .vl (mVar 1)]))
   (sFor (mRg1 (mCons (asD (mC (.int 3))) mNil)) (bName 3) (sSeq (sSet 4 (mCall f__law_make [.rf 2]))
    (sSeq (sPar3 5 6 7 (mCall f__law_lock [.rf 2, .vl (mVar 4)]) (mCall f__law_lock [.rf 2, .vl (mVar 4)]) (mCall f__law_lock [.rf 2, .vl (mVar 4)]))
    (sSeq (sIf (asT (m2 gEqS (asD (mCall f__law_take [.rf 2, .vl (mC (.int 2))])) (asD (mC (.int 0))))) (sSet 6 (mA gTuple (mCons (asD (mLc (mZip (mCons (asD (mVar 5)) (mCons (asD (mVar 6)) mNil))) (bTup 2 (bCons (bName 13) (bCons (bName 14) bNil))) mYes (asD (mA gTuple (mCons (asD (m1 gSortSet (asD (m2 gAdd (asD (mVar 13)) (asD (mVar 14)))))) mNil))) [13, 14])) mNil))) sNil)
    (sSeq (sIf (asT (m2 gEqS (asD (mCall f__law_take [.rf 2, .vl (mC (.int 3))])) (asD (mC (.int 0))))) (sSet 7 (m2 gMulX (asD (mTup (mCons (asD (mTRg1 (asD (mIdxV 4 (asD (mC (.int 1))))))) mNil))) (asD (mIdxV 4 (asD (mC (.int 0))))))) sNil)
    (sSeq (sSet 8 (mA gRepr (mCons (asD (mTup (mCons (asD (mVar 5)) (mCons (asD (mVar 6)) (mCons (asD (mVar 7)) mNil))))) mNil)))
    (sSeq (sFor (mIt (mLst (mCons (asD (mTup (mCons (asD (mVar 5)) (mCons (asD (mVar 6)) mNil)))) (mCons (asD (mTup (mCons (asD (mVar 6)) (mCons (asD (mVar 7)) mNil)))) (mCons (asD (mTup (mCons (asD (mVar 7)) (mCons (asD (mVar 5)) mNil)))) mNil))))) (bTup 2 (bCons (bName 9) (bCons (bName 10) bNil))) (sIf (tNotM (asT (mCall f__law_two_right [.rf 2, .vl (mVar 4), .vl (mVar 9), .vl (mVar 10)]))) (sRet (mC (.bool false))) sNil))
    (sSeq (sPar2 11 12 (mCall f_both_locks [.vl (mVar 4), .vl (mVar 5), .vl (mVar 6)]) (mCall f_both_locks [.vl (mVar 4), .vl (mVar 6), .vl (mVar 7)]))
    (sSeq (sSet 11 (mIf (asT (m2 gIs (asD (mVar 11)) (asD (mC .none)))) (mC .none) (mCall f_both_locks [.vl (mVar 4), .vl (mVar 11), .vl (mVar 7)])))
    (sSeq (sSet 12 (mIf (asT (m2 gIs (asD (mVar 12)) (asD (mC .none)))) (mC .none) (mCall f_both_locks [.vl (mVar 4), .vl (mVar 5), .vl (mVar 12)])))
    (sSeq (sIf (tOrM (tNotM (asT (mCall f__law_same [.vl (mVar 11), .vl (mVar 12)]))) (tAndM (asT (mCall f_is_within [.vl (mVar 4), .vl (mVar 5), .vl (mVar 6)])) (tAndM (asT (mCall f_is_within [.vl (mVar 4), .vl (mVar 6), .vl (mVar 7)])) (tNotM (asT (mCall f_is_within [.vl (mVar 4), .vl (mVar 5), .vl (mVar 7)])))))) (sRet (mC (.bool false))) sNil)
    (sIf (asT (m2 gNeS (asD (mA gRepr (mCons (asD (mTup (mCons (asD (mVar 5)) (mCons (asD (mVar 6)) (mCons (asD (mVar 7)) mNil))))) mNil))) (asD (mVar 8)))) (sRet (mC (.bool false))) sNil))))))))))))))
  (sRet (mC (.bool true))))
end K02
/-! # K02W -/
set_option Elab.async false
set_option linter.all false
set_option maxRecDepth 100000
set_option maxHeartbeats 0
namespace K02
open PySem PySem.Spec PyProof PyProof.Rows L2 ML
/-! ## the walk -/
def top (i : Nat) : Stmt := PySem.Challenge.pw_keyedapart_k02_whole_locks_put_together.main.body.getD i (.Pass ⟨0, 0, 0, 0⟩)
structure Fx (G : Glob) : Prop where
  fr_all : FreeG G "all"
  fr_bool : FreeG G "bool"
  fr_int : FreeG G "int"
  fr_isinstance : FreeG G "isinstance"
  fr_len : FreeG G "len"
  fr_list : FreeG G "list"
  fr_max : FreeG G "max"
  fr_min : FreeG G "min"
  fr_range : FreeG G "range"
  fr_repr : FreeG G "repr"
  fr_set : FreeG G "set"
  fr_sorted : FreeG G "sorted"
  fr_tuple : FreeG G "tuple"
  fr_zip : FreeG G "zip"
  i_MOST_CHAMBERS : IntG G "MOST_CHAMBERS" 5
  i_MOST_DEPTHS : IntG G "MOST_DEPTHS" 5
  i_MOST_KEYS : IntG G "MOST_KEYS" 500
  x_KeyedError : ExcG G "KeyedError"
  x_BadMake : ExcG G "BadMake"
  x_BadKey : ExcG G "BadKey"
  x_BadLock : ExcG G "BadLock"
  x_TooMany : ExcG G "TooMany"
  q_BadLock : isiCB G.K "BadLock" tabC ex_BadLock = true
  q_BadMake : isiCB G.K "BadMake" tabC ex_BadMake = true
  h_KeyedError : hitB G.K "KeyedError" hit_KeyedError = true
  d_is_integer : ∃ fd, FunD G.K "is_integer" "is_integer" (defArgs (top 7)) (defBody (top 7)) (defScope (top 7)) [] [] (He.ga G.K "is_integer") fd ∧ G.mg "is_integer" = some (.ref (He.ga G.K "is_integer"))
  d_is_row : ∃ fd, FunD G.K "is_row" "is_row" (defArgs (top 10)) (defBody (top 10)) (defScope (top 10)) [] [] (He.ga G.K "is_row") fd ∧ G.mg "is_row" = some (.ref (He.ga G.K "is_row"))
  d_is_ascending : ∃ fd, FunD G.K "is_ascending" "is_ascending" (defArgs (top 12)) (defBody (top 12)) (defScope (top 12)) [] [] (He.ga G.K "is_ascending") fd ∧ G.mg "is_ascending" = some (.ref (He.ga G.K "is_ascending"))
  d_product_rows : ∃ fd, FunD G.K "product_rows" "product_rows" (defArgs (top 13)) (defBody (top 13)) (defScope (top 13)) [] [] (He.ga G.K "product_rows") fd ∧ G.mg "product_rows" = some (.ref (He.ga G.K "product_rows"))
  d_product_of : ∃ fd, FunD G.K "product_of" "product_of" (defArgs (top 14)) (defBody (top 14)) (defScope (top 14)) [] [] (He.ga G.K "product_of") fd ∧ G.mg "product_of" = some (.ref (He.ga G.K "product_of"))
  d_does_open : ∃ fd, FunD G.K "does_open" "does_open" (defArgs (top 26)) (defBody (top 26)) (defScope (top 26)) [] [] (He.ga G.K "does_open") fd ∧ G.mg "does_open" = some (.ref (He.ga G.K "does_open"))
  d__law_source : ∃ fd, FunD G.K "_law_source" "_law_source" (defArgs (top 38)) (defBody (top 38)) (defScope (top 38)) [] [] (He.ga G.K "_law_source") fd ∧ G.mg "_law_source" = some (.ref (He.ga G.K "_law_source"))
  d__law_take : ∃ fd, FunD G.K "_law_take" "_law_take" (defArgs (top 39)) (defBody (top 39)) (defScope (top 39)) [] [] (He.ga G.K "_law_take") fd ∧ G.mg "_law_take" = some (.ref (He.ga G.K "_law_take"))
  d__law_same : ∃ fd, FunD G.K "_law_same" "_law_same" (defArgs (top 42)) (defBody (top 42)) (defScope (top 42)) [] [] (He.ga G.K "_law_same") fd ∧ G.mg "_law_same" = some (.ref (He.ga G.K "_law_same"))
  d__law_put : ∃ fd, FunD G.K "_law_put" "_law_put" (defArgs (top 43)) (defBody (top 43)) (defScope (top 43)) [] [] (He.ga G.K "_law_put") fd ∧ G.mg "_law_put" = some (.ref (He.ga G.K "_law_put"))
  d__law_opens : ∃ fd, FunD G.K "_law_opens" "_law_opens" (defArgs (top 47)) (defBody (top 47)) (defScope (top 47)) [] [] (He.ga G.K "_law_opens") fd ∧ G.mg "_law_opens" = some (.ref (He.ga G.K "_law_opens"))
  d__law_as_lock : ∃ fd, FunD G.K "_law_as_lock" "_law_as_lock" (defArgs (top 49)) (defBody (top 49)) (defScope (top 49)) [] [] (He.ga G.K "_law_as_lock") fd ∧ G.mg "_law_as_lock" = some (.ref (He.ga G.K "_law_as_lock"))
  d__law_both : ∃ fd, FunD G.K "_law_both" "_law_both" (defArgs (top 51)) (defBody (top 51)) (defScope (top 51)) [] [] (He.ga G.K "_law_both") fd ∧ G.mg "_law_both" = some (.ref (He.ga G.K "_law_both"))
  d_is_within_kinds : ∃ fd, FunD G.K "is_within" "is_within" (defArgs (top 8)) (defBody (top 8)) (defScope (top 8)) [] [] (He.ga G.K "is_within_kinds") fd ∧ G.mg "is_within_kinds" = some (.ref (He.ga G.K "is_within_kinds"))
  d_key_count : ∃ fd, FunD G.K "key_count" "key_count" (defArgs (top 27)) (defBody (top 27)) (defScope (top 27)) [] [] (He.ga G.K "key_count") fd ∧ G.mg "key_count" = some (.ref (He.ga G.K "key_count"))
  d_key_list : ∃ fd, FunD G.K "key_list" "key_list" (defArgs (top 28)) (defBody (top 28)) (defScope (top 28)) [] [] (He.ga G.K "key_list") fd ∧ G.mg "key_list" = some (.ref (He.ga G.K "key_list"))
  d__law_pick : ∃ fd, FunD G.K "_law_pick" "_law_pick" (defArgs (top 40)) (defBody (top 40)) (defScope (top 40)) [] [] (He.ga G.K "_law_pick") fd ∧ G.mg "_law_pick" = some (.ref (He.ga G.K "_law_pick"))
  d__law_mixed : ∃ fd, FunD G.K "_law_mixed" "_law_mixed" (defArgs (top 41)) (defBody (top 41)) (defScope (top 41)) [] [] (He.ga G.K "_law_mixed") fd ∧ G.mg "_law_mixed" = some (.ref (He.ga G.K "_law_mixed"))
  d__law_make : ∃ fd, FunD G.K "_law_make" "_law_make" (defArgs (top 44)) (defBody (top 44)) (defScope (top 44)) [] [] (He.ga G.K "_law_make") fd ∧ G.mg "_law_make" = some (.ref (He.ga G.K "_law_make"))
  d__law_cuts : ∃ fd, FunD G.K "_law_cuts" "_law_cuts" (defArgs (top 45)) (defBody (top 45)) (defScope (top 45)) [] [] (He.ga G.K "_law_cuts") fd ∧ G.mg "_law_cuts" = some (.ref (He.ga G.K "_law_cuts"))
  d_are_within : ∃ fd, FunD G.K "are_within" "are_within" (defArgs (top 11)) (defBody (top 11)) (defScope (top 11)) [] [] (He.ga G.K "are_within") fd ∧ G.mg "are_within" = some (.ref (He.ga G.K "are_within"))
  d_is_make : ∃ fd, FunD G.K "is_make" "is_make" (defArgs (top 18)) (defBody (top 18)) (defScope (top 18)) [] [] (He.ga G.K "is_make") fd ∧ G.mg "is_make" = some (.ref (He.ga G.K "is_make"))
  d_are_cuts : ∃ fd, FunD G.K "are_cuts" "are_cuts" (defArgs (top 21)) (defBody (top 21)) (defScope (top 21)) [] [] (He.ga G.K "are_cuts") fd ∧ G.mg "are_cuts" = some (.ref (He.ga G.K "are_cuts"))
  d__law_lock : ∃ fd, FunD G.K "_law_lock" "_law_lock" (defArgs (top 46)) (defBody (top 46)) (defScope (top 46)) [] [] (He.ga G.K "_law_lock") fd ∧ G.mg "_law_lock" = some (.ref (He.ga G.K "_law_lock"))
  d__law_turn : ∃ fd, FunD G.K "_law_turn" "_law_turn" (defArgs (top 48)) (defBody (top 48)) (defScope (top 48)) [] [] (He.ga G.K "_law_turn") fd ∧ G.mg "_law_turn" = some (.ref (He.ga G.K "_law_turn"))
  d_need_make : ∃ fd, FunD G.K "need_make" "need_make" (defArgs (top 19)) (defBody (top 19)) (defScope (top 19)) [] [] (He.ga G.K "need_make") fd ∧ G.mg "need_make" = some (.ref (He.ga G.K "need_make"))
  d_is_key_form : ∃ fd, FunD G.K "is_key_form" "is_key_form" (defArgs (top 20)) (defBody (top 20)) (defScope (top 20)) [] [] (He.ga G.K "is_key_form") fd ∧ G.mg "is_key_form" = some (.ref (He.ga G.K "is_key_form"))
  d_is_lock_form : ∃ fd, FunD G.K "is_lock_form" "is_lock_form" (defArgs (top 22)) (defBody (top 22)) (defScope (top 22)) [] [] (He.ga G.K "is_lock_form") fd ∧ G.mg "is_lock_form" = some (.ref (He.ga G.K "is_lock_form"))
  d_need_key : ∃ fd, FunD G.K "need_key" "need_key" (defArgs (top 23)) (defBody (top 23)) (defScope (top 23)) [] [] (He.ga G.K "need_key") fd ∧ G.mg "need_key" = some (.ref (He.ga G.K "need_key"))
  d_need_lock : ∃ fd, FunD G.K "need_lock" "need_lock" (defArgs (top 24)) (defBody (top 24)) (defScope (top 24)) [] [] (He.ga G.K "need_lock") fd ∧ G.mg "need_lock" = some (.ref (He.ga G.K "need_lock"))
  d_opens : ∃ fd, FunD G.K "opens" "opens" (defArgs (top 31)) (defBody (top 31)) (defScope (top 31)) [] [] (He.ga G.K "opens") fd ∧ G.mg "opens" = some (.ref (He.ga G.K "opens"))
  d_count_keys : ∃ fd, FunD G.K "count_keys" "count_keys" (defArgs (top 32)) (defBody (top 32)) (defScope (top 32)) [] [] (He.ga G.K "count_keys") fd ∧ G.mg "count_keys" = some (.ref (He.ga G.K "count_keys"))
  d_keys_of : ∃ fd, FunD G.K "keys_of" "keys_of" (defArgs (top 33)) (defBody (top 33)) (defScope (top 33)) [] [] (He.ga G.K "keys_of") fd ∧ G.mg "keys_of" = some (.ref (He.ga G.K "keys_of"))
  d_both_locks : ∃ fd, FunD G.K "both_locks" "both_locks" (defArgs (top 34)) (defBody (top 34)) (defScope (top 34)) [] [] (He.ga G.K "both_locks") fd ∧ G.mg "both_locks" = some (.ref (He.ga G.K "both_locks"))
  d_is_within_locks : ∃ fd, FunD G.K "is_within" "is_within" (defArgs (top 35)) (defBody (top 35)) (defScope (top 35)) [] [] (He.ga G.K "is_within_locks") fd ∧ G.mg "is_within_locks" = some (.ref (He.ga G.K "is_within_locks"))
  d__law_refused : ∃ fd, FunD G.K "_law_refused" "_law_refused" (defArgs (top 50)) (defBody (top 50)) (defScope (top 50)) [] [] (He.ga G.K "_law_refused") fd ∧ G.mg "_law_refused" = some (.ref (He.ga G.K "_law_refused"))
  d__law_two_right : ∃ fd, FunD G.K "_law_two_right" "_law_two_right" (defArgs (top 52)) (defBody (top 52)) (defScope (top 52)) [] [] (He.ga G.K "_law_two_right") fd ∧ G.mg "_law_two_right" = some (.ref (He.ga G.K "_law_two_right"))
  d_law : ∃ fd, FunD G.K "law" "law" (defArgs (top 53)) (defBody (top 53)) (defScope (top 53)) [] [] (He.ga G.K "law") fd ∧ G.mg "law" = some (.ref (He.ga G.K "law"))
abbrev s_is_integer : Stmt := top 7
theorem sc_is_integer : FnScope ["thing"] ["thing"] (defScope s_is_integer) := ⟨rfl, rfl, rfl, by decide +kernel, rfl, by decide +kernel, by decide +kernel⟩
theorem w_is_integer {G : Glob} (fx : Fx G) (X : Cx) (W : WX) (gS : GoodS G ["thing"] (defScope s_is_integer) 0 X W) : ESs X W (protP [true]) (defBody s_is_integer) (sRet (mAnd (mIsi [("NoneType", false), ("bool", true), ("int", true), ("str", false), ("list", false), ("tuple", false), ("dict", false)] [] (mVar 0)) (mNot (asT (mIsi [("NoneType", false), ("bool", true), ("int", false), ("str", false), ("list", false), ("tuple", false), ("dict", false)] [] (mVar 0)))))) :=
 have g := gS.toGood
 (ess_one (es_ret (em_and (g_isi g fx.fr_isinstance (by kernel_rfl) fx.fr_int (by kernel_rfl) (T := "int") (tab := [("NoneType", false), ("bool", true), ("int", true), ("str", false), ("list", false), ("tuple", false), ("dict", false)]) (by decide +kernel) (g_var g (x := "thing") (i := 0) (by kernel_rfl)) (by decide +kernel)) (em_one (em_not (g_isi g fx.fr_isinstance (by kernel_rfl) fx.fr_bool (by kernel_rfl) (T := "bool") (tab := [("NoneType", false), ("bool", true), ("int", false), ("str", false), ("list", false), ("tuple", false), ("dict", false)]) (by decide +kernel) (g_var g (x := "thing") (i := 0) (by kernel_rfl)) (by decide +kernel)))))))
theorem c_is_integer {G : Glob} (fx : Fx G) : Callee G 1 "is_integer" f_is_integer := by
  obtain ⟨fd, F, hm⟩ := fx.d_is_integer
  exact ⟨_, fd, ["thing"], hm, F.kp, F.bindsN fun _ _ _ _ _ _ us hl => match us, hl with | [_], _ => rfl, fnG_of F sc_is_integer rfl (w_is_integer fx)⟩
abbrev s_is_row : Stmt := top 10
theorem sc_is_row : FnScope ["thing", "least", "most"] ["thing", "least", "most"] (defScope s_is_row) := ⟨rfl, rfl, rfl, by decide +kernel, rfl, by decide +kernel, by decide +kernel⟩
theorem w_is_row {G : Glob} (fx : Fx G) (X : Cx) (W : WX) (gS : GoodS G ["thing", "least", "most"] (defScope s_is_row) 0 X W) : ESs X W (protP [true, true, true]) (defBody s_is_row) (sRet (mAnd (mIsi [("NoneType", false), ("bool", false), ("int", false), ("str", false), ("list", false), ("tuple", true), ("dict", false)] [] (mVar 0)) (mChn gLe gLe (asD (mVar 1)) (asD (mLenV 0)) (asD (mVar 2))))) :=
 have g := gS.toGood
 (ess_one (es_ret (em_and (g_isi g fx.fr_isinstance (by kernel_rfl) fx.fr_tuple (by kernel_rfl) (T := "tuple") (tab := [("NoneType", false), ("bool", false), ("int", false), ("str", false), ("list", false), ("tuple", true), ("dict", false)]) (by decide +kernel) (g_var g (x := "thing") (i := 0) (by kernel_rfl)) (by decide +kernel)) (em_one (e_chn (o_le g) (o_le g) (EM.d (g_var g (x := "least") (i := 1) (by kernel_rfl))) (EM.d (g_lenV g fx.fr_len (by kernel_rfl) (i := 0) (by kernel_rfl))) (EM.d (g_var g (x := "most") (i := 2) (by kernel_rfl))))))))
theorem c_is_row {G : Glob} (fx : Fx G) : Callee G 1 "is_row" f_is_row := by
  obtain ⟨fd, F, hm⟩ := fx.d_is_row
  exact ⟨_, fd, ["thing", "least", "most"], hm, F.kp, F.bindsN fun _ _ _ _ _ _ us hl => match us, hl with | [_, _, _], _ => rfl, fnG_of F sc_is_row rfl (w_is_row fx)⟩
abbrev s_is_ascending : Stmt := top 12
theorem sc_is_ascending : FnScope ["things", "one", "other"] ["things"] (defScope s_is_ascending) := ⟨rfl, rfl, rfl, by decide +kernel, rfl, by decide +kernel, by decide +kernel⟩
theorem w_is_ascending {G : Glob} (fx : Fx G) (X : Cx) (W : WX) (gS : GoodS G ["things", "one", "other"] (defScope s_is_ascending) 0 X W) : ESs X W (protP [true]) (defBody s_is_ascending) (sRet (mA gAll (mCons (asD (mLc (mZip (mCons (asD (mVar 0)) (mCons (asD (mSl (asD (mVar 0)) (mO (some (asD (mC (.int 1))))) (mO none))) mNil))) (bTup 2 (bCons (bName 1) (bCons (bName 2) bNil))) mYes (asD (m2 gLt (asD (mVar 1)) (asD (mVar 2)))) [1, 2])) mNil))) :=
 have g := gS.toGood
 (ess_one (es_ret (g_all g fx.fr_all (by kernel_rfl) (e_cons (EM.d (g_lc g (own := [("one", 1), ("other", 2)]) (by kernel_rfl) (g_zip g fx.fr_zip (by kernel_rfl) (e_cons (EM.d (g_var g (x := "things") (i := 0) (by kernel_rfl))) (e_cons (EM.d (em_slc (EM.d (g_var g (x := "things") (i := 0) (by kernel_rfl))) (eo_some (EM.d em_int)) eo_none)) ea_nil))) (fun Y g ow => ⟨(g_tt g (egs_cons (g_to g ow (i := 1) (by kernel_rfl) (by kernel_rfl) (by kernel_rfl)) (egs_cons (g_to g ow (i := 2) (by kernel_rfl) (by kernel_rfl) (by kernel_rfl)) egs_nil))), ets_nil, (EM.d (e_cmp (o_lt g) (EM.d (g_var g (x := "one") (i := 1) (by kernel_rfl))) (EM.d (g_var g (x := "other") (i := 2) (by kernel_rfl)))))⟩))) ea_nil))))
theorem c_is_ascending {G : Glob} (fx : Fx G) : Callee G 1 "is_ascending" f_is_ascending := by
  obtain ⟨fd, F, hm⟩ := fx.d_is_ascending
  exact ⟨_, fd, ["things"], hm, F.kp, F.bindsN fun _ _ _ _ _ _ us hl => match us, hl with | [_], _ => rfl, fnG_of F sc_is_ascending rfl (w_is_ascending fx)⟩
abbrev s_product_rows : Stmt := top 13
theorem sc_product_rows : FnScope ["lists", "found", "some", "row", "one"] ["lists"] (defScope s_product_rows) := ⟨rfl, rfl, rfl, by decide +kernel, rfl, by decide +kernel, by decide +kernel⟩
theorem w_product_rows {G : Glob} (fx : Fx G) (X : Cx) (W : WX) (gS : GoodS G ["lists", "found", "some", "row", "one"] (defScope s_product_rows) 0 X W) : ESs X W (protP [true]) (defBody s_product_rows) (sSeq (sSet 1 (mLst (mCons (asD (mTup mNil)) mNil)))
  (sSeq (sFor (mIt (mVar 0)) (bName 2) (sSet 1 (mLc2 (mIt (mVar 1)) (bName 3) mYes (mIt (mVar 2)) (bName 4) mYes (asD (m2 gAdd (asD (mVar 3)) (asD (mTup (mCons (asD (mVar 4)) mNil))))) [3, 4] [4])))
  (sRetV 1))) :=
 have g := gS.toGood
 (ess_cons (g_set gS (i := 1) (by kernel_rfl) (by kernel_rfl) (em_lst (e_cons (EM.d (em_tup ea_nil)) ea_nil)))
  (ess_cons (g_for gS (ei_data (g_var g (x := "lists") (i := 0) (by kernel_rfl))) (g_tn g (i := 2) (by kernel_rfl) (by kernel_rfl) (.inl (gS.fn _))) (ess_one (g_setLc2 gS.toGood (i := 1) (by kernel_rfl) (by kernel_rfl) (own := [("row", 3), ("one", 4)]) (vs1 := [4]) (by kernel_rfl) (by kernel_rfl) (ei_data (g_var g (x := "found") (i := 1) (by kernel_rfl))) (fun Y g ow => ⟨⟨(g_to g ow (i := 3) (by kernel_rfl) (by kernel_rfl) (by kernel_rfl)), ets_nil⟩, (ei_data (g_var g (x := "some") (i := 2) (by kernel_rfl))), ⟨(g_to g ow (i := 4) (by kernel_rfl) (by kernel_rfl) (by kernel_rfl)), ets_nil⟩, (EM.d (b_add (EM.d (g_var g (x := "row") (i := 3) (by kernel_rfl))) (EM.d (em_tup (e_cons (EM.d (g_var g (x := "one") (i := 4) (by kernel_rfl))) ea_nil)))))⟩) (by kernel_rfl))))
  (ess_one (g_retV g (i := 1) (by kernel_rfl)))))
theorem c_product_rows {G : Glob} (fx : Fx G) : Callee G 1 "product_rows" f_product_rows := by
  obtain ⟨fd, F, hm⟩ := fx.d_product_rows
  exact ⟨_, fd, ["lists"], hm, F.kp, F.bindsN fun _ _ _ _ _ _ us hl => match us, hl with | [_], _ => rfl, fnG_of F sc_product_rows rfl (w_product_rows fx)⟩
abbrev s_product_of : Stmt := top 14
theorem sc_product_of : FnScope ["numbers", "found", "number"] ["numbers"] (defScope s_product_of) := ⟨rfl, rfl, rfl, by decide +kernel, rfl, by decide +kernel, by decide +kernel⟩
theorem w_product_of {G : Glob} (fx : Fx G) (X : Cx) (W : WX) (gS : GoodS G ["numbers", "found", "number"] (defScope s_product_of) 0 X W) : ESs X W (protP [true]) (defBody s_product_of) (sSeq (sSet 1 (mC (.int 1)))
  (sSeq (sFor (mIt (mVar 0)) (bName 2) (sSet 1 (m2 gMulX (asD (mVar 1)) (asD (mVar 2)))))
  (sRetV 1))) :=
 have g := gS.toGood
 (ess_cons (g_set gS (i := 1) (by kernel_rfl) (by kernel_rfl) em_int)
  (ess_cons (g_for gS (ei_data (g_var g (x := "numbers") (i := 0) (by kernel_rfl))) (g_tn g (i := 2) (by kernel_rfl) (by kernel_rfl) (.inl (gS.fn _))) (ess_one (g_set gS (i := 1) (by kernel_rfl) (by kernel_rfl) (b_mul (EM.d (g_var g (x := "found") (i := 1) (by kernel_rfl))) (EM.d (g_var g (x := "number") (i := 2) (by kernel_rfl)))))))
  (ess_one (g_retV g (i := 1) (by kernel_rfl)))))
theorem c_product_of {G : Glob} (fx : Fx G) : Callee G 1 "product_of" f_product_of := by
  obtain ⟨fd, F, hm⟩ := fx.d_product_of
  exact ⟨_, fd, ["numbers"], hm, F.kp, F.bindsN fun _ _ _ _ _ _ us hl => match us, hl with | [_], _ => rfl, fnG_of F sc_product_of rfl (w_product_of fx)⟩
abbrev s_does_open : Stmt := top 26
theorem sc_does_open : FnScope ["lock", "key", "cut", "cuts"] ["lock", "key"] (defScope s_does_open) := ⟨rfl, rfl, rfl, by decide +kernel, rfl, by decide +kernel, by decide +kernel⟩
theorem w_does_open {G : Glob} (fx : Fx G) (X : Cx) (W : WX) (gS : GoodS G ["lock", "key", "cut", "cuts"] (defScope s_does_open) 0 X W) : ESs X W (protP [true, true]) (defBody s_does_open) (sRet (mA gAll (mCons (asD (mLc (mZip (mCons (asD (mVar 1)) (mCons (asD (mVar 0)) mNil))) (bTup 2 (bCons (bName 2) (bCons (bName 3) bNil))) mYes (asD (m2 gIn (asD (mVar 2)) (asD (mVar 3)))) [2, 3])) mNil))) :=
 have g := gS.toGood
 (ess_one (es_ret (g_all g fx.fr_all (by kernel_rfl) (e_cons (EM.d (g_lc g (own := [("cut", 2), ("cuts", 3)]) (by kernel_rfl) (g_zip g fx.fr_zip (by kernel_rfl) (e_cons (EM.d (g_var g (x := "key") (i := 1) (by kernel_rfl))) (e_cons (EM.d (g_var g (x := "lock") (i := 0) (by kernel_rfl))) ea_nil))) (fun Y g ow => ⟨(g_tt g (egs_cons (g_to g ow (i := 2) (by kernel_rfl) (by kernel_rfl) (by kernel_rfl)) (egs_cons (g_to g ow (i := 3) (by kernel_rfl) (by kernel_rfl) (by kernel_rfl)) egs_nil))), ets_nil, (EM.d (e_cmp (o_in g) (EM.d (g_var g (x := "cut") (i := 2) (by kernel_rfl))) (EM.d (g_var g (x := "cuts") (i := 3) (by kernel_rfl)))))⟩))) ea_nil))))
theorem c_does_open {G : Glob} (fx : Fx G) : Callee G 1 "does_open" f_does_open := by
  obtain ⟨fd, F, hm⟩ := fx.d_does_open
  exact ⟨_, fd, ["lock", "key"], hm, F.kp, F.bindsN fun _ _ _ _ _ _ us hl => match us, hl with | [_, _], _ => rfl, fnG_of F sc_does_open rfl (w_does_open fx)⟩
abbrev s__law_source : Stmt := top 38
theorem sc__law_source : FnScope ["script", "k", "cell"] ["script", "k"] (defScope s__law_source) := ⟨rfl, rfl, rfl, by decide +kernel, rfl, by decide +kernel, by decide +kernel⟩
theorem w__law_source {G : Glob} (fx : Fx G) (X : Cx) (W : WX) (gS : GoodS G ["script", "k", "cell"] (defScope s__law_source) 0 X W) : ESs X W (protP [true, true]) (defBody s__law_source) (sSeq (sSet 2 (mIf (asT (m2 gLt (asD (mVar 1)) (asD (mLenV 0)))) (mScr 0 (asD (mVar 1))) (mC (.int 0))))
  (sRet (mLst (mCons (asD (mA gMax2 (mCons (asD (mC (.int 0))) (mCons (asD (m2 gSub (asD (mVar 2)) (asD (m2 gPow (asD (mC (.int 10))) (asD (mC (.int 18))))))) mNil)))) (mCons (asD (m2 gAdd (asD (m2 gAdd (asD (m2 gMulX (asD (m2 gMod (asD (mA gInt (mCons (asD (mVar 2)) mNil))) (asD (m2 gAdd (asD (m2 gPow (asD (mC (.int 10))) (asD (mC (.int 29))))) (asD (mC (.int 319))))))) (asD (mC (.int 1013))))) (asD (m2 gMulX (asD (mC (.int 8513))) (asD (mVar 1)))))) (asD (mC (.int 91))))) (mCons (asD (mC (.int 0))) mNil)))))) :=
 have g := gS.toGood
 (ess_cons (g_set gS (i := 2) (by kernel_rfl) (by kernel_rfl) (em_ite (t_cmp (o_lt g) (EM.d (g_var g (x := "k") (i := 1) (by kernel_rfl))) (EM.d (g_lenV g fx.fr_len (by kernel_rfl) (i := 0) (by kernel_rfl)))) (g_scr g (i := 0) (by kernel_rfl) (EM.d (g_var g (x := "k") (i := 1) (by kernel_rfl)))) em_int))
  (ess_one (es_ret (em_lst (e_cons (EM.d (g_max2 g fx.fr_max (by kernel_rfl) (e_cons (EM.d em_int) (e_cons (EM.d (b_sub (EM.d (g_var g (x := "cell") (i := 2) (by kernel_rfl))) (EM.d (b_pow (EM.d em_int) (EM.d em_int))))) ea_nil)))) (e_cons (EM.d (b_add (EM.d (b_add (EM.d (b_mul (EM.d (b_mod (EM.d (g_toint g fx.fr_int (by kernel_rfl) (e_cons (EM.d (g_var g (x := "cell") (i := 2) (by kernel_rfl))) ea_nil))) (EM.d (b_add (EM.d (b_pow (EM.d em_int) (EM.d em_int))) (EM.d em_int))))) (EM.d em_int))) (EM.d (b_mul (EM.d em_int) (EM.d (g_var g (x := "k") (i := 1) (by kernel_rfl))))))) (EM.d em_int))) (e_cons (EM.d em_int) ea_nil)))))))
theorem c__law_source {G : Glob} (fx : Fx G) : Callee G 1 "_law_source" f__law_source := by
  obtain ⟨fd, F, hm⟩ := fx.d__law_source
  exact ⟨_, fd, ["script", "k"], hm, F.kp, F.bindsN fun _ _ _ _ _ _ us hl => match us, hl with | [_, _], _ => rfl, fnG_of F sc__law_source rfl (w__law_source fx)⟩
abbrev s__law_take : Stmt := top 39
theorem sc__law_take : FnScope ["source", "many", "found", "stirred"] ["source", "many"] (defScope s__law_take) := ⟨rfl, rfl, rfl, by decide +kernel, rfl, by decide +kernel, by decide +kernel⟩
theorem w__law_take {G : Glob} (fx : Fx G) (X : Cx) (W : WX) (gS : GoodS G ["source", "many", "found", "stirred"] (defScope s__law_take) 0 X W) : ESs X W (protP [true, true]) (defBody s__law_take) (sSeq (sIf (asT (m2 gGt (asD (mIdxV 0 (asD (mC (.int 0))))) (asD (mC (.int 0))))) (sSeq (sSet 2 (m2 gMod (asD (mA gInt (mCons (asD (mIdxV 0 (asD (mC (.int 0))))) mNil))) (asD (mVar 1))))
   (sSeq (sSub 0 (asD (mC (.int 0))) (asD (m2 gFdiv (asD (mIdxV 0 (asD (mC (.int 0))))) (asD (mVar 1)))))
   (sRetV 2))) sNil)
  (sSeq (sSub 0 (asD (mC (.int 2))) (asD (m2 gAdd (asD (mIdxV 0 (asD (mC (.int 2))))) (asD (mC (.int 1))))))
  (sSeq (sSet 3 (m2 gMod (asD (mA gInt (mCons (asD (m2 gPow (asD (m2 gAdd (asD (mIdxV 0 (asD (mC (.int 1))))) (asD (m2 gMulX (asD (mC (.int 31415926535897931))) (asD (mIdxV 0 (asD (mC (.int 2))))))))) (asD (mC (.int 3))))) mNil))) (asD (m2 gAdd (asD (m2 gPow (asD (mC (.int 10))) (asD (mC (.int 38))))) (asD (mC (.int 133)))))))
  (sSeq (sSet 3 (m2 gMod (asD (mA gInt (mCons (asD (m2 gAdd (asD (m2 gAdd (asD (m2 gMulX (asD (mVar 3)) (asD (mVar 3)))) (asD (m2 gMulX (asD (mC (.int 27182818284590451))) (asD (mIdxV 0 (asD (mC (.int 2))))))))) (asD (mC (.int 7))))) mNil))) (asD (m2 gAdd (asD (m2 gPow (asD (mC (.int 10))) (asD (mC (.int 41))))) (asD (mC (.int 109)))))))
  (sRet (m2 gMod (asD (mA gInt (mCons (asD (m2 gFdiv (asD (mVar 3)) (asD (m2 gPow (asD (mC (.int 10))) (asD (mC (.int 8))))))) mNil))) (asD (mVar 1)))))))) :=
 have g := gS.toGood
 (ess_cons (es_if (t_cmp (o_gt g) (EM.d (g_idxV g (i := 0) (by kernel_rfl) (EM.d em_int))) (EM.d em_int)) (ess_cons (g_set gS (i := 2) (by kernel_rfl) (by kernel_rfl) (b_mod (EM.d (g_toint g fx.fr_int (by kernel_rfl) (e_cons (EM.d (g_idxV g (i := 0) (by kernel_rfl) (EM.d em_int))) ea_nil))) (EM.d (g_var g (x := "many") (i := 1) (by kernel_rfl)))))
   (ess_cons (g_sub g (i := 0) (by kernel_rfl) (EM.d (b_fdiv (EM.d (g_idxV g (i := 0) (by kernel_rfl) (EM.d em_int))) (EM.d (g_var g (x := "many") (i := 1) (by kernel_rfl))))) (EM.d em_int))
   (ess_one (g_retV g (i := 2) (by kernel_rfl))))) ess_nil)
  (ess_cons (g_sub g (i := 0) (by kernel_rfl) (EM.d (b_add (EM.d (g_idxV g (i := 0) (by kernel_rfl) (EM.d em_int))) (EM.d em_int))) (EM.d em_int))
  (ess_cons (g_set gS (i := 3) (by kernel_rfl) (by kernel_rfl) (b_mod (EM.d (g_toint g fx.fr_int (by kernel_rfl) (e_cons (EM.d (b_pow (EM.d (b_add (EM.d (g_idxV g (i := 0) (by kernel_rfl) (EM.d em_int))) (EM.d (b_mul (EM.d em_int) (EM.d (g_idxV g (i := 0) (by kernel_rfl) (EM.d em_int))))))) (EM.d em_int))) ea_nil))) (EM.d (b_add (EM.d (b_pow (EM.d em_int) (EM.d em_int))) (EM.d em_int)))))
  (ess_cons (g_set gS (i := 3) (by kernel_rfl) (by kernel_rfl) (b_mod (EM.d (g_toint g fx.fr_int (by kernel_rfl) (e_cons (EM.d (b_add (EM.d (b_add (EM.d (b_mul (EM.d (g_var g (x := "stirred") (i := 3) (by kernel_rfl))) (EM.d (g_var g (x := "stirred") (i := 3) (by kernel_rfl))))) (EM.d (b_mul (EM.d em_int) (EM.d (g_idxV g (i := 0) (by kernel_rfl) (EM.d em_int))))))) (EM.d em_int))) ea_nil))) (EM.d (b_add (EM.d (b_pow (EM.d em_int) (EM.d em_int))) (EM.d em_int)))))
  (ess_one (es_ret (b_mod (EM.d (g_toint g fx.fr_int (by kernel_rfl) (e_cons (EM.d (b_fdiv (EM.d (g_var g (x := "stirred") (i := 3) (by kernel_rfl))) (EM.d (b_pow (EM.d em_int) (EM.d em_int))))) ea_nil))) (EM.d (g_var g (x := "many") (i := 1) (by kernel_rfl))))))))))
theorem c__law_take {G : Glob} (fx : Fx G) : Callee G 1 "_law_take" f__law_take := by
  obtain ⟨fd, F, hm⟩ := fx.d__law_take
  exact ⟨_, fd, ["source", "many"], hm, F.kp, F.bindsN fun _ _ _ _ _ _ us hl => match us, hl with | [_, _], _ => rfl, fnG_of F sc__law_take rfl (w__law_take fx)⟩
abbrev s__law_same : Stmt := top 42
theorem sc__law_same : FnScope ["told", "due"] ["told", "due"] (defScope s__law_same) := ⟨rfl, rfl, rfl, by decide +kernel, rfl, by decide +kernel, by decide +kernel⟩
theorem w__law_same {G : Glob} (fx : Fx G) (X : Cx) (W : WX) (gS : GoodS G ["told", "due"] (defScope s__law_same) 0 X W) : ESs X W (protP [true, true]) (defBody s__law_same) (sRet (mAnd (m2 gEqS (asD (mVar 0)) (asD (mVar 1))) (m2 gEqS (asD (mA gRepr (mCons (asD (mVar 0)) mNil))) (asD (mA gRepr (mCons (asD (mVar 1)) mNil)))))) :=
 have g := gS.toGood
 (ess_one (es_ret (em_and (e_cmp (o_eq g) (EM.d (g_var g (x := "told") (i := 0) (by kernel_rfl))) (EM.d (g_var g (x := "due") (i := 1) (by kernel_rfl)))) (em_one (e_cmp (o_eq g) (EM.d (g_repr g fx.fr_repr (by kernel_rfl) (e_cons (EM.d (g_var g (x := "told") (i := 0) (by kernel_rfl))) ea_nil))) (EM.d (g_repr g fx.fr_repr (by kernel_rfl) (e_cons (EM.d (g_var g (x := "due") (i := 1) (by kernel_rfl))) ea_nil))))))))
theorem c__law_same {G : Glob} (fx : Fx G) : Callee G 1 "_law_same" f__law_same := by
  obtain ⟨fd, F, hm⟩ := fx.d__law_same
  exact ⟨_, fd, ["told", "due"], hm, F.kp, F.bindsN fun _ _ _ _ _ _ us hl => match us, hl with | [_, _], _ => rfl, fnG_of F sc__law_same rfl (w__law_same fx)⟩
abbrev s__law_put : Stmt := top 43
theorem sc__law_put : FnScope ["row", "at", "one"] ["row", "at", "one"] (defScope s__law_put) := ⟨rfl, rfl, rfl, by decide +kernel, rfl, by decide +kernel, by decide +kernel⟩
theorem w__law_put {G : Glob} (fx : Fx G) (X : Cx) (W : WX) (gS : GoodS G ["row", "at", "one"] (defScope s__law_put) 0 X W) : ESs X W (protP [true, true, true]) (defBody s__law_put) (sRet (m2 gAdd (asD (m2 gAdd (asD (mSl (asD (mVar 0)) (mO none) (mO (some (asD (mVar 1)))))) (asD (mTup (mCons (asD (mVar 2)) mNil))))) (asD (mSl (asD (mVar 0)) (mO (some (asD (m2 gAdd (asD (mVar 1)) (asD (mC (.int 1))))))) (mO none))))) :=
 have g := gS.toGood
 (ess_one (es_ret (b_add (EM.d (b_add (EM.d (em_slc (EM.d (g_var g (x := "row") (i := 0) (by kernel_rfl))) eo_none (eo_some (EM.d (g_var g (x := "at") (i := 1) (by kernel_rfl)))))) (EM.d (em_tup (e_cons (EM.d (g_var g (x := "one") (i := 2) (by kernel_rfl))) ea_nil))))) (EM.d (em_slc (EM.d (g_var g (x := "row") (i := 0) (by kernel_rfl))) (eo_some (EM.d (b_add (EM.d (g_var g (x := "at") (i := 1) (by kernel_rfl))) (EM.d em_int)))) eo_none)))))
theorem c__law_put {G : Glob} (fx : Fx G) : Callee G 1 "_law_put" f__law_put := by
  obtain ⟨fd, F, hm⟩ := fx.d__law_put
  exact ⟨_, fd, ["row", "at", "one"], hm, F.kp, F.bindsN fun _ _ _ _ _ _ us hl => match us, hl with | [_, _, _], _ => rfl, fnG_of F sc__law_put rfl (w__law_put fx)⟩
abbrev s__law_opens : Stmt := top 47
theorem sc__law_opens : FnScope ["lock", "key", "cut", "cuts"] ["lock", "key"] (defScope s__law_opens) := ⟨rfl, rfl, rfl, by decide +kernel, rfl, by decide +kernel, by decide +kernel⟩
theorem w__law_opens {G : Glob} (fx : Fx G) (X : Cx) (W : WX) (gS : GoodS G ["lock", "key", "cut", "cuts"] (defScope s__law_opens) 0 X W) : ESs X W (protP [true, true]) (defBody s__law_opens) (sRet (m2 gEqS (asD (mLc (mZip (mCons (asD (mVar 1)) (mCons (asD (mVar 0)) mNil))) (bTup 2 (bCons (bName 2) (bCons (bName 3) bNil))) (asT (m2 gNotIn (asD (mVar 2)) (asD (mVar 3)))) (asD (mC (.int 1))) [2, 3])) (asD (mLst mNil)))) :=
 have g := gS.toGood
 (ess_one (es_ret (e_cmp (o_eq g) (EM.d (g_lc g (own := [("cut", 2), ("cuts", 3)]) (by kernel_rfl) (g_zip g fx.fr_zip (by kernel_rfl) (e_cons (EM.d (g_var g (x := "key") (i := 1) (by kernel_rfl))) (e_cons (EM.d (g_var g (x := "lock") (i := 0) (by kernel_rfl))) ea_nil))) (fun Y g ow => ⟨(g_tt g (egs_cons (g_to g ow (i := 2) (by kernel_rfl) (by kernel_rfl) (by kernel_rfl)) (egs_cons (g_to g ow (i := 3) (by kernel_rfl) (by kernel_rfl) (by kernel_rfl)) egs_nil))), (ets_one (t_cmp (o_notin g) (EM.d (g_var g (x := "cut") (i := 2) (by kernel_rfl))) (EM.d (g_var g (x := "cuts") (i := 3) (by kernel_rfl))))), (EM.d em_int)⟩))) (EM.d (em_lst ea_nil)))))
theorem c__law_opens {G : Glob} (fx : Fx G) : Callee G 1 "_law_opens" f__law_opens := by
  obtain ⟨fd, F, hm⟩ := fx.d__law_opens
  exact ⟨_, fd, ["lock", "key"], hm, F.kp, F.bindsN fun _ _ _ _ _ _ us hl => match us, hl with | [_, _], _ => rfl, fnG_of F sc__law_opens rfl (w__law_opens fx)⟩
abbrev s__law_as_lock : Stmt := top 49
theorem sc__law_as_lock : FnScope ["turn", "lock", "chamber", "cuts", "cut"] ["turn", "lock"] (defScope s__law_as_lock) := ⟨rfl, rfl, rfl, by decide +kernel, rfl, by decide +kernel, by decide +kernel⟩
theorem w__law_as_lock {G : Glob} (fx : Fx G) (X : Cx) (W : WX) (gS : GoodS G ["turn", "lock", "chamber", "cuts", "cut"] (defScope s__law_as_lock) 0 X W) : ESs X W (protP [true, true]) (defBody s__law_as_lock) (sRet (mA gTuple (mCons (asD (mLc (mZip (mCons (asD (mIdxV 0 (asD (mC (.int 0))))) (mCons (asD (mIdxV 0 (asD (mC (.int 1))))) mNil))) (bTup 2 (bCons (bName 2) (bCons (bName 3) bNil))) mYes (asD (mA gTuple (mCons (asD (mA gSorted (mCons (asD (mLc (mIt (mIdxV 1 (asD (mVar 2)))) (bName 4) mYes (asD (mIdxV 3 (asD (mVar 4)))) [4])) mNil))) mNil))) [2, 3])) mNil))) :=
 have g := gS.toGood
 (ess_one (es_ret (g_tuple g fx.fr_tuple (by kernel_rfl) (e_cons (EM.d (g_lc g (own := [("chamber", 2), ("cuts", 3)]) (by kernel_rfl) (g_zip g fx.fr_zip (by kernel_rfl) (e_cons (EM.d (g_idxV g (i := 0) (by kernel_rfl) (EM.d em_int))) (e_cons (EM.d (g_idxV g (i := 0) (by kernel_rfl) (EM.d em_int))) ea_nil))) (fun Y g ow => ⟨(g_tt g (egs_cons (g_to g ow (i := 2) (by kernel_rfl) (by kernel_rfl) (by kernel_rfl)) (egs_cons (g_to g ow (i := 3) (by kernel_rfl) (by kernel_rfl) (by kernel_rfl)) egs_nil))), ets_nil, (EM.d (g_tuple g fx.fr_tuple (by kernel_rfl) (e_cons (EM.d (g_sorted g fx.fr_sorted (by kernel_rfl) (e_cons (EM.d (g_lc g (own := [("cut", 4)]) (by kernel_rfl) (ei_data (g_idxV g (i := 1) (by kernel_rfl) (EM.d (g_var g (x := "chamber") (i := 2) (by kernel_rfl))))) (fun Y g ow => ⟨(g_to g ow (i := 4) (by kernel_rfl) (by kernel_rfl) (by kernel_rfl)), ets_nil, (EM.d (g_idxV g (i := 3) (by kernel_rfl) (EM.d (g_var g (x := "cut") (i := 4) (by kernel_rfl)))))⟩))) ea_nil))) ea_nil)))⟩))) ea_nil))))
theorem c__law_as_lock {G : Glob} (fx : Fx G) : Callee G 1 "_law_as_lock" f__law_as_lock := by
  obtain ⟨fd, F, hm⟩ := fx.d__law_as_lock
  exact ⟨_, fd, ["turn", "lock"], hm, F.kp, F.bindsN fun _ _ _ _ _ _ us hl => match us, hl with | [_, _], _ => rfl, fnG_of F sc__law_as_lock rfl (w__law_as_lock fx)⟩
abbrev s__law_both : Stmt := top 51
theorem sc__law_both : FnScope ["lock", "other", "found", "cuts", "more", "cut"] ["lock", "other"] (defScope s__law_both) := ⟨rfl, rfl, rfl, by decide +kernel, rfl, by decide +kernel, by decide +kernel⟩
theorem w__law_both {G : Glob} (fx : Fx G) (X : Cx) (W : WX) (gS : GoodS G ["lock", "other", "found", "cuts", "more", "cut"] (defScope s__law_both) 0 X W) : ESs X W (protP [true, true]) (defBody s__law_both) (sSeq (sSet 2 (mA gTuple (mCons (asD (mLc (mZip (mCons (asD (mVar 0)) (mCons (asD (mVar 1)) mNil))) (bTup 2 (bCons (bName 3) (bCons (bName 4) bNil))) mYes (asD (mA gTuple (mCons (asD (mLc (mIt (mVar 3)) (bName 5) (asT (m2 gIn (asD (mVar 5)) (asD (mVar 4)))) (asD (mVar 5)) [5])) mNil))) [3, 4])) mNil)))
  (sRet (mIf (asT (m2 gIn (asD (mTup mNil)) (asD (mVar 2)))) (mC .none) (mVar 2)))) :=
 have g := gS.toGood
 (ess_cons (g_set gS (i := 2) (by kernel_rfl) (by kernel_rfl) (g_tuple g fx.fr_tuple (by kernel_rfl) (e_cons (EM.d (g_lc g (own := [("cuts", 3), ("more", 4)]) (by kernel_rfl) (g_zip g fx.fr_zip (by kernel_rfl) (e_cons (EM.d (g_var g (x := "lock") (i := 0) (by kernel_rfl))) (e_cons (EM.d (g_var g (x := "other") (i := 1) (by kernel_rfl))) ea_nil))) (fun Y g ow => ⟨(g_tt g (egs_cons (g_to g ow (i := 3) (by kernel_rfl) (by kernel_rfl) (by kernel_rfl)) (egs_cons (g_to g ow (i := 4) (by kernel_rfl) (by kernel_rfl) (by kernel_rfl)) egs_nil))), ets_nil, (EM.d (g_tuple g fx.fr_tuple (by kernel_rfl) (e_cons (EM.d (g_lc g (own := [("cut", 5)]) (by kernel_rfl) (ei_data (g_var g (x := "cuts") (i := 3) (by kernel_rfl))) (fun Y g ow => ⟨(g_to g ow (i := 5) (by kernel_rfl) (by kernel_rfl) (by kernel_rfl)), (ets_one (t_cmp (o_in g) (EM.d (g_var g (x := "cut") (i := 5) (by kernel_rfl))) (EM.d (g_var g (x := "more") (i := 4) (by kernel_rfl))))), (EM.d (g_var g (x := "cut") (i := 5) (by kernel_rfl)))⟩))) ea_nil)))⟩))) ea_nil)))
  (ess_one (es_ret (em_ite (t_cmp (o_in g) (EM.d (em_tup ea_nil)) (EM.d (g_var g (x := "found") (i := 2) (by kernel_rfl)))) em_non (g_var g (x := "found") (i := 2) (by kernel_rfl))))))
theorem c__law_both {G : Glob} (fx : Fx G) : Callee G 1 "_law_both" f__law_both := by
  obtain ⟨fd, F, hm⟩ := fx.d__law_both
  exact ⟨_, fd, ["lock", "other"], hm, F.kp, F.bindsN fun _ _ _ _ _ _ us hl => match us, hl with | [_, _], _ => rfl, fnG_of F sc__law_both rfl (w__law_both fx)⟩
abbrev s_is_within_kinds : Stmt := top 8
theorem sc_is_within_kinds : FnScope ["thing", "least", "most"] ["thing", "least", "most"] (defScope s_is_within_kinds) := ⟨rfl, rfl, rfl, by decide +kernel, rfl, by decide +kernel, by decide +kernel⟩
theorem w_is_within_kinds {G : Glob} (fx : Fx G) (X : Cx) (W : WX) (gS : GoodS G ["thing", "least", "most"] (defScope s_is_within_kinds) 1 X W) : ESs X W (protP [true, true, true]) (defBody s_is_within_kinds) (sRet (mAnd (mCall f_is_integer [.vl (mVar 0)]) (mChn gLe gLe (asD (mVar 1)) (asD (mVar 0)) (asD (mVar 2))))) :=
 have g := gS.toGood
 (ess_one (es_ret (em_and (g_call g (c_is_integer fx) (by kernel_rfl) (by kernel_rfl) (er_vl (g_var g (x := "thing") (i := 0) (by kernel_rfl)) er_nil) (by decide)) (em_one (e_chn (o_le g) (o_le g) (EM.d (g_var g (x := "least") (i := 1) (by kernel_rfl))) (EM.d (g_var g (x := "thing") (i := 0) (by kernel_rfl))) (EM.d (g_var g (x := "most") (i := 2) (by kernel_rfl))))))))
theorem c_is_within_kinds {G : Glob} (fx : Fx G) : Callee G 2 "is_within_kinds" f_is_within_kinds := by
  obtain ⟨fd, F, hm⟩ := fx.d_is_within_kinds
  exact ⟨_, fd, ["thing", "least", "most"], hm, F.kp, F.bindsN fun _ _ _ _ _ _ us hl => match us, hl with | [_, _, _], _ => rfl, fnG_of F sc_is_within_kinds rfl (w_is_within_kinds fx)⟩
abbrev s_key_count : Stmt := top 27
theorem sc_key_count : FnScope ["lock", "cuts"] ["lock"] (defScope s_key_count) := ⟨rfl, rfl, rfl, by decide +kernel, rfl, by decide +kernel, by decide +kernel⟩
theorem w_key_count {G : Glob} (fx : Fx G) (X : Cx) (W : WX) (gS : GoodS G ["lock", "cuts"] (defScope s_key_count) 1 X W) : ESs X W (protP [true]) (defBody s_key_count) (sRet (mCall f_product_of [.vl (mLc (mIt (mVar 0)) (bName 1) mYes (asD (mLenV 1)) [1])])) :=
 have g := gS.toGood
 (ess_one (es_ret (g_call g (c_product_of fx) (by kernel_rfl) (by kernel_rfl) (er_vl (g_lc g (own := [("cuts", 1)]) (by kernel_rfl) (ei_data (g_var g (x := "lock") (i := 0) (by kernel_rfl))) (fun Y g ow => ⟨(g_to g ow (i := 1) (by kernel_rfl) (by kernel_rfl) (by kernel_rfl)), ets_nil, (EM.d (g_lenV g fx.fr_len (by kernel_rfl) (i := 1) (by kernel_rfl)))⟩)) er_nil) (by decide))))
theorem c_key_count {G : Glob} (fx : Fx G) : Callee G 2 "key_count" f_key_count := by
  obtain ⟨fd, F, hm⟩ := fx.d_key_count
  exact ⟨_, fd, ["lock"], hm, F.kp, F.bindsN fun _ _ _ _ _ _ us hl => match us, hl with | [_], _ => rfl, fnG_of F sc_key_count rfl (w_key_count fx)⟩
abbrev s_key_list : Stmt := top 28
theorem sc_key_list : FnScope ["lock"] ["lock"] (defScope s_key_list) := ⟨rfl, rfl, rfl, by decide +kernel, rfl, by decide +kernel, by decide +kernel⟩
theorem w_key_list {G : Glob} (fx : Fx G) (X : Cx) (W : WX) (gS : GoodS G ["lock"] (defScope s_key_list) 1 X W) : ESs X W (protP [true]) (defBody s_key_list) (sRet (mCall f_product_rows [.vl (mA gList (mCons (asD (mVar 0)) mNil))])) :=
 have g := gS.toGood
 (ess_one (es_ret (g_call g (c_product_rows fx) (by kernel_rfl) (by kernel_rfl) (er_vl (g_list g fx.fr_list (by kernel_rfl) (e_cons (EM.d (g_var g (x := "lock") (i := 0) (by kernel_rfl))) ea_nil)) er_nil) (by decide))))
theorem c_key_list {G : Glob} (fx : Fx G) : Callee G 2 "key_list" f_key_list := by
  obtain ⟨fd, F, hm⟩ := fx.d_key_list
  exact ⟨_, fd, ["lock"], hm, F.kp, F.bindsN fun _ _ _ _ _ _ us hl => match us, hl with | [_], _ => rfl, fnG_of F sc_key_list rfl (w_key_list fx)⟩
abbrev s__law_pick : Stmt := top 40
theorem sc__law_pick : FnScope ["source", "things"] ["source", "things"] (defScope s__law_pick) := ⟨rfl, rfl, rfl, by decide +kernel, rfl, by decide +kernel, by decide +kernel⟩
theorem w__law_pick {G : Glob} (fx : Fx G) (X : Cx) (W : WX) (gS : GoodS G ["source", "things"] (defScope s__law_pick) 1 X W) : ESs X W (protP [true, true]) (defBody s__law_pick) (sRet (mIdxV 1 (asD (mCall f__law_take [.rf 0, .vl (mLenV 1)])))) :=
 have g := gS.toGood
 (ess_one (es_ret (g_idxV g (i := 1) (by kernel_rfl) (EM.d (g_call g (c__law_take fx) (by kernel_rfl) (by kernel_rfl) (g_rf g (i := 0) (by kernel_rfl) (er_vl (g_lenV g fx.fr_len (by kernel_rfl) (i := 1) (by kernel_rfl)) er_nil)) (by decide))))))
theorem c__law_pick {G : Glob} (fx : Fx G) : Callee G 2 "_law_pick" f__law_pick := by
  obtain ⟨fd, F, hm⟩ := fx.d__law_pick
  exact ⟨_, fd, ["source", "things"], hm, F.kp, F.bindsN fun _ _ _ _ _ _ us hl => match us, hl with | [_, _], _ => rfl, fnG_of F sc__law_pick rfl (w__law_pick fx)⟩
abbrev s__law_mixed : Stmt := top 41
theorem sc__law_mixed : FnScope ["source", "things", "left", "found", "turn"] ["source", "things"] (defScope s__law_mixed) := ⟨rfl, rfl, rfl, by decide +kernel, rfl, by decide +kernel, by decide +kernel⟩
theorem w__law_mixed {G : Glob} (fx : Fx G) (X : Cx) (W : WX) (gS : GoodS G ["source", "things", "left", "found", "turn"] (defScope s__law_mixed) 1 X W) : ESs X W (protP [true, true]) (defBody s__law_mixed) (sSeq (sPar2 2 3 (mA gList (mCons (asD (mVar 1)) mNil)) (mLst mNil))
  (sSeq (sFor (mRg1 (mCons (asD (mLenV 1)) mNil)) (bName 4) (sExp (mAppend 3 (asD (mPopAt 2 (asD (mCall f__law_take [.rf 0, .vl (mLenV 2)])))))))
  (sRetV 3))) :=
 have g := gS.toGood
 (ess_cons (g_par2 gS (i := 2) (j := 3) (by kernel_rfl) (by kernel_rfl) (by kernel_rfl) (by kernel_rfl) (by decide) (g_list g fx.fr_list (by kernel_rfl) (e_cons (EM.d (g_var g (x := "things") (i := 1) (by kernel_rfl))) ea_nil)) (em_lst ea_nil) (by intro env he; cases env; cases he; rfl))
  (ess_cons (g_for gS (g_rg1 g fx.fr_range (by kernel_rfl) (e_cons (EM.d (g_lenV g fx.fr_len (by kernel_rfl) (i := 1) (by kernel_rfl))) ea_nil)) (g_tn g (i := 4) (by kernel_rfl) (by kernel_rfl) (.inl (gS.fn _))) (ess_one (es_exp (g_append g (i := 3) (by kernel_rfl) (EM.d (g_popAt g (i := 2) (by kernel_rfl) (EM.d (g_call g (c__law_take fx) (by kernel_rfl) (by kernel_rfl) (g_rf g (i := 0) (by kernel_rfl) (er_vl (g_lenV g fx.fr_len (by kernel_rfl) (i := 2) (by kernel_rfl)) er_nil)) (by decide)))))))))
  (ess_one (g_retV g (i := 3) (by kernel_rfl)))))
theorem c__law_mixed {G : Glob} (fx : Fx G) : Callee G 2 "_law_mixed" f__law_mixed := by
  obtain ⟨fd, F, hm⟩ := fx.d__law_mixed
  exact ⟨_, fd, ["source", "things"], hm, F.kp, F.bindsN fun _ _ _ _ _ _ us hl => match us, hl with | [_, _], _ => rfl, fnG_of F sc__law_mixed rfl (w__law_mixed fx)⟩
abbrev s__law_make : Stmt := top 44
theorem sc__law_make : FnScope ["source"] ["source"] (defScope s__law_make) := ⟨rfl, rfl, rfl, by decide +kernel, rfl, by decide +kernel, by decide +kernel⟩
theorem w__law_make {G : Glob} (fx : Fx G) (X : Cx) (W : WX) (gS : GoodS G ["source"] (defScope s__law_make) 1 X W) : ESs X W (protP [true]) (defBody s__law_make) (sRet (mTup (mCons (asD (m2 gAdd (asD (mC (.int 1))) (asD (mCall f__law_take [.rf 0, .vl (mC (.int 5))])))) (mCons (asD (m2 gAdd (asD (mC (.int 2))) (asD (mCall f__law_take [.rf 0, .vl (mC (.int 4))])))) mNil)))) :=
 have g := gS.toGood
 (ess_one (es_ret (em_tup (e_cons (EM.d (b_add (EM.d em_int) (EM.d (g_call g (c__law_take fx) (by kernel_rfl) (by kernel_rfl) (g_rf g (i := 0) (by kernel_rfl) (er_vl em_int er_nil)) (by decide))))) (e_cons (EM.d (b_add (EM.d em_int) (EM.d (g_call g (c__law_take fx) (by kernel_rfl) (by kernel_rfl) (g_rf g (i := 0) (by kernel_rfl) (er_vl em_int er_nil)) (by decide))))) ea_nil)))))
theorem c__law_make {G : Glob} (fx : Fx G) : Callee G 2 "_law_make" f__law_make := by
  obtain ⟨fd, F, hm⟩ := fx.d__law_make
  exact ⟨_, fd, ["source"], hm, F.kp, F.bindsN fun _ _ _ _ _ _ us hl => match us, hl with | [_], _ => rfl, fnG_of F sc__law_make rfl (w__law_make fx)⟩
abbrev s__law_cuts : Stmt := top 45
theorem sc__law_cuts : FnScope ["source", "depths", "some", "cut"] ["source", "depths"] (defScope s__law_cuts) := ⟨rfl, rfl, rfl, by decide +kernel, rfl, by decide +kernel, by decide +kernel⟩
theorem w__law_cuts {G : Glob} (fx : Fx G) (X : Cx) (W : WX) (gS : GoodS G ["source", "depths", "some", "cut"] (defScope s__law_cuts) 1 X W) : ESs X W (protP [true, true]) (defBody s__law_cuts) (sSeq (sSet 2 (mLc (mRg1 (mCons (asD (mVar 1)) mNil)) (bName 3) (asT (m2 gEqS (asD (mCall f__law_take [.rf 0, .vl (mC (.int 2))])) (asD (mC (.int 0))))) (asD (mVar 3)) [3]))
  (sRet (mIf (asT (m2 gNeS (asD (mVar 2)) (asD (mLst mNil)))) (mA gTuple (mCons (asD (mVar 2)) mNil)) (mTup (mCons (asD (mCall f__law_take [.rf 0, .vl (mVar 1)])) mNil))))) :=
 have g := gS.toGood
 (ess_cons (g_setLc gS.toGood (i := 2) (by kernel_rfl) (by kernel_rfl) (own := [("cut", 3)]) (by kernel_rfl) (g_rg1 g fx.fr_range (by kernel_rfl) (e_cons (EM.d (g_var g (x := "depths") (i := 1) (by kernel_rfl))) ea_nil)) (fun Y g ow => ⟨(g_to g ow (i := 3) (by kernel_rfl) (by kernel_rfl) (by kernel_rfl)), (ets_one (t_cmp (o_eq g) (EM.d (g_call g (c__law_take fx) (by kernel_rfl) (by kernel_rfl) (g_rf g (i := 0) (by kernel_rfl) (er_vl em_int er_nil)) (by decide))) (EM.d em_int))), (EM.d (g_var g (x := "cut") (i := 3) (by kernel_rfl)))⟩) (by kernel_rfl))
  (ess_one (es_ret (em_ite (t_cmp (o_ne g) (EM.d (g_var g (x := "some") (i := 2) (by kernel_rfl))) (EM.d (em_lst ea_nil))) (g_tuple g fx.fr_tuple (by kernel_rfl) (e_cons (EM.d (g_var g (x := "some") (i := 2) (by kernel_rfl))) ea_nil)) (em_tup (e_cons (EM.d (g_call g (c__law_take fx) (by kernel_rfl) (by kernel_rfl) (g_rf g (i := 0) (by kernel_rfl) (er_vl (g_var g (x := "depths") (i := 1) (by kernel_rfl)) er_nil)) (by decide))) ea_nil))))))
theorem c__law_cuts {G : Glob} (fx : Fx G) : Callee G 2 "_law_cuts" f__law_cuts := by
  obtain ⟨fd, F, hm⟩ := fx.d__law_cuts
  exact ⟨_, fd, ["source", "depths"], hm, F.kp, F.bindsN fun _ _ _ _ _ _ us hl => match us, hl with | [_, _], _ => rfl, fnG_of F sc__law_cuts rfl (w__law_cuts fx)⟩
abbrev s_are_within : Stmt := top 11
theorem sc_are_within : FnScope ["thing", "count", "least", "most", "one"] ["thing", "count", "least", "most"] (defScope s_are_within) := ⟨rfl, rfl, rfl, by decide +kernel, rfl, by decide +kernel, by decide +kernel⟩
theorem w_are_within {G : Glob} (fx : Fx G) (X : Cx) (W : WX) (gS : GoodS G ["thing", "count", "least", "most", "one"] (defScope s_are_within) 2 X W) : ESs X W (protP [true, true, true, true]) (defBody s_are_within) (sRet (mAnd (mCall f_is_row [.vl (mVar 0), .vl (mVar 1), .vl (mVar 1)]) (mA gAll (mCons (asD (mLc (mIt (mVar 0)) (bName 4) mYes (asD (mCall f_is_within_kinds [.vl (mVar 4), .vl (mVar 2), .vl (mVar 3)])) [4])) mNil)))) :=
 have g := gS.toGood
 (ess_one (es_ret (em_and (g_call g (c_is_row fx) (by kernel_rfl) (by kernel_rfl) (er_vl (g_var g (x := "thing") (i := 0) (by kernel_rfl)) (er_vl (g_var g (x := "count") (i := 1) (by kernel_rfl)) (er_vl (g_var g (x := "count") (i := 1) (by kernel_rfl)) er_nil))) (by decide)) (em_one (g_all g fx.fr_all (by kernel_rfl) (e_cons (EM.d (g_lc g (own := [("one", 4)]) (by kernel_rfl) (ei_data (g_var g (x := "thing") (i := 0) (by kernel_rfl))) (fun Y g ow => ⟨(g_to g ow (i := 4) (by kernel_rfl) (by kernel_rfl) (by kernel_rfl)), ets_nil, (EM.d (g_call g (c_is_within_kinds fx) (by kernel_rfl) (by kernel_rfl) (er_vl (g_var g (x := "one") (i := 4) (by kernel_rfl)) (er_vl (g_var g (x := "least") (i := 2) (by kernel_rfl)) (er_vl (g_var g (x := "most") (i := 3) (by kernel_rfl)) er_nil))) (by decide)))⟩))) ea_nil))))))
theorem c_are_within {G : Glob} (fx : Fx G) : Callee G 3 "are_within" f_are_within := by
  obtain ⟨fd, F, hm⟩ := fx.d_are_within
  exact ⟨_, fd, ["thing", "count", "least", "most"], hm, F.kp, F.bindsN fun _ _ _ _ _ _ us hl => match us, hl with | [_, _, _, _], _ => rfl, fnG_of F sc_are_within rfl (w_are_within fx)⟩
abbrev s_is_make : Stmt := top 18
theorem sc_is_make : FnScope ["thing"] ["thing"] (defScope s_is_make) := ⟨rfl, rfl, rfl, by decide +kernel, rfl, by decide +kernel, by decide +kernel⟩
theorem w_is_make {G : Glob} (fx : Fx G) (X : Cx) (W : WX) (gS : GoodS G ["thing"] (defScope s_is_make) 2 X W) : ESs X W (protP [true]) (defBody s_is_make) (sRet (mAnd (mCall f_is_row [.vl (mVar 0), .vl (mC (.int 2)), .vl (mC (.int 2))]) (mAnd (mCall f_is_within_kinds [.vl (mIdxV 0 (asD (mC (.int 0)))), .vl (mC (.int 1)), .vl (mC (.int 5))]) (mCall f_is_within_kinds [.vl (mIdxV 0 (asD (mC (.int 1)))), .vl (mC (.int 2)), .vl (mC (.int 5))])))) :=
 have g := gS.toGood
 (ess_one (es_ret (em_and (g_call g (c_is_row fx) (by kernel_rfl) (by kernel_rfl) (er_vl (g_var g (x := "thing") (i := 0) (by kernel_rfl)) (er_vl em_int (er_vl em_int er_nil))) (by decide)) (em_and (g_call g (c_is_within_kinds fx) (by kernel_rfl) (by kernel_rfl) (er_vl (g_idxV g (i := 0) (by kernel_rfl) (EM.d em_int)) (er_vl em_int (er_vl (g_int g fx.i_MOST_CHAMBERS (by kernel_rfl)) er_nil))) (by decide)) (em_one (g_call g (c_is_within_kinds fx) (by kernel_rfl) (by kernel_rfl) (er_vl (g_idxV g (i := 0) (by kernel_rfl) (EM.d em_int)) (er_vl em_int (er_vl (g_int g fx.i_MOST_DEPTHS (by kernel_rfl)) er_nil))) (by decide)))))))
theorem c_is_make {G : Glob} (fx : Fx G) : Callee G 3 "is_make" f_is_make := by
  obtain ⟨fd, F, hm⟩ := fx.d_is_make
  exact ⟨_, fd, ["thing"], hm, F.kp, F.bindsN fun _ _ _ _ _ _ us hl => match us, hl with | [_], _ => rfl, fnG_of F sc_is_make rfl (w_is_make fx)⟩
abbrev s_are_cuts : Stmt := top 21
theorem sc_are_cuts : FnScope ["make", "thing", "one"] ["make", "thing"] (defScope s_are_cuts) := ⟨rfl, rfl, rfl, by decide +kernel, rfl, by decide +kernel, by decide +kernel⟩
theorem w_are_cuts {G : Glob} (fx : Fx G) (X : Cx) (W : WX) (gS : GoodS G ["make", "thing", "one"] (defScope s_are_cuts) 2 X W) : ESs X W (protP [true, true]) (defBody s_are_cuts) (sRet (mAnd (mCall f_is_row [.vl (mVar 1), .vl (mC (.int 1)), .vl (mIdxV 0 (asD (mC (.int 1))))]) (mAnd (mA gAll (mCons (asD (mLc (mIt (mVar 1)) (bName 2) mYes (asD (mCall f_is_within_kinds [.vl (mVar 2), .vl (mC (.int 0)), .vl (m2 gSub (asD (mIdxV 0 (asD (mC (.int 1))))) (asD (mC (.int 1))))])) [2])) mNil)) (mCall f_is_ascending [.vl (mVar 1)])))) :=
 have g := gS.toGood
 (ess_one (es_ret (em_and (g_call g (c_is_row fx) (by kernel_rfl) (by kernel_rfl) (er_vl (g_var g (x := "thing") (i := 1) (by kernel_rfl)) (er_vl em_int (er_vl (g_idxV g (i := 0) (by kernel_rfl) (EM.d em_int)) er_nil))) (by decide)) (em_and (g_all g fx.fr_all (by kernel_rfl) (e_cons (EM.d (g_lc g (own := [("one", 2)]) (by kernel_rfl) (ei_data (g_var g (x := "thing") (i := 1) (by kernel_rfl))) (fun Y g ow => ⟨(g_to g ow (i := 2) (by kernel_rfl) (by kernel_rfl) (by kernel_rfl)), ets_nil, (EM.d (g_call g (c_is_within_kinds fx) (by kernel_rfl) (by kernel_rfl) (er_vl (g_var g (x := "one") (i := 2) (by kernel_rfl)) (er_vl em_int (er_vl (b_sub (EM.d (g_idxV g (i := 0) (by kernel_rfl) (EM.d em_int))) (EM.d em_int)) er_nil))) (by decide)))⟩))) ea_nil)) (em_one (g_call g (c_is_ascending fx) (by kernel_rfl) (by kernel_rfl) (er_vl (g_var g (x := "thing") (i := 1) (by kernel_rfl)) er_nil) (by decide)))))))
theorem c_are_cuts {G : Glob} (fx : Fx G) : Callee G 3 "are_cuts" f_are_cuts := by
  obtain ⟨fd, F, hm⟩ := fx.d_are_cuts
  exact ⟨_, fd, ["make", "thing"], hm, F.kp, F.bindsN fun _ _ _ _ _ _ us hl => match us, hl with | [_, _], _ => rfl, fnG_of F sc_are_cuts rfl (w_are_cuts fx)⟩
abbrev s__law_lock : Stmt := top 46
theorem sc__law_lock : FnScope ["source", "make", "chamber"] ["source", "make"] (defScope s__law_lock) := ⟨rfl, rfl, rfl, by decide +kernel, rfl, by decide +kernel, by decide +kernel⟩
theorem w__law_lock {G : Glob} (fx : Fx G) (X : Cx) (W : WX) (gS : GoodS G ["source", "make", "chamber"] (defScope s__law_lock) 2 X W) : ESs X W (protP [true, true]) (defBody s__law_lock) (sRet (mA gTuple (mCons (asD (mLc (mRg1 (mCons (asD (mIdxV 1 (asD (mC (.int 0))))) mNil)) (bName 2) mYes (asD (mCall f__law_cuts [.rf 0, .vl (mIdxV 1 (asD (mC (.int 1))))])) [2])) mNil))) :=
 have g := gS.toGood
 (ess_one (es_ret (g_tuple g fx.fr_tuple (by kernel_rfl) (e_cons (EM.d (g_lc g (own := [("chamber", 2)]) (by kernel_rfl) (g_rg1 g fx.fr_range (by kernel_rfl) (e_cons (EM.d (g_idxV g (i := 1) (by kernel_rfl) (EM.d em_int))) ea_nil)) (fun Y g ow => ⟨(g_to g ow (i := 2) (by kernel_rfl) (by kernel_rfl) (by kernel_rfl)), ets_nil, (EM.d (g_call g (c__law_cuts fx) (by kernel_rfl) (by kernel_rfl) (g_rf g (i := 0) (by kernel_rfl) (er_vl (g_idxV g (i := 1) (by kernel_rfl) (EM.d em_int)) er_nil)) (by decide)))⟩))) ea_nil))))
theorem c__law_lock {G : Glob} (fx : Fx G) : Callee G 3 "_law_lock" f__law_lock := by
  obtain ⟨fd, F, hm⟩ := fx.d__law_lock
  exact ⟨_, fd, ["source", "make"], hm, F.kp, F.bindsN fun _ _ _ _ _ _ us hl => match us, hl with | [_, _], _ => rfl, fnG_of F sc__law_lock rfl (w__law_lock fx)⟩
abbrev s__law_turn : Stmt := top 48
theorem sc__law_turn : FnScope ["source", "make", "order", "chamber"] ["source", "make"] (defScope s__law_turn) := ⟨rfl, rfl, rfl, by decide +kernel, rfl, by decide +kernel, by decide +kernel⟩
theorem w__law_turn {G : Glob} (fx : Fx G) (X : Cx) (W : WX) (gS : GoodS G ["source", "make", "order", "chamber"] (defScope s__law_turn) 2 X W) : ESs X W (protP [true, true]) (defBody s__law_turn) (sSeq (sSet 2 (mCall f__law_mixed [.rf 0, .vl (mLRg1 (asD (mIdxV 1 (asD (mC (.int 0))))))]))
  (sRet (mTup (mCons (asD (mVar 2)) (mCons (asD (mLc (mIt (mVar 2)) (bName 3) mYes (asD (mCall f__law_mixed [.rf 0, .vl (mLRg1 (asD (mIdxV 1 (asD (mC (.int 1))))))])) [3])) mNil))))) :=
 have g := gS.toGood
 (ess_cons (g_set gS (i := 2) (by kernel_rfl) (by kernel_rfl) (g_call g (c__law_mixed fx) (by kernel_rfl) (by kernel_rfl) (g_rf g (i := 0) (by kernel_rfl) (er_vl (g_lrg1 g fx.fr_list (by kernel_rfl) fx.fr_range (by kernel_rfl) (EM.d (g_idxV g (i := 1) (by kernel_rfl) (EM.d em_int)))) er_nil)) (by decide)))
  (ess_one (es_ret (em_tup (e_cons (EM.d (g_var g (x := "order") (i := 2) (by kernel_rfl))) (e_cons (EM.d (g_lc g (own := [("chamber", 3)]) (by kernel_rfl) (ei_data (g_var g (x := "order") (i := 2) (by kernel_rfl))) (fun Y g ow => ⟨(g_to g ow (i := 3) (by kernel_rfl) (by kernel_rfl) (by kernel_rfl)), ets_nil, (EM.d (g_call g (c__law_mixed fx) (by kernel_rfl) (by kernel_rfl) (g_rf g (i := 0) (by kernel_rfl) (er_vl (g_lrg1 g fx.fr_list (by kernel_rfl) fx.fr_range (by kernel_rfl) (EM.d (g_idxV g (i := 1) (by kernel_rfl) (EM.d em_int)))) er_nil)) (by decide)))⟩))) ea_nil))))))
theorem c__law_turn {G : Glob} (fx : Fx G) : Callee G 3 "_law_turn" f__law_turn := by
  obtain ⟨fd, F, hm⟩ := fx.d__law_turn
  exact ⟨_, fd, ["source", "make"], hm, F.kp, F.bindsN fun _ _ _ _ _ _ us hl => match us, hl with | [_, _], _ => rfl, fnG_of F sc__law_turn rfl (w__law_turn fx)⟩
abbrev s_need_make : Stmt := top 19
theorem sc_need_make : FnScope ["make"] ["make"] (defScope s_need_make) := ⟨rfl, rfl, rfl, by decide +kernel, rfl, by decide +kernel, by decide +kernel⟩
theorem w_need_make {G : Glob} (fx : Fx G) (X : Cx) (W : WX) (gS : GoodS G ["make"] (defScope s_need_make) 3 X W) : ESs X W (protP [true]) (defBody s_need_make) (sIf (tNotM (asT (mCall f_is_make [.vl (mVar 0)]))) (sRaise "BadMake") sNil) :=
 have g := gS.toGood
 (ess_one (es_if (et_not (t_val (g_call g (c_is_make fx) (by kernel_rfl) (by kernel_rfl) (er_vl (g_var g (x := "make") (i := 0) (by kernel_rfl)) er_nil) (by decide)))) (ess_one (g_raise g fx.x_BadMake (by kernel_rfl))) ess_nil))
theorem c_need_make {G : Glob} (fx : Fx G) : Callee G 4 "need_make" f_need_make := by
  obtain ⟨fd, F, hm⟩ := fx.d_need_make
  exact ⟨_, fd, ["make"], hm, F.kp, F.bindsN fun _ _ _ _ _ _ us hl => match us, hl with | [_], _ => rfl, fnG_of F sc_need_make rfl (w_need_make fx)⟩
abbrev s_is_key_form : Stmt := top 20
theorem sc_is_key_form : FnScope ["make", "thing"] ["make", "thing"] (defScope s_is_key_form) := ⟨rfl, rfl, rfl, by decide +kernel, rfl, by decide +kernel, by decide +kernel⟩
theorem w_is_key_form {G : Glob} (fx : Fx G) (X : Cx) (W : WX) (gS : GoodS G ["make", "thing"] (defScope s_is_key_form) 3 X W) : ESs X W (protP [true, true]) (defBody s_is_key_form) (sRet (mCall f_are_within [.vl (mVar 1), .vl (mIdxV 0 (asD (mC (.int 0)))), .vl (mC (.int 0)), .vl (m2 gSub (asD (mIdxV 0 (asD (mC (.int 1))))) (asD (mC (.int 1))))])) :=
 have g := gS.toGood
 (ess_one (es_ret (g_call g (c_are_within fx) (by kernel_rfl) (by kernel_rfl) (er_vl (g_var g (x := "thing") (i := 1) (by kernel_rfl)) (er_vl (g_idxV g (i := 0) (by kernel_rfl) (EM.d em_int)) (er_vl em_int (er_vl (b_sub (EM.d (g_idxV g (i := 0) (by kernel_rfl) (EM.d em_int))) (EM.d em_int)) er_nil)))) (by decide))))
theorem c_is_key_form {G : Glob} (fx : Fx G) : Callee G 4 "is_key_form" f_is_key_form := by
  obtain ⟨fd, F, hm⟩ := fx.d_is_key_form
  exact ⟨_, fd, ["make", "thing"], hm, F.kp, F.bindsN fun _ _ _ _ _ _ us hl => match us, hl with | [_, _], _ => rfl, fnG_of F sc_is_key_form rfl (w_is_key_form fx)⟩
abbrev s_is_lock_form : Stmt := top 22
theorem sc_is_lock_form : FnScope ["make", "thing", "cuts"] ["make", "thing"] (defScope s_is_lock_form) := ⟨rfl, rfl, rfl, by decide +kernel, rfl, by decide +kernel, by decide +kernel⟩
theorem w_is_lock_form {G : Glob} (fx : Fx G) (X : Cx) (W : WX) (gS : GoodS G ["make", "thing", "cuts"] (defScope s_is_lock_form) 3 X W) : ESs X W (protP [true, true]) (defBody s_is_lock_form) (sRet (mAnd (mCall f_is_row [.vl (mVar 1), .vl (mIdxV 0 (asD (mC (.int 0)))), .vl (mIdxV 0 (asD (mC (.int 0))))]) (mA gAll (mCons (asD (mLc (mIt (mVar 1)) (bName 2) mYes (asD (mCall f_are_cuts [.vl (mVar 0), .vl (mVar 2)])) [2])) mNil)))) :=
 have g := gS.toGood
 (ess_one (es_ret (em_and (g_call g (c_is_row fx) (by kernel_rfl) (by kernel_rfl) (er_vl (g_var g (x := "thing") (i := 1) (by kernel_rfl)) (er_vl (g_idxV g (i := 0) (by kernel_rfl) (EM.d em_int)) (er_vl (g_idxV g (i := 0) (by kernel_rfl) (EM.d em_int)) er_nil))) (by decide)) (em_one (g_all g fx.fr_all (by kernel_rfl) (e_cons (EM.d (g_lc g (own := [("cuts", 2)]) (by kernel_rfl) (ei_data (g_var g (x := "thing") (i := 1) (by kernel_rfl))) (fun Y g ow => ⟨(g_to g ow (i := 2) (by kernel_rfl) (by kernel_rfl) (by kernel_rfl)), ets_nil, (EM.d (g_call g (c_are_cuts fx) (by kernel_rfl) (by kernel_rfl) (er_vl (g_var g (x := "make") (i := 0) (by kernel_rfl)) (er_vl (g_var g (x := "cuts") (i := 2) (by kernel_rfl)) er_nil)) (by decide)))⟩))) ea_nil))))))
theorem c_is_lock_form {G : Glob} (fx : Fx G) : Callee G 4 "is_lock_form" f_is_lock_form := by
  obtain ⟨fd, F, hm⟩ := fx.d_is_lock_form
  exact ⟨_, fd, ["make", "thing"], hm, F.kp, F.bindsN fun _ _ _ _ _ _ us hl => match us, hl with | [_, _], _ => rfl, fnG_of F sc_is_lock_form rfl (w_is_lock_form fx)⟩
abbrev s_need_key : Stmt := top 23
theorem sc_need_key : FnScope ["make", "key"] ["make", "key"] (defScope s_need_key) := ⟨rfl, rfl, rfl, by decide +kernel, rfl, by decide +kernel, by decide +kernel⟩
theorem w_need_key {G : Glob} (fx : Fx G) (X : Cx) (W : WX) (gS : GoodS G ["make", "key"] (defScope s_need_key) 4 X W) : ESs X W (protP [true, true]) (defBody s_need_key) (sIf (tNotM (asT (mCall f_is_key_form [.vl (mVar 0), .vl (mVar 1)]))) (sRaise "BadKey") sNil) :=
 have g := gS.toGood
 (ess_one (es_if (et_not (t_val (g_call g (c_is_key_form fx) (by kernel_rfl) (by kernel_rfl) (er_vl (g_var g (x := "make") (i := 0) (by kernel_rfl)) (er_vl (g_var g (x := "key") (i := 1) (by kernel_rfl)) er_nil)) (by decide)))) (ess_one (g_raise g fx.x_BadKey (by kernel_rfl))) ess_nil))
theorem c_need_key {G : Glob} (fx : Fx G) : Callee G 5 "need_key" f_need_key := by
  obtain ⟨fd, F, hm⟩ := fx.d_need_key
  exact ⟨_, fd, ["make", "key"], hm, F.kp, F.bindsN fun _ _ _ _ _ _ us hl => match us, hl with | [_, _], _ => rfl, fnG_of F sc_need_key rfl (w_need_key fx)⟩
abbrev s_need_lock : Stmt := top 24
theorem sc_need_lock : FnScope ["make", "lock"] ["make", "lock"] (defScope s_need_lock) := ⟨rfl, rfl, rfl, by decide +kernel, rfl, by decide +kernel, by decide +kernel⟩
theorem w_need_lock {G : Glob} (fx : Fx G) (X : Cx) (W : WX) (gS : GoodS G ["make", "lock"] (defScope s_need_lock) 4 X W) : ESs X W (protP [true, true]) (defBody s_need_lock) (sSeq (sExp (mCall f_need_make [.vl (mVar 0)]))
  (sIf (tNotM (asT (mCall f_is_lock_form [.vl (mVar 0), .vl (mVar 1)]))) (sRaise "BadLock") sNil)) :=
 have g := gS.toGood
 (ess_cons (es_exp (g_call g (c_need_make fx) (by kernel_rfl) (by kernel_rfl) (er_vl (g_var g (x := "make") (i := 0) (by kernel_rfl)) er_nil) (by decide)))
  (ess_one (es_if (et_not (t_val (g_call g (c_is_lock_form fx) (by kernel_rfl) (by kernel_rfl) (er_vl (g_var g (x := "make") (i := 0) (by kernel_rfl)) (er_vl (g_var g (x := "lock") (i := 1) (by kernel_rfl)) er_nil)) (by decide)))) (ess_one (g_raise g fx.x_BadLock (by kernel_rfl))) ess_nil)))
theorem c_need_lock {G : Glob} (fx : Fx G) : Callee G 5 "need_lock" f_need_lock := by
  obtain ⟨fd, F, hm⟩ := fx.d_need_lock
  exact ⟨_, fd, ["make", "lock"], hm, F.kp, F.bindsN fun _ _ _ _ _ _ us hl => match us, hl with | [_, _], _ => rfl, fnG_of F sc_need_lock rfl (w_need_lock fx)⟩
abbrev s_opens : Stmt := top 31
theorem sc_opens : FnScope ["make", "lock", "key"] ["make", "lock", "key"] (defScope s_opens) := ⟨rfl, rfl, rfl, by decide +kernel, rfl, by decide +kernel, by decide +kernel⟩
theorem w_opens {G : Glob} (fx : Fx G) (X : Cx) (W : WX) (gS : GoodS G ["make", "lock", "key"] (defScope s_opens) 5 X W) : ESs X W (protP [true, true, true]) (defBody s_opens) (sSeq (sExp (mCall f_need_lock [.vl (mVar 0), .vl (mVar 1)]))
  (sSeq (sExp (mCall f_need_key [.vl (mVar 0), .vl (mVar 2)]))
  (sRet (mCall f_does_open [.vl (mVar 1), .vl (mVar 2)])))) :=
 have g := gS.toGood
 (ess_cons (es_exp (g_call g (c_need_lock fx) (by kernel_rfl) (by kernel_rfl) (er_vl (g_var g (x := "make") (i := 0) (by kernel_rfl)) (er_vl (g_var g (x := "lock") (i := 1) (by kernel_rfl)) er_nil)) (by decide)))
  (ess_cons (es_exp (g_call g (c_need_key fx) (by kernel_rfl) (by kernel_rfl) (er_vl (g_var g (x := "make") (i := 0) (by kernel_rfl)) (er_vl (g_var g (x := "key") (i := 2) (by kernel_rfl)) er_nil)) (by decide)))
  (ess_one (es_ret (g_call g (c_does_open fx) (by kernel_rfl) (by kernel_rfl) (er_vl (g_var g (x := "lock") (i := 1) (by kernel_rfl)) (er_vl (g_var g (x := "key") (i := 2) (by kernel_rfl)) er_nil)) (by decide))))))
theorem c_opens {G : Glob} (fx : Fx G) : Callee G 6 "opens" f_opens := by
  obtain ⟨fd, F, hm⟩ := fx.d_opens
  exact ⟨_, fd, ["make", "lock", "key"], hm, F.kp, F.bindsN fun _ _ _ _ _ _ us hl => match us, hl with | [_, _, _], _ => rfl, fnG_of F sc_opens rfl (w_opens fx)⟩
abbrev s_count_keys : Stmt := top 32
theorem sc_count_keys : FnScope ["make", "lock"] ["make", "lock"] (defScope s_count_keys) := ⟨rfl, rfl, rfl, by decide +kernel, rfl, by decide +kernel, by decide +kernel⟩
theorem w_count_keys {G : Glob} (fx : Fx G) (X : Cx) (W : WX) (gS : GoodS G ["make", "lock"] (defScope s_count_keys) 5 X W) : ESs X W (protP [true, true]) (defBody s_count_keys) (sSeq (sExp (mCall f_need_lock [.vl (mVar 0), .vl (mVar 1)]))
  (sRet (mCall f_key_count [.vl (mVar 1)]))) :=
 have g := gS.toGood
 (ess_cons (es_exp (g_call g (c_need_lock fx) (by kernel_rfl) (by kernel_rfl) (er_vl (g_var g (x := "make") (i := 0) (by kernel_rfl)) (er_vl (g_var g (x := "lock") (i := 1) (by kernel_rfl)) er_nil)) (by decide)))
  (ess_one (es_ret (g_call g (c_key_count fx) (by kernel_rfl) (by kernel_rfl) (er_vl (g_var g (x := "lock") (i := 1) (by kernel_rfl)) er_nil) (by decide)))))
theorem c_count_keys {G : Glob} (fx : Fx G) : Callee G 6 "count_keys" f_count_keys := by
  obtain ⟨fd, F, hm⟩ := fx.d_count_keys
  exact ⟨_, fd, ["make", "lock"], hm, F.kp, F.bindsN fun _ _ _ _ _ _ us hl => match us, hl with | [_, _], _ => rfl, fnG_of F sc_count_keys rfl (w_count_keys fx)⟩
abbrev s_keys_of : Stmt := top 33
theorem sc_keys_of : FnScope ["make", "lock"] ["make", "lock"] (defScope s_keys_of) := ⟨rfl, rfl, rfl, by decide +kernel, rfl, by decide +kernel, by decide +kernel⟩
theorem w_keys_of {G : Glob} (fx : Fx G) (X : Cx) (W : WX) (gS : GoodS G ["make", "lock"] (defScope s_keys_of) 5 X W) : ESs X W (protP [true, true]) (defBody s_keys_of) (sSeq (sExp (mCall f_need_lock [.vl (mVar 0), .vl (mVar 1)]))
  (sSeq (sIf (asT (m2 gGt (asD (mCall f_key_count [.vl (mVar 1)])) (asD (mC (.int 500))))) (sRaise "TooMany") sNil)
  (sRet (mCall f_key_list [.vl (mVar 1)])))) :=
 have g := gS.toGood
 (ess_cons (es_exp (g_call g (c_need_lock fx) (by kernel_rfl) (by kernel_rfl) (er_vl (g_var g (x := "make") (i := 0) (by kernel_rfl)) (er_vl (g_var g (x := "lock") (i := 1) (by kernel_rfl)) er_nil)) (by decide)))
  (ess_cons (es_if (t_cmp (o_gt g) (EM.d (g_call g (c_key_count fx) (by kernel_rfl) (by kernel_rfl) (er_vl (g_var g (x := "lock") (i := 1) (by kernel_rfl)) er_nil) (by decide))) (EM.d (g_int g fx.i_MOST_KEYS (by kernel_rfl)))) (ess_one (g_raise g fx.x_TooMany (by kernel_rfl))) ess_nil)
  (ess_one (es_ret (g_call g (c_key_list fx) (by kernel_rfl) (by kernel_rfl) (er_vl (g_var g (x := "lock") (i := 1) (by kernel_rfl)) er_nil) (by decide))))))
theorem c_keys_of {G : Glob} (fx : Fx G) : Callee G 6 "keys_of" f_keys_of := by
  obtain ⟨fd, F, hm⟩ := fx.d_keys_of
  exact ⟨_, fd, ["make", "lock"], hm, F.kp, F.bindsN fun _ _ _ _ _ _ us hl => match us, hl with | [_, _], _ => rfl, fnG_of F sc_keys_of rfl (w_keys_of fx)⟩
abbrev s_both_locks : Stmt := top 34
theorem sc_both_locks : FnScope ["make", "lock", "other", "found", "cuts", "more", "cut"] ["make", "lock", "other"] (defScope s_both_locks) := ⟨rfl, rfl, rfl, by decide +kernel, rfl, by decide +kernel, by decide +kernel⟩
theorem w_both_locks {G : Glob} (fx : Fx G) (X : Cx) (W : WX) (gS : GoodS G ["make", "lock", "other", "found", "cuts", "more", "cut"] (defScope s_both_locks) 5 X W) : ESs X W (protP [true, true, true]) (defBody s_both_locks) (sSeq (sExp (mCall f_need_lock [.vl (mVar 0), .vl (mVar 1)]))
  (sSeq (sExp (mCall f_need_lock [.vl (mVar 0), .vl (mVar 2)]))
  (sSeq (sSet 3 (mA gTuple (mCons (asD (mLc (mZip (mCons (asD (mVar 1)) (mCons (asD (mVar 2)) mNil))) (bTup 2 (bCons (bName 4) (bCons (bName 5) bNil))) mYes (asD (mA gTuple (mCons (asD (mLc (mIt (mVar 4)) (bName 6) (asT (m2 gIn (asD (mVar 6)) (asD (mVar 5)))) (asD (mVar 6)) [6])) mNil))) [4, 5])) mNil)))
  (sRet (mIf (asT (m2 gIn (asD (mTup mNil)) (asD (mVar 3)))) (mC .none) (mVar 3)))))) :=
 have g := gS.toGood
 (ess_cons (es_exp (g_call g (c_need_lock fx) (by kernel_rfl) (by kernel_rfl) (er_vl (g_var g (x := "make") (i := 0) (by kernel_rfl)) (er_vl (g_var g (x := "lock") (i := 1) (by kernel_rfl)) er_nil)) (by decide)))
  (ess_cons (es_exp (g_call g (c_need_lock fx) (by kernel_rfl) (by kernel_rfl) (er_vl (g_var g (x := "make") (i := 0) (by kernel_rfl)) (er_vl (g_var g (x := "other") (i := 2) (by kernel_rfl)) er_nil)) (by decide)))
  (ess_cons (g_set gS (i := 3) (by kernel_rfl) (by kernel_rfl) (g_tuple g fx.fr_tuple (by kernel_rfl) (e_cons (EM.d (g_lc g (own := [("cuts", 4), ("more", 5)]) (by kernel_rfl) (g_zip g fx.fr_zip (by kernel_rfl) (e_cons (EM.d (g_var g (x := "lock") (i := 1) (by kernel_rfl))) (e_cons (EM.d (g_var g (x := "other") (i := 2) (by kernel_rfl))) ea_nil))) (fun Y g ow => ⟨(g_tt g (egs_cons (g_to g ow (i := 4) (by kernel_rfl) (by kernel_rfl) (by kernel_rfl)) (egs_cons (g_to g ow (i := 5) (by kernel_rfl) (by kernel_rfl) (by kernel_rfl)) egs_nil))), ets_nil, (EM.d (g_tuple g fx.fr_tuple (by kernel_rfl) (e_cons (EM.d (g_lc g (own := [("cut", 6)]) (by kernel_rfl) (ei_data (g_var g (x := "cuts") (i := 4) (by kernel_rfl))) (fun Y g ow => ⟨(g_to g ow (i := 6) (by kernel_rfl) (by kernel_rfl) (by kernel_rfl)), (ets_one (t_cmp (o_in g) (EM.d (g_var g (x := "cut") (i := 6) (by kernel_rfl))) (EM.d (g_var g (x := "more") (i := 5) (by kernel_rfl))))), (EM.d (g_var g (x := "cut") (i := 6) (by kernel_rfl)))⟩))) ea_nil)))⟩))) ea_nil)))
  (ess_one (es_ret (em_ite (t_cmp (o_in g) (EM.d (em_tup ea_nil)) (EM.d (g_var g (x := "found") (i := 3) (by kernel_rfl)))) em_non (g_var g (x := "found") (i := 3) (by kernel_rfl))))))))
theorem c_both_locks {G : Glob} (fx : Fx G) : Callee G 6 "both_locks" f_both_locks := by
  obtain ⟨fd, F, hm⟩ := fx.d_both_locks
  exact ⟨_, fd, ["make", "lock", "other"], hm, F.kp, F.bindsN fun _ _ _ _ _ _ us hl => match us, hl with | [_, _, _], _ => rfl, fnG_of F sc_both_locks rfl (w_both_locks fx)⟩
theorem k_both_locks_other_lock_make {G : Glob} (fx : Fx G) : CalleeK G 6 "both_locks" f_both_locks ["other", "lock", "make"] [2, 1, 0] := by
  obtain ⟨fd, F, hm⟩ := fx.d_both_locks
  refine ⟨_, fd, ["make", "lock", "other"], hm, F.kp, fun s us hl => ?_, fnG_of F sc_both_locks rfl (w_both_locks fx)⟩
  obtain ⟨oc, od, dV, kV, doc, pm, an, cdv, ct, osl, rfl, lk, hcd, hD, hK⟩ := F.ex
  rcases hD with ⟨_, rfl⟩ | ⟨e, _⟩
  · exact match us, hl with | [_, _, _], _ => BindsTo.of_eq rfl
  · exact absurd rfl e
abbrev s_is_within : Stmt := top 35
theorem sc_is_within : FnScope ["make", "lock", "other", "cuts", "more", "cut"] ["make", "lock", "other"] (defScope s_is_within) := ⟨rfl, rfl, rfl, by decide +kernel, rfl, by decide +kernel, by decide +kernel⟩
theorem w_is_within {G : Glob} (fx : Fx G) (X : Cx) (W : WX) (gS : GoodS G ["make", "lock", "other", "cuts", "more", "cut"] (defScope s_is_within) 5 X W) : ESs X W (protP [true, true, true]) (defBody s_is_within) (sSeq (sExp (mCall f_need_lock [.vl (mVar 0), .vl (mVar 1)]))
  (sSeq (sExp (mCall f_need_lock [.vl (mVar 0), .vl (mVar 2)]))
  (sRet (mA gAll (mCons (asD (mLc2 (mZip (mCons (asD (mVar 1)) (mCons (asD (mVar 2)) mNil))) (bTup 2 (bCons (bName 3) (bCons (bName 4) bNil))) mYes (mIt (mVar 3)) (bName 5) mYes (asD (m2 gIn (asD (mVar 5)) (asD (mVar 4)))) [3, 4, 5] [5])) mNil))))) :=
 have g := gS.toGood
 (ess_cons (es_exp (g_call g (c_need_lock fx) (by kernel_rfl) (by kernel_rfl) (er_vl (g_var g (x := "make") (i := 0) (by kernel_rfl)) (er_vl (g_var g (x := "lock") (i := 1) (by kernel_rfl)) er_nil)) (by decide)))
  (ess_cons (es_exp (g_call g (c_need_lock fx) (by kernel_rfl) (by kernel_rfl) (er_vl (g_var g (x := "make") (i := 0) (by kernel_rfl)) (er_vl (g_var g (x := "other") (i := 2) (by kernel_rfl)) er_nil)) (by decide)))
  (ess_one (es_ret (g_all g fx.fr_all (by kernel_rfl) (e_cons (EM.d (g_lc2 g (own := [("cuts", 3), ("more", 4), ("cut", 5)]) (vs1 := [5]) (by kernel_rfl) (by kernel_rfl) (g_zip g fx.fr_zip (by kernel_rfl) (e_cons (EM.d (g_var g (x := "lock") (i := 1) (by kernel_rfl))) (e_cons (EM.d (g_var g (x := "other") (i := 2) (by kernel_rfl))) ea_nil))) (fun Y g ow => ⟨⟨(g_tt g (egs_cons (g_to g ow (i := 3) (by kernel_rfl) (by kernel_rfl) (by kernel_rfl)) (egs_cons (g_to g ow (i := 4) (by kernel_rfl) (by kernel_rfl) (by kernel_rfl)) egs_nil))), ets_nil⟩, (ei_data (g_var g (x := "cuts") (i := 3) (by kernel_rfl))), ⟨(g_to g ow (i := 5) (by kernel_rfl) (by kernel_rfl) (by kernel_rfl)), ets_nil⟩, (EM.d (e_cmp (o_in g) (EM.d (g_var g (x := "cut") (i := 5) (by kernel_rfl))) (EM.d (g_var g (x := "more") (i := 4) (by kernel_rfl)))))⟩))) ea_nil))))))
theorem c_is_within_locks {G : Glob} (fx : Fx G) : Callee G 6 "is_within_locks" f_is_within := by
  obtain ⟨fd, F, hm⟩ := fx.d_is_within_locks
  exact ⟨_, fd, ["make", "lock", "other"], hm, F.kp, F.bindsN fun _ _ _ _ _ _ us hl => match us, hl with | [_, _, _], _ => rfl, fnG_of F sc_is_within rfl (w_is_within fx)⟩
abbrev s__law_refused : Stmt := top 50
theorem sc__law_refused : FnScope ["way", "make", "lock", "other", "caught", "told", "e"] ["way", "make", "lock", "other"] (defScope s__law_refused) := ⟨rfl, rfl, rfl, by decide +kernel, rfl, by decide +kernel, by decide +kernel⟩
theorem w__law_refused {G : Glob} (fx : Fx G) (X : Cx) (W : WX) (gS : GoodS G ["way", "make", "lock", "other", "caught", "told", "e"] (defScope s__law_refused) 6 X W) : ESs X W (protP [true, true, true, true]) (defBody s__law_refused) (sSeq (sSet 4 (mC .none))
  (sSeq (sTry (fun c => hit_KeyedError.lookup c) 6 4 (sSet 5 (mIf (asT (m2 gEqS (asD (mVar 0)) (asD (mC (.int 0))))) (mCall f_both_locks [.vl (mVar 1), .vl (mVar 2), .vl (mVar 3)]) (mCall f_is_within [.vl (mVar 1), .vl (mVar 2), .vl (mVar 3)]))))
  (sRet (mAnd (mIsi tabC ex_BadLock (mVar 4)) (mNot (asT (mIsi tabC ex_BadMake (mVar 4)))))))) :=
 have g := gS.toGood
 (ess_cons (g_set gS (i := 4) (by kernel_rfl) (by kernel_rfl) em_non)
  (ess_cons (g_try' gS (i := 6) (j := 4) (by kernel_rfl) (by kernel_rfl) (by decide) (by kernel_rfl) (by kernel_rfl) fx.x_KeyedError.mg (by kernel_rfl) fx.h_KeyedError (fun Y W' gS => have g := gS.toGood; (ess_one (g_set gS (i := 5) (by kernel_rfl) (by kernel_rfl) (em_ite (t_cmp (o_eq g) (EM.d (g_var g (x := "way") (i := 0) (by kernel_rfl))) (EM.d em_int)) (g_call g (c_both_locks fx) (by kernel_rfl) (by kernel_rfl) (er_vl (g_var g (x := "make") (i := 1) (by kernel_rfl)) (er_vl (g_var g (x := "lock") (i := 2) (by kernel_rfl)) (er_vl (g_var g (x := "other") (i := 3) (by kernel_rfl)) er_nil))) (by decide)) (g_call g (c_is_within_locks fx) (by kernel_rfl) (by kernel_rfl) (er_vl (g_var g (x := "make") (i := 1) (by kernel_rfl)) (er_vl (g_var g (x := "lock") (i := 2) (by kernel_rfl)) (er_vl (g_var g (x := "other") (i := 3) (by kernel_rfl)) er_nil))) (by decide)))))))
  (ess_one (es_ret (em_and (g_isiC g fx.fr_isinstance (by kernel_rfl) fx.x_BadLock (by kernel_rfl) (g_var g (x := "caught") (i := 4) (by kernel_rfl)) fx.q_BadLock) (em_one (em_not (g_isiC g fx.fr_isinstance (by kernel_rfl) fx.x_BadMake (by kernel_rfl) (g_var g (x := "caught") (i := 4) (by kernel_rfl)) fx.q_BadMake))))))))
theorem c__law_refused {G : Glob} (fx : Fx G) : Callee G 7 "_law_refused" f__law_refused := by
  obtain ⟨fd, F, hm⟩ := fx.d__law_refused
  exact ⟨_, fd, ["way", "make", "lock", "other"], hm, F.kp, F.bindsN fun _ _ _ _ _ _ us hl => match us, hl with | [_, _, _, _], _ => rfl, fnG_of F sc__law_refused rfl (w__law_refused fx)⟩
abbrev s__law_two_right : Stmt := top 52
theorem sc__law_two_right : FnScope ["source", "make", "lock", "other", "due", "within", "turn", "one", "two", "turn_more", "key", "both", "alone", "odd", "cuts"] ["source", "make", "lock", "other"] (defScope s__law_two_right) := ⟨rfl, rfl, rfl, by decide +kernel, rfl, by decide +kernel, by decide +kernel⟩
theorem w__law_two_right {G : Glob} (fx : Fx G) (X : Cx) (W : WX) (gS : GoodS G ["source", "make", "lock", "other", "due", "within", "turn", "one", "two", "turn_more", "key", "both", "alone", "odd", "cuts"] (defScope s__law_two_right) 7 X W) : ESs X W (protP [true, true, true, true]) (defBody s__law_two_right) (sSeq (sSet 4 (mCall f__law_both [.vl (mVar 2), .vl (mVar 3)]))
  (sSeq (sSet 5 (mLst (mCons (asD (m2 gEqS (asD (mVar 4)) (asD (mVar 2)))) (mCons (asD (m2 gEqS (asD (mVar 4)) (asD (mVar 3)))) mNil))))
  (sSeq (sIf (tNotM (asT (mCall f__law_same [.vl (mLst (mCons (asD (mCall f_both_locks [.vl (mVar 1), .vl (mVar 2), .vl (mVar 3)])) (mCons (asD (mCall f_both_locks [.vl (mVar 1), .vl (mVar 3), .vl (mVar 2)])) (mCons (asD (mCallK f_both_locks [.vl (mVar 3), .vl (mVar 2), .vl (mVar 1)] [2, 1, 0])) mNil)))), .vl (m2 gMulX (asD (mLst (mCons (asD (mVar 4)) mNil))) (asD (mC (.int 3))))]))) (sRet (mC (.bool false))) sNil)
  (sSeq (sIf (tNotM (asT (mCall f__law_same [.vl (mLst (mCons (asD (mCall f_is_within [.vl (mVar 1), .vl (mVar 2), .vl (mVar 3)])) (mCons (asD (mCall f_is_within [.vl (mVar 1), .vl (mVar 3), .vl (mVar 2)])) (mCons (asD (mCall f_is_within [.vl (mVar 1), .vl (mVar 2), .vl (mVar 2)])) mNil)))), .vl (m2 gAdd (asD (mVar 5)) (asD (mLst (mCons (asD (mC (.bool true))) mNil))))]))) (sRet (mC (.bool false))) sNil)
  (sSeq (sSet 6 (mCall f__law_turn [.rf 0, .vl (mVar 1)]))
  (sSeq (sPar2 7 8 (mCall f__law_as_lock [.vl (mVar 6), .vl (mVar 2)]) (mCall f__law_as_lock [.vl (mVar 6), .vl (mVar 3)]))
  (sSeq (sIf (tNotM (asT (mCall f__law_same [.vl (mLst (mCons (asD (mCall f_both_locks [.vl (mVar 1), .vl (mVar 7), .vl (mVar 8)])) (mCons (asD (mCall f_is_within [.vl (mVar 1), .vl (mVar 7), .vl (mVar 8)])) mNil))), .vl (mLst (mCons (asD (mIf (asT (m2 gIs (asD (mVar 4)) (asD (mC .none)))) (mC .none) (mCall f__law_as_lock [.vl (mVar 6), .vl (mVar 4)]))) (mCons (asD (mIdxV 5 (asD (mC (.int 0))))) mNil)))]))) (sRet (mC (.bool false))) sNil)
  (sSeq (sIf (tAndM (asT (m2 gIsNot (asD (mVar 4)) (asD (mC .none)))) (tNotM (asT (mCall f__law_same [.vl (mLst (mCons (asD (mCall f_is_within [.vl (mVar 1), .vl (mVar 4), .vl (mVar 2)])) (mCons (asD (mCall f_is_within [.vl (mVar 1), .vl (mVar 4), .vl (mVar 3)])) mNil))), .vl (mLst (mCons (asD (mC (.bool true))) (mCons (asD (mC (.bool true))) mNil)))])))) (sRet (mC (.bool false))) sNil)
  (sSeq (sFor (mRg1 (mCons (asD (mC (.int 4))) mNil)) (bName 9) (sSeq (sSet 10 (mA gTuple (mCons (asD (mLc (mIt (mCall f__law_pick [.rf 0, .vl (mLst (mCons (asD (mVar 2)) (mCons (asD (mVar 3)) mNil)))])) (bName 14) mYes (asD (mCall f__law_pick [.rf 0, .vl (mVar 14)])) [14])) mNil)))
   (sSeq (sSet 11 (mAnd (m2 gIsNot (asD (mVar 4)) (asD (mC .none))) (mCall f_opens [.vl (mVar 1), .vl (mVar 4), .vl (mVar 10)])))
   (sIf (tOrM (asT (m2 gNeS (asD (mAnd (mCall f_opens [.vl (mVar 1), .vl (mVar 2), .vl (mVar 10)]) (mCall f_opens [.vl (mVar 1), .vl (mVar 3), .vl (mVar 10)]))) (asD (mVar 11)))) (tAndM (asT (mIdxV 5 (asD (mC (.int 0))))) (tAndM (asT (mCall f_opens [.vl (mVar 1), .vl (mVar 2), .vl (mVar 10)])) (tNotM (asT (mCall f_opens [.vl (mVar 1), .vl (mVar 3), .vl (mVar 10)])))))) (sRet (mC (.bool false))) sNil))))
  (sSeq (sIf (asT (m2 gLt (asD (mCall f_count_keys [.vl (mVar 1), .vl (mVar 2)])) (asD (mC (.int 200))))) (sSeq (sSet 12 (mLc (mIt (mCall f_keys_of [.vl (mVar 1), .vl (mVar 2)])) (bName 10) (tNotM (asT (mCall f__law_opens [.vl (mVar 3), .vl (mVar 10)]))) (asD (mVar 10)) [10]))
   (sIf (asT (m2 gNeS (asD (mLenV 12)) (asD (m2 gSub (asD (mCall f_count_keys [.vl (mVar 1), .vl (mVar 2)])) (asD (mIf (asT (m2 gIs (asD (mVar 4)) (asD (mC .none)))) (mC (.int 0)) (mCall f_count_keys [.vl (mVar 1), .vl (mVar 4)]))))))) (sRet (mC (.bool false))) sNil)) sNil)
  (sSeq (sFor (mIt (mLst (mCons (asD (mC .none)) (mCons (asD (mA gList (mCons (asD (mVar 2)) mNil))) (mCons (asD (mSl (asD (mVar 2)) (mO none) (mO (some (asD (m1 gNeg (asD (mC (.int 1))))))))) (mCons (asD (m2 gAdd (asD (mVar 2)) (asD (mTup (mCons (asD (mTup (mCons (asD (mC (.int 0))) mNil))) mNil))))) (mCons (asD (mCall f__law_put [.vl (mVar 2), .vl (mC (.int 0)), .vl (mTup mNil)])) (mCons (asD (mCall f__law_put [.vl (mVar 2), .vl (mC (.int 0)), .vl (mTup (mCons (asD (mIdxV 1 (asD (mC (.int 1))))) mNil))])) (mCons (asD (mCall f__law_put [.vl (mVar 2), .vl (mC (.int 0)), .vl (mTup (mCons (asD (mC (.int 0))) (mCons (asD (mC (.int 0))) mNil)))])) (mCons (asD (mCall f__law_put [.vl (mVar 2), .vl (mC (.int 0)), .vl (mLst (mCons (asD (mC (.int 0))) mNil))])) mNil)))))))))) (bName 13) (sIf (tOrM (tNotM (asT (mCall f__law_refused [.vl (mCall f__law_take [.rf 0, .vl (mC (.int 2))]), .vl (mVar 1), .vl (mVar 13), .vl (mVar 3)]))) (tNotM (asT (mCall f__law_refused [.vl (mCall f__law_take [.rf 0, .vl (mC (.int 2))]), .vl (mVar 1), .vl (mVar 2), .vl (mVar 13)])))) (sRet (mC (.bool false))) sNil))
  (sRet (mC (.bool true)))))))))))))) :=
 have g := gS.toGood
 (ess_cons (g_set gS (i := 4) (by kernel_rfl) (by kernel_rfl) (g_call g (c__law_both fx) (by kernel_rfl) (by kernel_rfl) (er_vl (g_var g (x := "lock") (i := 2) (by kernel_rfl)) (er_vl (g_var g (x := "other") (i := 3) (by kernel_rfl)) er_nil)) (by decide)))
  (ess_cons (g_set gS (i := 5) (by kernel_rfl) (by kernel_rfl) (em_lst (e_cons (EM.d (e_cmp (o_eq g) (EM.d (g_var g (x := "due") (i := 4) (by kernel_rfl))) (EM.d (g_var g (x := "lock") (i := 2) (by kernel_rfl))))) (e_cons (EM.d (e_cmp (o_eq g) (EM.d (g_var g (x := "due") (i := 4) (by kernel_rfl))) (EM.d (g_var g (x := "other") (i := 3) (by kernel_rfl))))) ea_nil))))
  (ess_cons (es_if (et_not (t_val (g_call g (c__law_same fx) (by kernel_rfl) (by kernel_rfl) (er_vl (em_lst (e_cons (EM.d (g_call g (c_both_locks fx) (by kernel_rfl) (by kernel_rfl) (er_vl (g_var g (x := "make") (i := 1) (by kernel_rfl)) (er_vl (g_var g (x := "lock") (i := 2) (by kernel_rfl)) (er_vl (g_var g (x := "other") (i := 3) (by kernel_rfl)) er_nil))) (by decide))) (e_cons (EM.d (g_call g (c_both_locks fx) (by kernel_rfl) (by kernel_rfl) (er_vl (g_var g (x := "make") (i := 1) (by kernel_rfl)) (er_vl (g_var g (x := "other") (i := 3) (by kernel_rfl)) (er_vl (g_var g (x := "lock") (i := 2) (by kernel_rfl)) er_nil))) (by decide))) (e_cons (EM.d (g_callK g (k_both_locks_other_lock_make fx) (by kernel_rfl) (by kernel_rfl) (kr_vl (g_var g (x := "other") (i := 3) (by kernel_rfl)) (kr_vl (g_var g (x := "lock") (i := 2) (by kernel_rfl)) (kr_vl (g_var g (x := "make") (i := 1) (by kernel_rfl)) kr_nil))) rfl rfl)) ea_nil)))) (er_vl (b_mul (EM.d (em_lst (e_cons (EM.d (g_var g (x := "due") (i := 4) (by kernel_rfl))) ea_nil))) (EM.d em_int)) er_nil)) (by decide)))) (ess_one (es_ret em_bl)) ess_nil)
  (ess_cons (es_if (et_not (t_val (g_call g (c__law_same fx) (by kernel_rfl) (by kernel_rfl) (er_vl (em_lst (e_cons (EM.d (g_call g (c_is_within_locks fx) (by kernel_rfl) (by kernel_rfl) (er_vl (g_var g (x := "make") (i := 1) (by kernel_rfl)) (er_vl (g_var g (x := "lock") (i := 2) (by kernel_rfl)) (er_vl (g_var g (x := "other") (i := 3) (by kernel_rfl)) er_nil))) (by decide))) (e_cons (EM.d (g_call g (c_is_within_locks fx) (by kernel_rfl) (by kernel_rfl) (er_vl (g_var g (x := "make") (i := 1) (by kernel_rfl)) (er_vl (g_var g (x := "other") (i := 3) (by kernel_rfl)) (er_vl (g_var g (x := "lock") (i := 2) (by kernel_rfl)) er_nil))) (by decide))) (e_cons (EM.d (g_call g (c_is_within_locks fx) (by kernel_rfl) (by kernel_rfl) (er_vl (g_var g (x := "make") (i := 1) (by kernel_rfl)) (er_vl (g_var g (x := "lock") (i := 2) (by kernel_rfl)) (er_vl (g_var g (x := "lock") (i := 2) (by kernel_rfl)) er_nil))) (by decide))) ea_nil)))) (er_vl (b_add (EM.d (g_var g (x := "within") (i := 5) (by kernel_rfl))) (EM.d (em_lst (e_cons (EM.d em_bl) ea_nil)))) er_nil)) (by decide)))) (ess_one (es_ret em_bl)) ess_nil)
  (ess_cons (g_set gS (i := 6) (by kernel_rfl) (by kernel_rfl) (g_call g (c__law_turn fx) (by kernel_rfl) (by kernel_rfl) (g_rf g (i := 0) (by kernel_rfl) (er_vl (g_var g (x := "make") (i := 1) (by kernel_rfl)) er_nil)) (by decide)))
  (ess_cons (g_par2 gS (i := 7) (j := 8) (by kernel_rfl) (by kernel_rfl) (by kernel_rfl) (by kernel_rfl) (by decide) (g_call g (c__law_as_lock fx) (by kernel_rfl) (by kernel_rfl) (er_vl (g_var g (x := "turn") (i := 6) (by kernel_rfl)) (er_vl (g_var g (x := "lock") (i := 2) (by kernel_rfl)) er_nil)) (by decide)) (g_call g (c__law_as_lock fx) (by kernel_rfl) (by kernel_rfl) (er_vl (g_var g (x := "turn") (i := 6) (by kernel_rfl)) (er_vl (g_var g (x := "other") (i := 3) (by kernel_rfl)) er_nil)) (by decide)) (by intro env he; cases env; cases he; rfl))
  (ess_cons (es_if (et_not (t_val (g_call g (c__law_same fx) (by kernel_rfl) (by kernel_rfl) (er_vl (em_lst (e_cons (EM.d (g_call g (c_both_locks fx) (by kernel_rfl) (by kernel_rfl) (er_vl (g_var g (x := "make") (i := 1) (by kernel_rfl)) (er_vl (g_var g (x := "one") (i := 7) (by kernel_rfl)) (er_vl (g_var g (x := "two") (i := 8) (by kernel_rfl)) er_nil))) (by decide))) (e_cons (EM.d (g_call g (c_is_within_locks fx) (by kernel_rfl) (by kernel_rfl) (er_vl (g_var g (x := "make") (i := 1) (by kernel_rfl)) (er_vl (g_var g (x := "one") (i := 7) (by kernel_rfl)) (er_vl (g_var g (x := "two") (i := 8) (by kernel_rfl)) er_nil))) (by decide))) ea_nil))) (er_vl (em_lst (e_cons (EM.d (em_ite (t_cmp (o_is g) (EM.d (g_var g (x := "due") (i := 4) (by kernel_rfl))) (EM.d em_non)) em_non (g_call g (c__law_as_lock fx) (by kernel_rfl) (by kernel_rfl) (er_vl (g_var g (x := "turn") (i := 6) (by kernel_rfl)) (er_vl (g_var g (x := "due") (i := 4) (by kernel_rfl)) er_nil)) (by decide)))) (e_cons (EM.d (g_idxV g (i := 5) (by kernel_rfl) (EM.d em_int))) ea_nil))) er_nil)) (by decide)))) (ess_one (es_ret em_bl)) ess_nil)
  (ess_cons (es_if (EW.t (ew_and (t_cmp (o_isnot g) (EM.d (g_var g (x := "due") (i := 4) (by kernel_rfl))) (EM.d em_non)) (ew_and1 (et_not (t_val (g_call g (c__law_same fx) (by kernel_rfl) (by kernel_rfl) (er_vl (em_lst (e_cons (EM.d (g_call g (c_is_within_locks fx) (by kernel_rfl) (by kernel_rfl) (er_vl (g_var g (x := "make") (i := 1) (by kernel_rfl)) (er_vl (g_var g (x := "due") (i := 4) (by kernel_rfl)) (er_vl (g_var g (x := "lock") (i := 2) (by kernel_rfl)) er_nil))) (by decide))) (e_cons (EM.d (g_call g (c_is_within_locks fx) (by kernel_rfl) (by kernel_rfl) (er_vl (g_var g (x := "make") (i := 1) (by kernel_rfl)) (er_vl (g_var g (x := "due") (i := 4) (by kernel_rfl)) (er_vl (g_var g (x := "other") (i := 3) (by kernel_rfl)) er_nil))) (by decide))) ea_nil))) (er_vl (em_lst (e_cons (EM.d em_bl) (e_cons (EM.d em_bl) ea_nil))) er_nil)) (by decide))))))) (ess_one (es_ret em_bl)) ess_nil)
  (ess_cons (g_for gS (g_rg1 g fx.fr_range (by kernel_rfl) (e_cons (EM.d em_int) ea_nil)) (g_tn g (i := 9) (by kernel_rfl) (by kernel_rfl) (.inl (gS.fn _))) (ess_cons (g_set gS (i := 10) (by kernel_rfl) (by kernel_rfl) (g_tuple g fx.fr_tuple (by kernel_rfl) (e_cons (EM.d (g_lc g (own := [("cuts", 14)]) (by kernel_rfl) (ei_data (g_call g (c__law_pick fx) (by kernel_rfl) (by kernel_rfl) (g_rf g (i := 0) (by kernel_rfl) (er_vl (em_lst (e_cons (EM.d (g_var g (x := "lock") (i := 2) (by kernel_rfl))) (e_cons (EM.d (g_var g (x := "other") (i := 3) (by kernel_rfl))) ea_nil))) er_nil)) (by decide))) (fun Y g ow => ⟨(g_to g ow (i := 14) (by kernel_rfl) (by kernel_rfl) (by kernel_rfl)), ets_nil, (EM.d (g_call g (c__law_pick fx) (by kernel_rfl) (by kernel_rfl) (g_rf g (i := 0) (by kernel_rfl) (er_vl (g_var g (x := "cuts") (i := 14) (by kernel_rfl)) er_nil)) (by decide)))⟩))) ea_nil)))
   (ess_cons (g_set gS (i := 11) (by kernel_rfl) (by kernel_rfl) (em_and (e_cmp (o_isnot g) (EM.d (g_var g (x := "due") (i := 4) (by kernel_rfl))) (EM.d em_non)) (em_one (g_call g (c_opens fx) (by kernel_rfl) (by kernel_rfl) (er_vl (g_var g (x := "make") (i := 1) (by kernel_rfl)) (er_vl (g_var g (x := "due") (i := 4) (by kernel_rfl)) (er_vl (g_var g (x := "key") (i := 10) (by kernel_rfl)) er_nil))) (by decide)))))
   (ess_one (es_if (EW.t (ew_or (t_cmp (o_ne g) (EM.d (em_and (g_call g (c_opens fx) (by kernel_rfl) (by kernel_rfl) (er_vl (g_var g (x := "make") (i := 1) (by kernel_rfl)) (er_vl (g_var g (x := "lock") (i := 2) (by kernel_rfl)) (er_vl (g_var g (x := "key") (i := 10) (by kernel_rfl)) er_nil))) (by decide)) (em_one (g_call g (c_opens fx) (by kernel_rfl) (by kernel_rfl) (er_vl (g_var g (x := "make") (i := 1) (by kernel_rfl)) (er_vl (g_var g (x := "other") (i := 3) (by kernel_rfl)) (er_vl (g_var g (x := "key") (i := 10) (by kernel_rfl)) er_nil))) (by decide))))) (EM.d (g_var g (x := "both") (i := 11) (by kernel_rfl)))) (ew_or1 (EW.t (ew_and (t_val (g_idxV g (i := 5) (by kernel_rfl) (EM.d em_int))) (ew_and (t_val (g_call g (c_opens fx) (by kernel_rfl) (by kernel_rfl) (er_vl (g_var g (x := "make") (i := 1) (by kernel_rfl)) (er_vl (g_var g (x := "lock") (i := 2) (by kernel_rfl)) (er_vl (g_var g (x := "key") (i := 10) (by kernel_rfl)) er_nil))) (by decide))) (ew_and1 (et_not (t_val (g_call g (c_opens fx) (by kernel_rfl) (by kernel_rfl) (er_vl (g_var g (x := "make") (i := 1) (by kernel_rfl)) (er_vl (g_var g (x := "other") (i := 3) (by kernel_rfl)) (er_vl (g_var g (x := "key") (i := 10) (by kernel_rfl)) er_nil))) (by decide))))))))))) (ess_one (es_ret em_bl)) ess_nil)))))
  (ess_cons (es_if (t_cmp (o_lt g) (EM.d (g_call g (c_count_keys fx) (by kernel_rfl) (by kernel_rfl) (er_vl (g_var g (x := "make") (i := 1) (by kernel_rfl)) (er_vl (g_var g (x := "lock") (i := 2) (by kernel_rfl)) er_nil)) (by decide))) (EM.d em_int)) (ess_cons (g_setLc gS.toGood (i := 12) (by kernel_rfl) (by kernel_rfl) (own := [("key", 10)]) (by kernel_rfl) (ei_data (g_call g (c_keys_of fx) (by kernel_rfl) (by kernel_rfl) (er_vl (g_var g (x := "make") (i := 1) (by kernel_rfl)) (er_vl (g_var g (x := "lock") (i := 2) (by kernel_rfl)) er_nil)) (by decide))) (fun Y g ow => ⟨(g_to g ow (i := 10) (by kernel_rfl) (by kernel_rfl) (by kernel_rfl)), (ets_one (et_not (t_val (g_call g (c__law_opens fx) (by kernel_rfl) (by kernel_rfl) (er_vl (g_var g (x := "other") (i := 3) (by kernel_rfl)) (er_vl (g_var g (x := "key") (i := 10) (by kernel_rfl)) er_nil)) (by decide))))), (EM.d (g_var g (x := "key") (i := 10) (by kernel_rfl)))⟩) (by kernel_rfl))
   (ess_one (es_if (t_cmp (o_ne g) (EM.d (g_lenV g fx.fr_len (by kernel_rfl) (i := 12) (by kernel_rfl))) (EM.d (b_sub (EM.d (g_call g (c_count_keys fx) (by kernel_rfl) (by kernel_rfl) (er_vl (g_var g (x := "make") (i := 1) (by kernel_rfl)) (er_vl (g_var g (x := "lock") (i := 2) (by kernel_rfl)) er_nil)) (by decide))) (EM.d (em_ite (t_cmp (o_is g) (EM.d (g_var g (x := "due") (i := 4) (by kernel_rfl))) (EM.d em_non)) em_int (g_call g (c_count_keys fx) (by kernel_rfl) (by kernel_rfl) (er_vl (g_var g (x := "make") (i := 1) (by kernel_rfl)) (er_vl (g_var g (x := "due") (i := 4) (by kernel_rfl)) er_nil)) (by decide))))))) (ess_one (es_ret em_bl)) ess_nil))) ess_nil)
  (ess_cons (g_for gS (ei_data (em_lst (e_cons (EM.d em_non) (e_cons (EM.d (g_list g fx.fr_list (by kernel_rfl) (e_cons (EM.d (g_var g (x := "lock") (i := 2) (by kernel_rfl))) ea_nil))) (e_cons (EM.d (em_slc (EM.d (g_var g (x := "lock") (i := 2) (by kernel_rfl))) eo_none (eo_some (EM.d (u_neg (EM.d em_int)))))) (e_cons (EM.d (b_add (EM.d (g_var g (x := "lock") (i := 2) (by kernel_rfl))) (EM.d (em_tup (e_cons (EM.d (em_tup (e_cons (EM.d em_int) ea_nil))) ea_nil))))) (e_cons (EM.d (g_call g (c__law_put fx) (by kernel_rfl) (by kernel_rfl) (er_vl (g_var g (x := "lock") (i := 2) (by kernel_rfl)) (er_vl em_int (er_vl (em_tup ea_nil) er_nil))) (by decide))) (e_cons (EM.d (g_call g (c__law_put fx) (by kernel_rfl) (by kernel_rfl) (er_vl (g_var g (x := "lock") (i := 2) (by kernel_rfl)) (er_vl em_int (er_vl (em_tup (e_cons (EM.d (g_idxV g (i := 1) (by kernel_rfl) (EM.d em_int))) ea_nil)) er_nil))) (by decide))) (e_cons (EM.d (g_call g (c__law_put fx) (by kernel_rfl) (by kernel_rfl) (er_vl (g_var g (x := "lock") (i := 2) (by kernel_rfl)) (er_vl em_int (er_vl (em_tup (e_cons (EM.d em_int) (e_cons (EM.d em_int) ea_nil))) er_nil))) (by decide))) (e_cons (EM.d (g_call g (c__law_put fx) (by kernel_rfl) (by kernel_rfl) (er_vl (g_var g (x := "lock") (i := 2) (by kernel_rfl)) (er_vl em_int (er_vl (em_lst (e_cons (EM.d em_int) ea_nil)) er_nil))) (by decide))) ea_nil)))))))))) (g_tn g (i := 13) (by kernel_rfl) (by kernel_rfl) (.inl (gS.fn _))) (ess_one (es_if (EW.t (ew_or (et_not (t_val (g_call g (c__law_refused fx) (by kernel_rfl) (by kernel_rfl) (er_vl (g_call g (c__law_take fx) (by kernel_rfl) (by kernel_rfl) (g_rf g (i := 0) (by kernel_rfl) (er_vl em_int er_nil)) (by decide)) (er_vl (g_var g (x := "make") (i := 1) (by kernel_rfl)) (er_vl (g_var g (x := "odd") (i := 13) (by kernel_rfl)) (er_vl (g_var g (x := "other") (i := 3) (by kernel_rfl)) er_nil)))) (by decide)))) (ew_or1 (et_not (t_val (g_call g (c__law_refused fx) (by kernel_rfl) (by kernel_rfl) (er_vl (g_call g (c__law_take fx) (by kernel_rfl) (by kernel_rfl) (g_rf g (i := 0) (by kernel_rfl) (er_vl em_int er_nil)) (by decide)) (er_vl (g_var g (x := "make") (i := 1) (by kernel_rfl)) (er_vl (g_var g (x := "lock") (i := 2) (by kernel_rfl)) (er_vl (g_var g (x := "odd") (i := 13) (by kernel_rfl)) er_nil)))) (by decide))))))) (ess_one (es_ret em_bl)) ess_nil)))
  (ess_one (es_ret em_bl)))))))))))))
theorem c__law_two_right {G : Glob} (fx : Fx G) : Callee G 8 "_law_two_right" f__law_two_right := by
  obtain ⟨fd, F, hm⟩ := fx.d__law_two_right
  exact ⟨_, fd, ["source", "make", "lock", "other"], hm, F.kp, F.bindsN fun _ _ _ _ _ _ us hl => match us, hl with | [_, _, _, _], _ => rfl, fnG_of F sc__law_two_right rfl (w__law_two_right fx)⟩
abbrev s_law : Stmt := top 53
theorem sc_law : FnScope ["script", "k", "source", "turn", "make", "one", "two", "three", "kept", "lock", "other", "left", "right", "cuts", "more"] ["script"] (defScope s_law) := ⟨rfl, rfl, rfl, by decide +kernel, rfl, by decide +kernel, by decide +kernel⟩
theorem w_law {G : Glob} (fx : Fx G) (X : Cx) (W : WX) (gS : GoodS G ["script", "k", "source", "turn", "make", "one", "two", "three", "kept", "lock", "other", "left", "right", "cuts", "more"] (defScope s_law) 8 X W) : ESs X W (protP [true]) (defBody s_law) (sSeq (sFor (mRg1 (mCons (asD (mA gMax2 (mCons (asD (mC (.int 1))) (mCons (asD (mA gMin2 (mCons (asD (mC (.int 3))) (mCons (asD (mLenV 0)) mNil)))) mNil)))) mNil)) (bName 1) (sSeq (sSet 2 (mCall f__law_source [.vl (mVar 0), .vl (mVar 1)]))
   (sFor (mRg1 (mCons (asD (mC (.int 3))) mNil)) (bName 3) (sSeq (sSet 4 (mCall f__law_make [.rf 2]))
    (sSeq (sPar3 5 6 7 (mCall f__law_lock [.rf 2, .vl (mVar 4)]) (mCall f__law_lock [.rf 2, .vl (mVar 4)]) (mCall f__law_lock [.rf 2, .vl (mVar 4)]))
    (sSeq (sIf (asT (m2 gEqS (asD (mCall f__law_take [.rf 2, .vl (mC (.int 2))])) (asD (mC (.int 0))))) (sSet 6 (mA gTuple (mCons (asD (mLc (mZip (mCons (asD (mVar 5)) (mCons (asD (mVar 6)) mNil))) (bTup 2 (bCons (bName 13) (bCons (bName 14) bNil))) mYes (asD (mA gTuple (mCons (asD (m1 gSortSet (asD (m2 gAdd (asD (mVar 13)) (asD (mVar 14)))))) mNil))) [13, 14])) mNil))) sNil)
    (sSeq (sIf (asT (m2 gEqS (asD (mCall f__law_take [.rf 2, .vl (mC (.int 3))])) (asD (mC (.int 0))))) (sSet 7 (m2 gMulX (asD (mTup (mCons (asD (mTRg1 (asD (mIdxV 4 (asD (mC (.int 1))))))) mNil))) (asD (mIdxV 4 (asD (mC (.int 0))))))) sNil)
    (sSeq (sSet 8 (mA gRepr (mCons (asD (mTup (mCons (asD (mVar 5)) (mCons (asD (mVar 6)) (mCons (asD (mVar 7)) mNil))))) mNil)))
    (sSeq (sFor (mIt (mLst (mCons (asD (mTup (mCons (asD (mVar 5)) (mCons (asD (mVar 6)) mNil)))) (mCons (asD (mTup (mCons (asD (mVar 6)) (mCons (asD (mVar 7)) mNil)))) (mCons (asD (mTup (mCons (asD (mVar 7)) (mCons (asD (mVar 5)) mNil)))) mNil))))) (bTup 2 (bCons (bName 9) (bCons (bName 10) bNil))) (sIf (tNotM (asT (mCall f__law_two_right [.rf 2, .vl (mVar 4), .vl (mVar 9), .vl (mVar 10)]))) (sRet (mC (.bool false))) sNil))
    (sSeq (sPar2 11 12 (mCall f_both_locks [.vl (mVar 4), .vl (mVar 5), .vl (mVar 6)]) (mCall f_both_locks [.vl (mVar 4), .vl (mVar 6), .vl (mVar 7)]))
    (sSeq (sSet 11 (mIf (asT (m2 gIs (asD (mVar 11)) (asD (mC .none)))) (mC .none) (mCall f_both_locks [.vl (mVar 4), .vl (mVar 11), .vl (mVar 7)])))
    (sSeq (sSet 12 (mIf (asT (m2 gIs (asD (mVar 12)) (asD (mC .none)))) (mC .none) (mCall f_both_locks [.vl (mVar 4), .vl (mVar 5), .vl (mVar 12)])))
    (sSeq (sIf (tOrM (tNotM (asT (mCall f__law_same [.vl (mVar 11), .vl (mVar 12)]))) (tAndM (asT (mCall f_is_within [.vl (mVar 4), .vl (mVar 5), .vl (mVar 6)])) (tAndM (asT (mCall f_is_within [.vl (mVar 4), .vl (mVar 6), .vl (mVar 7)])) (tNotM (asT (mCall f_is_within [.vl (mVar 4), .vl (mVar 5), .vl (mVar 7)])))))) (sRet (mC (.bool false))) sNil)
    (sIf (asT (m2 gNeS (asD (mA gRepr (mCons (asD (mTup (mCons (asD (mVar 5)) (mCons (asD (mVar 6)) (mCons (asD (mVar 7)) mNil))))) mNil))) (asD (mVar 8)))) (sRet (mC (.bool false))) sNil))))))))))))))
  (sRet (mC (.bool true)))) :=
 have g := gS.toGood
 (ess_cons (g_for gS (g_rg1 g fx.fr_range (by kernel_rfl) (e_cons (EM.d (g_max2 g fx.fr_max (by kernel_rfl) (e_cons (EM.d em_int) (e_cons (EM.d (g_min2 g fx.fr_min (by kernel_rfl) (e_cons (EM.d em_int) (e_cons (EM.d (g_lenV g fx.fr_len (by kernel_rfl) (i := 0) (by kernel_rfl))) ea_nil)))) ea_nil)))) ea_nil)) (g_tn g (i := 1) (by kernel_rfl) (by kernel_rfl) (.inl (gS.fn _))) (ess_cons (g_set gS (i := 2) (by kernel_rfl) (by kernel_rfl) (g_call g (c__law_source fx) (by kernel_rfl) (by kernel_rfl) (er_vl (g_var g (x := "script") (i := 0) (by kernel_rfl)) (er_vl (g_var g (x := "k") (i := 1) (by kernel_rfl)) er_nil)) (by decide)))
   (ess_one (g_for gS (g_rg1 g fx.fr_range (by kernel_rfl) (e_cons (EM.d em_int) ea_nil)) (g_tn g (i := 3) (by kernel_rfl) (by kernel_rfl) (.inl (gS.fn _))) (ess_cons (g_set gS (i := 4) (by kernel_rfl) (by kernel_rfl) (g_call g (c__law_make fx) (by kernel_rfl) (by kernel_rfl) (g_rf g (i := 2) (by kernel_rfl) er_nil) (by decide)))
    (ess_cons (g_par3 gS (i := 5) (j := 6) (l := 7) (by kernel_rfl) (by kernel_rfl) (by kernel_rfl) (by kernel_rfl) (by kernel_rfl) (by kernel_rfl) (by decide) (by decide) (by decide) (g_call g (c__law_lock fx) (by kernel_rfl) (by kernel_rfl) (g_rf g (i := 2) (by kernel_rfl) (er_vl (g_var g (x := "make") (i := 4) (by kernel_rfl)) er_nil)) (by decide)) (g_call g (c__law_lock fx) (by kernel_rfl) (by kernel_rfl) (g_rf g (i := 2) (by kernel_rfl) (er_vl (g_var g (x := "make") (i := 4) (by kernel_rfl)) er_nil)) (by decide)) (g_call g (c__law_lock fx) (by kernel_rfl) (by kernel_rfl) (g_rf g (i := 2) (by kernel_rfl) (er_vl (g_var g (x := "make") (i := 4) (by kernel_rfl)) er_nil)) (by decide)) (by intro env he; cases env; cases he; rfl))
    (ess_cons (es_if (t_cmp (o_eq g) (EM.d (g_call g (c__law_take fx) (by kernel_rfl) (by kernel_rfl) (g_rf g (i := 2) (by kernel_rfl) (er_vl em_int er_nil)) (by decide))) (EM.d em_int)) (ess_one (g_set gS (i := 6) (by kernel_rfl) (by kernel_rfl) (g_tuple g fx.fr_tuple (by kernel_rfl) (e_cons (EM.d (g_lc g (own := [("cuts", 13), ("more", 14)]) (by kernel_rfl) (g_zip g fx.fr_zip (by kernel_rfl) (e_cons (EM.d (g_var g (x := "one") (i := 5) (by kernel_rfl))) (e_cons (EM.d (g_var g (x := "two") (i := 6) (by kernel_rfl))) ea_nil))) (fun Y g ow => ⟨(g_tt g (egs_cons (g_to g ow (i := 13) (by kernel_rfl) (by kernel_rfl) (by kernel_rfl)) (egs_cons (g_to g ow (i := 14) (by kernel_rfl) (by kernel_rfl) (by kernel_rfl)) egs_nil))), ets_nil, (EM.d (g_tuple g fx.fr_tuple (by kernel_rfl) (e_cons (EM.d (g_sortSet g fx.fr_sorted (by kernel_rfl) fx.fr_set (by kernel_rfl) (EM.d (b_add (EM.d (g_var g (x := "cuts") (i := 13) (by kernel_rfl))) (EM.d (g_var g (x := "more") (i := 14) (by kernel_rfl))))))) ea_nil)))⟩))) ea_nil)))) ess_nil)
    (ess_cons (es_if (t_cmp (o_eq g) (EM.d (g_call g (c__law_take fx) (by kernel_rfl) (by kernel_rfl) (g_rf g (i := 2) (by kernel_rfl) (er_vl em_int er_nil)) (by decide))) (EM.d em_int)) (ess_one (g_set gS (i := 7) (by kernel_rfl) (by kernel_rfl) (b_mul (EM.d (em_tup (e_cons (EM.d (g_trg1 g fx.fr_tuple (by kernel_rfl) fx.fr_range (by kernel_rfl) (EM.d (g_idxV g (i := 4) (by kernel_rfl) (EM.d em_int))))) ea_nil))) (EM.d (g_idxV g (i := 4) (by kernel_rfl) (EM.d em_int)))))) ess_nil)
    (ess_cons (g_set gS (i := 8) (by kernel_rfl) (by kernel_rfl) (g_repr g fx.fr_repr (by kernel_rfl) (e_cons (EM.d (em_tup (e_cons (EM.d (g_var g (x := "one") (i := 5) (by kernel_rfl))) (e_cons (EM.d (g_var g (x := "two") (i := 6) (by kernel_rfl))) (e_cons (EM.d (g_var g (x := "three") (i := 7) (by kernel_rfl))) ea_nil))))) ea_nil)))
    (ess_cons (g_for gS (ei_data (em_lst (e_cons (EM.d (em_tup (e_cons (EM.d (g_var g (x := "one") (i := 5) (by kernel_rfl))) (e_cons (EM.d (g_var g (x := "two") (i := 6) (by kernel_rfl))) ea_nil)))) (e_cons (EM.d (em_tup (e_cons (EM.d (g_var g (x := "two") (i := 6) (by kernel_rfl))) (e_cons (EM.d (g_var g (x := "three") (i := 7) (by kernel_rfl))) ea_nil)))) (e_cons (EM.d (em_tup (e_cons (EM.d (g_var g (x := "three") (i := 7) (by kernel_rfl))) (e_cons (EM.d (g_var g (x := "one") (i := 5) (by kernel_rfl))) ea_nil)))) ea_nil))))) (g_tt g (egs_cons (g_tn g (i := 9) (by kernel_rfl) (by kernel_rfl) (.inl (gS.fn _))) (egs_cons (g_tn g (i := 10) (by kernel_rfl) (by kernel_rfl) (.inl (gS.fn _))) egs_nil))) (ess_one (es_if (et_not (t_val (g_call g (c__law_two_right fx) (by kernel_rfl) (by kernel_rfl) (g_rf g (i := 2) (by kernel_rfl) (er_vl (g_var g (x := "make") (i := 4) (by kernel_rfl)) (er_vl (g_var g (x := "lock") (i := 9) (by kernel_rfl)) (er_vl (g_var g (x := "other") (i := 10) (by kernel_rfl)) er_nil)))) (by decide)))) (ess_one (es_ret em_bl)) ess_nil)))
    (ess_cons (g_par2 gS (i := 11) (j := 12) (by kernel_rfl) (by kernel_rfl) (by kernel_rfl) (by kernel_rfl) (by decide) (g_call g (c_both_locks fx) (by kernel_rfl) (by kernel_rfl) (er_vl (g_var g (x := "make") (i := 4) (by kernel_rfl)) (er_vl (g_var g (x := "one") (i := 5) (by kernel_rfl)) (er_vl (g_var g (x := "two") (i := 6) (by kernel_rfl)) er_nil))) (by decide)) (g_call g (c_both_locks fx) (by kernel_rfl) (by kernel_rfl) (er_vl (g_var g (x := "make") (i := 4) (by kernel_rfl)) (er_vl (g_var g (x := "two") (i := 6) (by kernel_rfl)) (er_vl (g_var g (x := "three") (i := 7) (by kernel_rfl)) er_nil))) (by decide)) (by intro env he; cases env; cases he; rfl))
    (ess_cons (g_set gS (i := 11) (by kernel_rfl) (by kernel_rfl) (em_ite (t_cmp (o_is g) (EM.d (g_var g (x := "left") (i := 11) (by kernel_rfl))) (EM.d em_non)) em_non (g_call g (c_both_locks fx) (by kernel_rfl) (by kernel_rfl) (er_vl (g_var g (x := "make") (i := 4) (by kernel_rfl)) (er_vl (g_var g (x := "left") (i := 11) (by kernel_rfl)) (er_vl (g_var g (x := "three") (i := 7) (by kernel_rfl)) er_nil))) (by decide))))
    (ess_cons (g_set gS (i := 12) (by kernel_rfl) (by kernel_rfl) (em_ite (t_cmp (o_is g) (EM.d (g_var g (x := "right") (i := 12) (by kernel_rfl))) (EM.d em_non)) em_non (g_call g (c_both_locks fx) (by kernel_rfl) (by kernel_rfl) (er_vl (g_var g (x := "make") (i := 4) (by kernel_rfl)) (er_vl (g_var g (x := "one") (i := 5) (by kernel_rfl)) (er_vl (g_var g (x := "right") (i := 12) (by kernel_rfl)) er_nil))) (by decide))))
    (ess_cons (es_if (EW.t (ew_or (et_not (t_val (g_call g (c__law_same fx) (by kernel_rfl) (by kernel_rfl) (er_vl (g_var g (x := "left") (i := 11) (by kernel_rfl)) (er_vl (g_var g (x := "right") (i := 12) (by kernel_rfl)) er_nil)) (by decide)))) (ew_or1 (EW.t (ew_and (t_val (g_call g (c_is_within_locks fx) (by kernel_rfl) (by kernel_rfl) (er_vl (g_var g (x := "make") (i := 4) (by kernel_rfl)) (er_vl (g_var g (x := "one") (i := 5) (by kernel_rfl)) (er_vl (g_var g (x := "two") (i := 6) (by kernel_rfl)) er_nil))) (by decide))) (ew_and (t_val (g_call g (c_is_within_locks fx) (by kernel_rfl) (by kernel_rfl) (er_vl (g_var g (x := "make") (i := 4) (by kernel_rfl)) (er_vl (g_var g (x := "two") (i := 6) (by kernel_rfl)) (er_vl (g_var g (x := "three") (i := 7) (by kernel_rfl)) er_nil))) (by decide))) (ew_and1 (et_not (t_val (g_call g (c_is_within_locks fx) (by kernel_rfl) (by kernel_rfl) (er_vl (g_var g (x := "make") (i := 4) (by kernel_rfl)) (er_vl (g_var g (x := "one") (i := 5) (by kernel_rfl)) (er_vl (g_var g (x := "three") (i := 7) (by kernel_rfl)) er_nil))) (by decide))))))))))) (ess_one (es_ret em_bl)) ess_nil)
    (ess_one (es_if (t_cmp (o_ne g) (EM.d (g_repr g fx.fr_repr (by kernel_rfl) (e_cons (EM.d (em_tup (e_cons (EM.d (g_var g (x := "one") (i := 5) (by kernel_rfl))) (e_cons (EM.d (g_var g (x := "two") (i := 6) (by kernel_rfl))) (e_cons (EM.d (g_var g (x := "three") (i := 7) (by kernel_rfl))) ea_nil))))) ea_nil))) (EM.d (g_var g (x := "kept") (i := 8) (by kernel_rfl)))) (ess_one (es_ret em_bl)) ess_nil))))))))))))))))
  (ess_one (es_ret em_bl)))
end K02
/-! # K02H -/
set_option Elab.async false
set_option linter.all false
set_option maxRecDepth 100000
set_option maxHeartbeats 0
namespace K02
open PySem PySem.Spec PyProof PyProof.Rows L2 ML
/-! ## the head -/
def fn0 : List He.DefD := [⟨("is_integer", none), "is_integer", "is_integer", defArgs (top 7), defBody (top 7), defScope (top 7), [], []⟩, ⟨("is_row", none), "is_row", "is_row", defArgs (top 10), defBody (top 10), defScope (top 10), [], []⟩, ⟨("is_ascending", none), "is_ascending", "is_ascending", defArgs (top 12), defBody (top 12), defScope (top 12), [], []⟩, ⟨("product_rows", none), "product_rows", "product_rows", defArgs (top 13), defBody (top 13), defScope (top 13), [], []⟩, ⟨("product_of", none), "product_of", "product_of", defArgs (top 14), defBody (top 14), defScope (top 14), [], []⟩, ⟨("does_open", none), "does_open", "does_open", defArgs (top 26), defBody (top 26), defScope (top 26), [], []⟩, ⟨("_law_source", none), "_law_source", "_law_source", defArgs (top 38), defBody (top 38), defScope (top 38), [], []⟩, ⟨("_law_take", none), "_law_take", "_law_take", defArgs (top 39), defBody (top 39), defScope (top 39), [], []⟩, ⟨("_law_same", none), "_law_same", "_law_same", defArgs (top 42), defBody (top 42), defScope (top 42), [], []⟩, ⟨("_law_put", none), "_law_put", "_law_put", defArgs (top 43), defBody (top 43), defScope (top 43), [], []⟩, ⟨("_law_opens", none), "_law_opens", "_law_opens", defArgs (top 47), defBody (top 47), defScope (top 47), [], []⟩, ⟨("_law_as_lock", none), "_law_as_lock", "_law_as_lock", defArgs (top 49), defBody (top 49), defScope (top 49), [], []⟩, ⟨("_law_both", none), "_law_both", "_law_both", defArgs (top 51), defBody (top 51), defScope (top 51), [], []⟩, ⟨("is_within_kinds", none), "is_within", "is_within", defArgs (top 8), defBody (top 8), defScope (top 8), [], []⟩, ⟨("key_count", none), "key_count", "key_count", defArgs (top 27), defBody (top 27), defScope (top 27), [], []⟩, ⟨("key_list", none), "key_list", "key_list", defArgs (top 28), defBody (top 28), defScope (top 28), [], []⟩, ⟨("_law_pick", none), "_law_pick", "_law_pick", defArgs (top 40), defBody (top 40), defScope (top 40), [], []⟩, ⟨("_law_mixed", none), "_law_mixed", "_law_mixed", defArgs (top 41), defBody (top 41), defScope (top 41), [], []⟩, ⟨("_law_make", none), "_law_make", "_law_make", defArgs (top 44), defBody (top 44), defScope (top 44), [], []⟩, ⟨("_law_cuts", none), "_law_cuts", "_law_cuts", defArgs (top 45), defBody (top 45), defScope (top 45), [], []⟩, ⟨("are_within", none), "are_within", "are_within", defArgs (top 11), defBody (top 11), defScope (top 11), [], []⟩, ⟨("is_make", none), "is_make", "is_make", defArgs (top 18), defBody (top 18), defScope (top 18), [], []⟩, ⟨("are_cuts", none), "are_cuts", "are_cuts", defArgs (top 21), defBody (top 21), defScope (top 21), [], []⟩, ⟨("_law_lock", none), "_law_lock", "_law_lock", defArgs (top 46), defBody (top 46), defScope (top 46), [], []⟩, ⟨("_law_turn", none), "_law_turn", "_law_turn", defArgs (top 48), defBody (top 48), defScope (top 48), [], []⟩, ⟨("need_make", none), "need_make", "need_make", defArgs (top 19), defBody (top 19), defScope (top 19), [], []⟩, ⟨("is_key_form", none), "is_key_form", "is_key_form", defArgs (top 20), defBody (top 20), defScope (top 20), [], []⟩, ⟨("is_lock_form", none), "is_lock_form", "is_lock_form", defArgs (top 22), defBody (top 22), defScope (top 22), [], []⟩, ⟨("need_key", none), "need_key", "need_key", defArgs (top 23), defBody (top 23), defScope (top 23), [], []⟩, ⟨("need_lock", none), "need_lock", "need_lock", defArgs (top 24), defBody (top 24), defScope (top 24), [], []⟩]
def fn1 : List He.DefD := [⟨("opens", none), "opens", "opens", defArgs (top 31), defBody (top 31), defScope (top 31), [], []⟩, ⟨("count_keys", none), "count_keys", "count_keys", defArgs (top 32), defBody (top 32), defScope (top 32), [], []⟩, ⟨("keys_of", none), "keys_of", "keys_of", defArgs (top 33), defBody (top 33), defScope (top 33), [], []⟩, ⟨("both_locks", none), "both_locks", "both_locks", defArgs (top 34), defBody (top 34), defScope (top 34), [], []⟩, ⟨("is_within_locks", none), "is_within", "is_within", defArgs (top 35), defBody (top 35), defScope (top 35), [], []⟩, ⟨("_law_refused", none), "_law_refused", "_law_refused", defArgs (top 50), defBody (top 50), defScope (top 50), [], []⟩, ⟨("_law_two_right", none), "_law_two_right", "_law_two_right", defArgs (top 52), defBody (top 52), defScope (top 52), [], []⟩, ⟨("law", none), "law", "law", defArgs (top 53), defBody (top 53), defScope (top 53), [], []⟩]
def fn : List He.DefD := fn0 ++ fn1
def fa0 : List He.Fa := [.free "all", .free "bool", .free "int", .free "isinstance", .free "len", .free "list", .free "max", .free "min", .free "range", .free "repr", .free "set", .free "sorted", .free "tuple", .free "zip", .int "MOST_CHAMBERS" 5, .int "MOST_DEPTHS" 5, .int "MOST_KEYS" 500, .exc "KeyedError", .glo "KeyedError", .exc "BadMake", .glo "BadMake", .exc "BadKey", .glo "BadKey", .exc "BadLock", .glo "BadLock", .exc "TooMany", .glo "TooMany", .glo "is_integer", .glo "is_row", .glo "is_ascending"]
def fa1 : List He.Fa := [.glo "product_rows", .glo "product_of", .glo "does_open", .glo "_law_source", .glo "_law_take", .glo "_law_same", .glo "_law_put", .glo "_law_opens", .glo "_law_as_lock", .glo "_law_both", .glo "is_within_kinds", .glo "key_count", .glo "key_list", .glo "_law_pick", .glo "_law_mixed", .glo "_law_make", .glo "_law_cuts", .glo "are_within", .glo "is_make", .glo "are_cuts", .glo "_law_lock", .glo "_law_turn", .glo "need_make", .glo "is_key_form", .glo "is_lock_form", .glo "need_key", .glo "need_lock", .glo "opens", .glo "count_keys", .glo "keys_of"]
def fa2 : List He.Fa := [.glo "both_locks", .glo "is_within_locks", .glo "_law_refused", .glo "_law_two_right", .glo "law"]
def fa : List He.Fa := fa0 ++ fa1 ++ fa2
def nm0 : List Str := ["KeyedError", "BadMake", "BadKey", "BadLock", "TooMany", "is_integer", "is_within", "is_within_kinds", "is_row", "are_within", "is_ascending", "product_rows", "product_of", "MOST_CHAMBERS", "MOST_DEPTHS", "is_make", "need_make", "is_key_form", "are_cuts", "is_lock_form", "need_key", "need_lock", "does_open", "key_count", "key_list", "MOST_KEYS", "opens", "count_keys", "keys_of", "both_locks"]
def nm1 : List Str := ["is_within_locks", "_law_source", "_law_take", "_law_pick", "_law_mixed", "_law_same", "_law_put", "_law_make", "_law_cuts", "_law_lock", "_law_opens", "_law_turn", "_law_as_lock", "_law_refused", "_law_both", "_law_two_right"]
def nm : List Str := nm0 ++ nm1
def gs : List (PySem.W.Frag → Bool) := [fun K => isiCB K "BadLock" tabC ex_BadLock, fun K => isiCB K "BadMake" tabC ex_BadMake, fun K => hitB K "KeyedError" hit_KeyedError]
abbrev R : PySem.W.OpenRow := PySem.W.OpenLaw.row PySem.Challenge.rw_keyedapart_k02_whole_locks_put_together
abbrev hk : PySem.W.Hook := hookM 4 fa fn gs
def ob (s : PySem.W.SharedT) : He.AlD := obsMG 4 fa fn gs (HandSHeadRun.getT s)
theorem ob_eq (s : PySem.W.SharedT) : ob s = hk.obs s.abs := obsMG_eq (HandSHeadRun.getT_eq s)
theorem run (w : World) : HandSHeadRun.RunEq R (PySem.W.view R.prog [53]) hk ob 3000 nm w := by
  intro os
  kernel_rfl
theorem fx_of {P : Program} {w : World} {K : PySem.W.Frag} {h base : Heap} {mg : Str → Option Value} (X : K.In h) (G : h.Ns mainGlobals mg) (c0 : SaysM fa fn gs K) : Fx ⟨P, w, K, mg, base⟩ := by
  obtain ⟨c, e⟩ := c0.d
  exact ⟨He.free_ok X G (c.fact 0 (f := .free "all") rfl), He.free_ok X G (c.fact 1 (f := .free "bool") rfl), He.free_ok X G (c.fact 2 (f := .free "int") rfl), He.free_ok X G (c.fact 3 (f := .free "isinstance") rfl), He.free_ok X G (c.fact 4 (f := .free "len") rfl), He.free_ok X G (c.fact 5 (f := .free "list") rfl), He.free_ok X G (c.fact 6 (f := .free "max") rfl), He.free_ok X G (c.fact 7 (f := .free "min") rfl), He.free_ok X G (c.fact 8 (f := .free "range") rfl), He.free_ok X G (c.fact 9 (f := .free "repr") rfl), He.free_ok X G (c.fact 10 (f := .free "set") rfl), He.free_ok X G (c.fact 11 (f := .free "sorted") rfl), He.free_ok X G (c.fact 12 (f := .free "tuple") rfl), He.free_ok X G (c.fact 13 (f := .free "zip") rfl), He.int_ok X G (c.fact 14 (f := .int "MOST_CHAMBERS" 5) rfl), He.int_ok X G (c.fact 15 (f := .int "MOST_DEPTHS" 5) rfl), He.int_ok X G (c.fact 16 (f := .int "MOST_KEYS" 500) rfl), (let e := He.exc_ok (c.fact 17 (f := .exc "KeyedError") rfl); ⟨e.1, e.2.1, e.2.2.1, e.2.2.2, He.glo_ok X G (c.fact 18 (f := .glo "KeyedError") rfl)⟩), (let e := He.exc_ok (c.fact 19 (f := .exc "BadMake") rfl); ⟨e.1, e.2.1, e.2.2.1, e.2.2.2, He.glo_ok X G (c.fact 20 (f := .glo "BadMake") rfl)⟩), (let e := He.exc_ok (c.fact 21 (f := .exc "BadKey") rfl); ⟨e.1, e.2.1, e.2.2.1, e.2.2.2, He.glo_ok X G (c.fact 22 (f := .glo "BadKey") rfl)⟩), (let e := He.exc_ok (c.fact 23 (f := .exc "BadLock") rfl); ⟨e.1, e.2.1, e.2.2.1, e.2.2.2, He.glo_ok X G (c.fact 24 (f := .glo "BadLock") rfl)⟩), (let e := He.exc_ok (c.fact 25 (f := .exc "TooMany") rfl); ⟨e.1, e.2.1, e.2.2.1, e.2.2.2, He.glo_ok X G (c.fact 26 (f := .glo "TooMany") rfl)⟩), e _ (List.mem_of_getElem? (show gs[0]? = some _ from rfl)), e _ (List.mem_of_getElem? (show gs[1]? = some _ from rfl)), e _ (List.mem_of_getElem? (show gs[2]? = some _ from rfl)), (let ⟨fd, F⟩ := c.def_ 0 (d := ⟨("is_integer", none), "is_integer", "is_integer", defArgs (top 7), defBody (top 7), defScope (top 7), [], []⟩) rfl; ⟨fd, F, He.glo_ok X G (c.fact 27 (f := .glo "is_integer") rfl)⟩), (let ⟨fd, F⟩ := c.def_ 1 (d := ⟨("is_row", none), "is_row", "is_row", defArgs (top 10), defBody (top 10), defScope (top 10), [], []⟩) rfl; ⟨fd, F, He.glo_ok X G (c.fact 28 (f := .glo "is_row") rfl)⟩), (let ⟨fd, F⟩ := c.def_ 2 (d := ⟨("is_ascending", none), "is_ascending", "is_ascending", defArgs (top 12), defBody (top 12), defScope (top 12), [], []⟩) rfl; ⟨fd, F, He.glo_ok X G (c.fact 29 (f := .glo "is_ascending") rfl)⟩), (let ⟨fd, F⟩ := c.def_ 3 (d := ⟨("product_rows", none), "product_rows", "product_rows", defArgs (top 13), defBody (top 13), defScope (top 13), [], []⟩) rfl; ⟨fd, F, He.glo_ok X G (c.fact 30 (f := .glo "product_rows") rfl)⟩), (let ⟨fd, F⟩ := c.def_ 4 (d := ⟨("product_of", none), "product_of", "product_of", defArgs (top 14), defBody (top 14), defScope (top 14), [], []⟩) rfl; ⟨fd, F, He.glo_ok X G (c.fact 31 (f := .glo "product_of") rfl)⟩), (let ⟨fd, F⟩ := c.def_ 5 (d := ⟨("does_open", none), "does_open", "does_open", defArgs (top 26), defBody (top 26), defScope (top 26), [], []⟩) rfl; ⟨fd, F, He.glo_ok X G (c.fact 32 (f := .glo "does_open") rfl)⟩), (let ⟨fd, F⟩ := c.def_ 6 (d := ⟨("_law_source", none), "_law_source", "_law_source", defArgs (top 38), defBody (top 38), defScope (top 38), [], []⟩) rfl; ⟨fd, F, He.glo_ok X G (c.fact 33 (f := .glo "_law_source") rfl)⟩), (let ⟨fd, F⟩ := c.def_ 7 (d := ⟨("_law_take", none), "_law_take", "_law_take", defArgs (top 39), defBody (top 39), defScope (top 39), [], []⟩) rfl; ⟨fd, F, He.glo_ok X G (c.fact 34 (f := .glo "_law_take") rfl)⟩), (let ⟨fd, F⟩ := c.def_ 8 (d := ⟨("_law_same", none), "_law_same", "_law_same", defArgs (top 42), defBody (top 42), defScope (top 42), [], []⟩) rfl; ⟨fd, F, He.glo_ok X G (c.fact 35 (f := .glo "_law_same") rfl)⟩), (let ⟨fd, F⟩ := c.def_ 9 (d := ⟨("_law_put", none), "_law_put", "_law_put", defArgs (top 43), defBody (top 43), defScope (top 43), [], []⟩) rfl; ⟨fd, F, He.glo_ok X G (c.fact 36 (f := .glo "_law_put") rfl)⟩), (let ⟨fd, F⟩ := c.def_ 10 (d := ⟨("_law_opens", none), "_law_opens", "_law_opens", defArgs (top 47), defBody (top 47), defScope (top 47), [], []⟩) rfl; ⟨fd, F, He.glo_ok X G (c.fact 37 (f := .glo "_law_opens") rfl)⟩), (let ⟨fd, F⟩ := c.def_ 11 (d := ⟨("_law_as_lock", none), "_law_as_lock", "_law_as_lock", defArgs (top 49), defBody (top 49), defScope (top 49), [], []⟩) rfl; ⟨fd, F, He.glo_ok X G (c.fact 38 (f := .glo "_law_as_lock") rfl)⟩), (let ⟨fd, F⟩ := c.def_ 12 (d := ⟨("_law_both", none), "_law_both", "_law_both", defArgs (top 51), defBody (top 51), defScope (top 51), [], []⟩) rfl; ⟨fd, F, He.glo_ok X G (c.fact 39 (f := .glo "_law_both") rfl)⟩), (let ⟨fd, F⟩ := c.def_ 13 (d := ⟨("is_within_kinds", none), "is_within", "is_within", defArgs (top 8), defBody (top 8), defScope (top 8), [], []⟩) rfl; ⟨fd, F, He.glo_ok X G (c.fact 40 (f := .glo "is_within_kinds") rfl)⟩), (let ⟨fd, F⟩ := c.def_ 14 (d := ⟨("key_count", none), "key_count", "key_count", defArgs (top 27), defBody (top 27), defScope (top 27), [], []⟩) rfl; ⟨fd, F, He.glo_ok X G (c.fact 41 (f := .glo "key_count") rfl)⟩), (let ⟨fd, F⟩ := c.def_ 15 (d := ⟨("key_list", none), "key_list", "key_list", defArgs (top 28), defBody (top 28), defScope (top 28), [], []⟩) rfl; ⟨fd, F, He.glo_ok X G (c.fact 42 (f := .glo "key_list") rfl)⟩), (let ⟨fd, F⟩ := c.def_ 16 (d := ⟨("_law_pick", none), "_law_pick", "_law_pick", defArgs (top 40), defBody (top 40), defScope (top 40), [], []⟩) rfl; ⟨fd, F, He.glo_ok X G (c.fact 43 (f := .glo "_law_pick") rfl)⟩), (let ⟨fd, F⟩ := c.def_ 17 (d := ⟨("_law_mixed", none), "_law_mixed", "_law_mixed", defArgs (top 41), defBody (top 41), defScope (top 41), [], []⟩) rfl; ⟨fd, F, He.glo_ok X G (c.fact 44 (f := .glo "_law_mixed") rfl)⟩), (let ⟨fd, F⟩ := c.def_ 18 (d := ⟨("_law_make", none), "_law_make", "_law_make", defArgs (top 44), defBody (top 44), defScope (top 44), [], []⟩) rfl; ⟨fd, F, He.glo_ok X G (c.fact 45 (f := .glo "_law_make") rfl)⟩), (let ⟨fd, F⟩ := c.def_ 19 (d := ⟨("_law_cuts", none), "_law_cuts", "_law_cuts", defArgs (top 45), defBody (top 45), defScope (top 45), [], []⟩) rfl; ⟨fd, F, He.glo_ok X G (c.fact 46 (f := .glo "_law_cuts") rfl)⟩), (let ⟨fd, F⟩ := c.def_ 20 (d := ⟨("are_within", none), "are_within", "are_within", defArgs (top 11), defBody (top 11), defScope (top 11), [], []⟩) rfl; ⟨fd, F, He.glo_ok X G (c.fact 47 (f := .glo "are_within") rfl)⟩), (let ⟨fd, F⟩ := c.def_ 21 (d := ⟨("is_make", none), "is_make", "is_make", defArgs (top 18), defBody (top 18), defScope (top 18), [], []⟩) rfl; ⟨fd, F, He.glo_ok X G (c.fact 48 (f := .glo "is_make") rfl)⟩), (let ⟨fd, F⟩ := c.def_ 22 (d := ⟨("are_cuts", none), "are_cuts", "are_cuts", defArgs (top 21), defBody (top 21), defScope (top 21), [], []⟩) rfl; ⟨fd, F, He.glo_ok X G (c.fact 49 (f := .glo "are_cuts") rfl)⟩), (let ⟨fd, F⟩ := c.def_ 23 (d := ⟨("_law_lock", none), "_law_lock", "_law_lock", defArgs (top 46), defBody (top 46), defScope (top 46), [], []⟩) rfl; ⟨fd, F, He.glo_ok X G (c.fact 50 (f := .glo "_law_lock") rfl)⟩), (let ⟨fd, F⟩ := c.def_ 24 (d := ⟨("_law_turn", none), "_law_turn", "_law_turn", defArgs (top 48), defBody (top 48), defScope (top 48), [], []⟩) rfl; ⟨fd, F, He.glo_ok X G (c.fact 51 (f := .glo "_law_turn") rfl)⟩), (let ⟨fd, F⟩ := c.def_ 25 (d := ⟨("need_make", none), "need_make", "need_make", defArgs (top 19), defBody (top 19), defScope (top 19), [], []⟩) rfl; ⟨fd, F, He.glo_ok X G (c.fact 52 (f := .glo "need_make") rfl)⟩), (let ⟨fd, F⟩ := c.def_ 26 (d := ⟨("is_key_form", none), "is_key_form", "is_key_form", defArgs (top 20), defBody (top 20), defScope (top 20), [], []⟩) rfl; ⟨fd, F, He.glo_ok X G (c.fact 53 (f := .glo "is_key_form") rfl)⟩), (let ⟨fd, F⟩ := c.def_ 27 (d := ⟨("is_lock_form", none), "is_lock_form", "is_lock_form", defArgs (top 22), defBody (top 22), defScope (top 22), [], []⟩) rfl; ⟨fd, F, He.glo_ok X G (c.fact 54 (f := .glo "is_lock_form") rfl)⟩), (let ⟨fd, F⟩ := c.def_ 28 (d := ⟨("need_key", none), "need_key", "need_key", defArgs (top 23), defBody (top 23), defScope (top 23), [], []⟩) rfl; ⟨fd, F, He.glo_ok X G (c.fact 55 (f := .glo "need_key") rfl)⟩), (let ⟨fd, F⟩ := c.def_ 29 (d := ⟨("need_lock", none), "need_lock", "need_lock", defArgs (top 24), defBody (top 24), defScope (top 24), [], []⟩) rfl; ⟨fd, F, He.glo_ok X G (c.fact 56 (f := .glo "need_lock") rfl)⟩), (let ⟨fd, F⟩ := c.def_ 30 (d := ⟨("opens", none), "opens", "opens", defArgs (top 31), defBody (top 31), defScope (top 31), [], []⟩) rfl; ⟨fd, F, He.glo_ok X G (c.fact 57 (f := .glo "opens") rfl)⟩), (let ⟨fd, F⟩ := c.def_ 31 (d := ⟨("count_keys", none), "count_keys", "count_keys", defArgs (top 32), defBody (top 32), defScope (top 32), [], []⟩) rfl; ⟨fd, F, He.glo_ok X G (c.fact 58 (f := .glo "count_keys") rfl)⟩), (let ⟨fd, F⟩ := c.def_ 32 (d := ⟨("keys_of", none), "keys_of", "keys_of", defArgs (top 33), defBody (top 33), defScope (top 33), [], []⟩) rfl; ⟨fd, F, He.glo_ok X G (c.fact 59 (f := .glo "keys_of") rfl)⟩), (let ⟨fd, F⟩ := c.def_ 33 (d := ⟨("both_locks", none), "both_locks", "both_locks", defArgs (top 34), defBody (top 34), defScope (top 34), [], []⟩) rfl; ⟨fd, F, He.glo_ok X G (c.fact 60 (f := .glo "both_locks") rfl)⟩), (let ⟨fd, F⟩ := c.def_ 34 (d := ⟨("is_within_locks", none), "is_within", "is_within", defArgs (top 35), defBody (top 35), defScope (top 35), [], []⟩) rfl; ⟨fd, F, He.glo_ok X G (c.fact 61 (f := .glo "is_within_locks") rfl)⟩), (let ⟨fd, F⟩ := c.def_ 35 (d := ⟨("_law_refused", none), "_law_refused", "_law_refused", defArgs (top 50), defBody (top 50), defScope (top 50), [], []⟩) rfl; ⟨fd, F, He.glo_ok X G (c.fact 62 (f := .glo "_law_refused") rfl)⟩), (let ⟨fd, F⟩ := c.def_ 36 (d := ⟨("_law_two_right", none), "_law_two_right", "_law_two_right", defArgs (top 52), defBody (top 52), defScope (top 52), [], []⟩) rfl; ⟨fd, F, He.glo_ok X G (c.fact 63 (f := .glo "_law_two_right") rfl)⟩), (let ⟨fd, F⟩ := c.def_ 37 (d := ⟨("law", none), "law", "law", defArgs (top 53), defBody (top 53), defScope (top 53), [], []⟩) rfl; ⟨fd, F, He.glo_ok X G (c.fact 64 (f := .glo "law") rfl)⟩)⟩
theorem holds (good : ∀ ns : List Int, ns.length ≤ 63 → ∃ ρ, f_law [some (.scr ns)] = .ok (.val (.bool true)) ρ) : PySem.Challenge.rw_keyedapart_k02_whole_locks_put_together.Holds := by
  w_on
  o_law
  refine HandSHeadRun.head_any (r := PySem.W.OpenLaw.row PySem.Challenge.rw_keyedapart_k02_whole_locks_put_together) (q := PySem.W.view (PySem.W.OpenLaw.row PySem.Challenge.rw_keyedapart_k02_whole_locks_put_together).prog [53]) (H := hk) (ob := ob) (M := 3000) (loose := nm) (d := HandSHeadRun.topDef (PySem.W.OpenLaw.row PySem.Challenge.rw_keyedapart_k02_whole_locks_put_together).prog 53) (kwd := []) ob_eq
    (by kernel_rfl) (fun s => by kernel_rfl) run (by kernel_rfl) (by kernel_rfl) (by kernel_rfl) (by rfl) (by first | assumption | decide +kernel) (by decide +kernel) ⟨rfl, rfl, rfl, rfl, rfl, by decide +kernel⟩ ?hw ?hc
  case hw => w_witness2
  case hc =>
    refine walkG (l := PySem.Challenge.rw_keyedapart_k02_whole_locks_put_together) (n := 63) (k := 9) (x := "script") (fn := f_law) rfl (by decide) (by kernel_rfl) ⟨rfl, by decide, by decide⟩ ?F good
    intro w mg fa h Y G hmg0
    obtain ⟨K, KX, c⟩ := Y
    have hmg : mg ("law" : Str) = some (.ref fa) := by
      have e : (HandSHeadRun.topDef (PySem.W.OpenLaw.row PySem.Challenge.rw_keyedapart_k02_whole_locks_put_together).prog 53).name = ("law" : Str) := by kernel_rfl
      rw [← e]
      exact hmg0
    have fx0 : Fx ⟨PySem.Challenge.pw_keyedapart_k02_whole_locks_put_together, w, K, mg, h⟩ := fx_of KX G c
    obtain ⟨fd, F, hm⟩ := fx0.d_law
    have ea := hmg.symm.trans hm
    cases ea
    have b := FunD.bindsA (ps := ["script"]) F fun _ _ _ _ _ _ us hl => match us, hl with | [_], _ => rfl
    exact ⟨K, fd, KX, fun s v => b s [v] rfl, fun base _ _ => fnG_of (G := ⟨PySem.Challenge.pw_keyedapart_k02_whole_locks_put_together, w, K, mg, base⟩) F sc_law rfl (w_law (fx_of KX G c))⟩
end K02
/-! # ML20 -/
set_option Elab.async false
set_option linter.all false
set_option maxRecDepth 100000
namespace ML
open PySem
/-! ## the plain side: what the pieces compute -/
section
variable {ρ : Env'}
@[simp] theorem ev_C {d : PyData} : mC d ρ = .ok (.val d) ρ := rfl
@[simp] theorem ev_Var {i : Nat} : mVar i ρ = match ρ[i]? with
  | some (some (.val d)) => .ok (.val d) ρ
  | some (some (.exc c fs)) => .ok (.exc c fs) ρ
  | some (some (.scr ns)) => .ok (.scr ns) ρ
  | some (some (.lst ds)) => .ok (.val (.list ds)) (ρ.set i (some (.val (.list ds))))
  | _ => .bad := rfl
@[simp] theorem ev_asD {m : Mn B} : asD m ρ = (m ρ).bind fun b ρ' => Res.of b.fz ρ' := rfl
@[simp] theorem ev_asV {m : Mn B} : asV m ρ = (m ρ).bind fun b ρ' => .ok (frz b) ρ' := rfl
@[simp] theorem ev_fz_val {d : PyData} : (B.val d).fz = some d := rfl
@[simp] theorem ev_fz_lst {ds : List PyData} : (B.lst ds).fz = some (.list ds) := rfl
@[simp] theorem ev_frz_val {d : PyData} : frz (.val d) = .val d := rfl
@[simp] theorem ev_frz_lst {ds : List PyData} : frz (.lst ds) = .val (.list ds) := rfl
@[simp] theorem ev_frz_exc {c fs} : frz (.exc c fs) = .exc c fs := rfl
@[simp] theorem ev_frz_scr {ns} : frz (.scr ns) = .scr ns := rfl
@[simp] theorem ev_m2 {g : G2} {a b : Mn PyData} : m2 g a b ρ = (a ρ).bind fun d ρ1 => (b ρ1).bind fun e ρ2 => Res.of (g d e) ρ2 := rfl
@[simp] theorem ev_m1 {g : G1} {a : Mn PyData} : m1 g a ρ = (a ρ).bind fun d ρ1 => Res.of (g d) ρ1 := rfl
@[simp] theorem ev_mA {g : GA} {a : Mn (List PyData)} : mA g a ρ = (a ρ).bind fun d ρ1 => Res.of (g d) ρ1 := rfl
@[simp] theorem gEqS_int {i j : Int} : gEqS (.int i) (.int j) = gEq (.int i) (.int j) := rfl
@[simp] theorem gNeS_int {i j : Int} : gNeS (.int i) (.int j) = gNe (.int i) (.int j) := rfl
@[simp] theorem gEqS_lst {i j} : gEqS (.list i) (.list j) = gEq (.list i) (.list j) := rfl
@[simp] theorem gNeS_lst {i j} : gNeS (.list i) (.list j) = gNe (.list i) (.list j) := rfl
@[simp] theorem gNeS_bool {i j} : gNeS (.bool i) (.bool j) = gNe (.bool i) (.bool j) := rfl
@[simp] theorem ev_Nil : mNil ρ = .ok [] ρ := rfl
@[simp] theorem ev_Cons {a : Mn PyData} {b : Mn (List PyData)} : mCons a b ρ = (a ρ).bind fun d ρ1 => (b ρ1).bind fun ds ρ2 => .ok (d :: ds) ρ2 := rfl
@[simp] theorem ev_asT {m : Mn B} : asT m ρ = (asD m ρ).bind fun d ρ' => Res.of (truth d) ρ' := rfl
@[simp] theorem ev_truth_bool {b : Bool} : truth (.bool b) = some b := rfl
@[simp] theorem ev_Chn {g g' : G2} {a b c : Mn PyData} : mChn g g' a b c ρ = (a ρ).bind fun d ρ1 => (b ρ1).bind fun e ρ2 => match g d e with
  | some (.val (.bool true)) => (c ρ2).bind fun f ρ3 => Res.of (g' e f) ρ3
  | some (.val (.bool false)) => .ok (.val (.bool false)) ρ2
  | _ => .bad := rfl
@[simp] theorem ev_asK {m : Mn B} : asK m ρ = (m ρ).bind fun b ρ' => match b with
  | .val (.bool k) => .ok k ρ'
  | _ => .bad := rfl
@[simp] theorem ev_And {a b : Mn B} : mAnd a b ρ = (asK a ρ).bind fun k ρ1 => if k = true then b ρ1 else .ok (.val (.bool false)) ρ1 := rfl
@[simp] theorem ev_Or {a b : Mn B} : mOr a b ρ = (asK a ρ).bind fun k ρ1 => if k = true then .ok (.val (.bool true)) ρ1 else b ρ1 := rfl
@[simp] theorem ev_Not {a : Mn Bool} : mNot a ρ = (a ρ).bind fun k ρ1 => .ok (.val (.bool (!k))) ρ1 := rfl
@[simp] theorem ev_If {c : Mn Bool} {a b : Mn B} : mIf c a b ρ = (c ρ).bind fun k ρ1 => if k = true then a ρ1 else b ρ1 := rfl
@[simp] theorem ev_tAnd {a b : Mn Bool} : tAndM a b ρ = (a ρ).bind fun k ρ1 => if k = true then b ρ1 else .ok false ρ1 := rfl
@[simp] theorem ev_tOr {a b : Mn Bool} : tOrM a b ρ = (a ρ).bind fun k ρ1 => if k = true then .ok true ρ1 else b ρ1 := rfl
@[simp] theorem ev_tNot {a : Mn Bool} : tNotM a ρ = (a ρ).bind fun k ρ1 => .ok (!k) ρ1 := rfl
@[simp] theorem ev_Yes : mYes ρ = .ok true ρ := rfl
@[simp] theorem ev_Tup {a : Mn (List PyData)} : mTup a ρ = (a ρ).bind fun ds ρ1 => if ds.length ≤ 4096 then .ok (.val (.tuple ds)) ρ1 else .bad := rfl
@[simp] theorem ev_Lst {a : Mn (List PyData)} : mLst a ρ = (a ρ).bind fun ds ρ1 => if ds.length ≤ 4096 then .ok (.lst ds) ρ1 else .bad := rfl
@[simp] theorem ev_Onone : mO none ρ = .ok none ρ := rfl
@[simp] theorem ev_Osome {m : Mn PyData} : mO (some m) ρ = (m ρ).bind fun d ρ1 => match d with
  | .int i => .ok (some i) ρ1
  | _ => .bad := rfl
@[simp] theorem ev_Sl {a : Mn PyData} {lo hi : Mn (Option Int)} : mSl a lo hi ρ = (a ρ).bind fun d ρ1 => (lo ρ1).bind fun lo ρ2 => (hi ρ2).bind fun hi ρ3 => Res.of (gSl d lo hi) ρ3 := rfl
@[simp] theorem ev_args0 : mArgs [] ρ = .ok [] ρ := rfl
@[simp] theorem ev_argsR {i : Nat} {as : List Ar} : mArgs (.rf i :: as) ρ = match ρ[i]? with
    | some (some _) => (mArgs as ρ).bind fun bs ρ1 => .ok (none :: bs) ρ1
    | _ => .bad := rfl
@[simp] theorem ev_argsV {m : Mn B} {as : List Ar} : mArgs (.vl m :: as) ρ = (asV m ρ).bind fun b ρ1 => (mArgs as ρ1).bind fun bs ρ2 => .ok (some b :: bs) ρ2 := rfl
@[simp] theorem ev_fill0 : fillA [] [] ρ = [] := rfl
@[simp] theorem ev_fillR {i : Nat} {as : List Ar} {b bs} : fillA (.rf i :: as) (b :: bs) ρ = (ρ[i]?).join :: fillA as bs ρ := rfl
@[simp] theorem ev_fillV {m : Mn B} {as : List Ar} {b bs} : fillA (.vl m :: as) (b :: bs) ρ = b :: fillA as bs ρ := rfl
@[simp] theorem ev_back0 {xs : Env'} : backA [] xs ρ = ρ := by cases xs <;> rfl
@[simp] theorem ev_backR {i : Nat} {as : List Ar} {x} {xs : Env'} : backA (.rf i :: as) (x :: xs) ρ = backA as xs (ρ.set i x) := rfl
@[simp] theorem ev_backV {m : Mn B} {as : List Ar} {x} {xs : Env'} : backA (.vl m :: as) (x :: xs) ρ = backA as xs ρ := rfl
/-- what the caller sees of a callee's end -/
def backR (as : List Ar) (ρ1 : Env') (r : Res B) : Res B := match r with
  | .ok b ρf => .ok b (backA as ρf ρ1)
  | .exc c fs ρf => .exc c fs (backA as ρf ρ1)
  | .bad => .bad
@[simp] theorem backR_ok {as : List Ar} {ρ1 : Env'} {b} {ρf : Env'} : backR as ρ1 (.ok b ρf) = .ok b (backA as ρf ρ1) := rfl
@[simp] theorem backR_exc {as : List Ar} {ρ1 : Env'} {c fs} {ρf : Env'} : backR as ρ1 (.exc c fs ρf) = .exc c fs (backA as ρf ρ1) := rfl
@[simp] theorem ev_Call {fn : Fn} {as : List Ar} : mCall fn as ρ = (mArgs as ρ).bind fun bs ρ1 => backR as ρ1 (fn (fillA as bs ρ1)) := rfl
def backK (ρ1 : Env') (r : Res B) : Res B := match r with
  | .ok b _ => .ok b ρ1
  | .exc c fs _ => .exc c fs ρ1
  | .bad => .bad
@[simp] theorem backK_ok {ρ1 : Env'} {b} {ρf : Env'} : backK ρ1 (.ok b ρf) = .ok b ρ1 := rfl
@[simp] theorem backK_exc {ρ1 : Env'} {c fs} {ρf : Env'} : backK ρ1 (.exc c fs ρf) = .exc c fs ρ1 := rfl
@[simp] theorem ev_CallK {fn : Fn} {as : List Ar} {perm : List Nat} : mCallK fn as perm ρ = (mArgs as ρ).bind fun bs ρ1 => backK ρ1 (fn (pick perm bs)) := rfl
@[simp] theorem ev_IdxV {i : Nat} {m : Mn PyData} : mIdxV i m ρ = match ρ[i]? with
  | some (some _) => (m ρ).bind fun kd ρ1 => match ρ1[i]? with
    | some (some b) => match b.fz with
      | some d => Res.of (gIdx d kd) ρ1
      | none => .bad
    | _ => .bad
  | _ => .bad := rfl
@[simp] theorem ev_LenV {i : Nat} : mLenV i ρ = match ρ[i]? with
  | some (some b) => match b.fz with
    | some d => Res.of (gLen [d]) ρ
    | none => match b with
      | .scr ns => .ok (.val (.int ns.length)) ρ
      | _ => .bad
  | _ => .bad := rfl
@[simp] theorem ev_Isi {tab ex} {m : Mn B} : mIsi tab ex m ρ = (asV m ρ).bind fun b ρ1 => match isiF tab ex b with
  | some k => .ok (.val (.bool k)) ρ1
  | none => .bad := rfl
@[simp] theorem ev_It {m : Mn B} : mIt m ρ = (asD m ρ).bind fun d ρ1 => Res.of (itList d) ρ1 := rfl
@[simp] theorem ev_Zip {a : Mn (List PyData)} : mZip a ρ = (a ρ).bind fun ds ρ1 => match ds with
  | [.list xs, .list ys] => .ok (zipD xs ys) ρ1
  | [.tuple xs, .tuple ys] => .ok (zipD xs ys) ρ1
  | _ => .bad := rfl
@[simp] theorem ev_Rg1 {a : Mn (List PyData)} : mRg1 a ρ = (a ρ).bind fun ds ρ1 => match ds with
  | [.int j] => if -(2 ^ 62) ≤ j ∧ j < 2 ^ 62 then .ok (rgD 0 j.toNat) ρ1 else .bad
  | _ => .bad := rfl
@[simp] theorem ev_LRg1 {m : Mn PyData} : mLRg1 m ρ = (m ρ).bind fun d ρ1 => match d with
  | .int n => if rgOkB 0 n = true then .ok (.lst (rgI 0 n)) ρ1 else .bad
  | _ => .bad := rfl
@[simp] theorem ev_TRg1 {m : Mn PyData} : mTRg1 m ρ = (m ρ).bind fun d ρ1 => match d with
  | .int n => if rgOkB 0 n = true then .ok (.val (.tuple (rgI 0 n))) ρ1 else .bad
  | _ => .bad := rfl
@[simp] theorem ev_Lc {mi : Mn (List PyData)} {bnd : Bd} {mt : Mn Bool} {me : Mn PyData} {vs : List Nat} : mLc mi bnd mt me vs ρ = (mi ρ).bind fun ds ρ1 => if ownPlain vs ρ1 = true then calmR (loopC bnd mt me vs ds [] (wipeE ρ1 vs)) fun acc ρ2 => .ok (.lst acc) (restE ρ1 vs ρ2) else .bad := rfl
@[simp] theorem ev_Lc2 {mi mi1 : Mn (List PyData)} {bnd bnd1 : Bd} {mt mt1 : Mn Bool} {me : Mn PyData} {vs vs1 : List Nat} : mLc2 mi bnd mt mi1 bnd1 mt1 me vs vs1 ρ = (mi ρ).bind fun ds ρ1 => if ownPlain vs ρ1 = true then calmR (loopC2 bnd mt mi1 bnd1 mt1 me vs vs1 ds [] (wipeE ρ1 vs)) fun acc ρ2 => .ok (.lst acc) (restE ρ1 vs ρ2) else .bad := rfl
@[simp] theorem ev_calm {α : Type} {a : α} {k : α → Env' → Res B} : calmR (.ok a ρ) k = k a ρ := rfl
@[simp] theorem ev_bName {i : Nat} {d : PyData} : bName i d ρ = some (ρ.set i (some (.val d))) := rfl
@[simp] theorem ev_bNil : bNil [] ρ = some ρ := rfl
@[simp] theorem ev_bCons {b : Bd} {bs : Bds} {d : PyData} {ds : List PyData} : bCons b bs (d :: ds) ρ = (b d ρ).bind (bs ds) := rfl
@[simp] theorem ev_bTup {n : Nat} {bs : Bds} {ds : List PyData} : bTup n bs (.tuple ds) ρ = if ds.length = n then bs ds ρ else none := rfl
@[simp] theorem ev_wipe0 : wipeE ρ [] = ρ := rfl
@[simp] theorem ev_wipe1 {v : Nat} {vs : List Nat} : wipeE ρ (v :: vs) = (wipeE ρ vs).set v none := rfl
@[simp] theorem ev_rest0 {ρ0 : Env'} : restE ρ0 [] ρ = ρ := rfl
@[simp] theorem ev_rest1 {ρ0 : Env'} {v : Nat} {vs : List Nat} : restE ρ0 (v :: vs) ρ = (restE ρ0 vs ρ).set v (ρ0[v]?).join := rfl
@[simp] theorem ev_own0 : ownPlain [] ρ = true := rfl
@[simp] theorem ev_own1 {v : Nat} {vs : List Nat} : ownPlain (v :: vs) ρ = (plainB (ρ[v]?).join && ownPlain vs ρ) := rfl
@[simp] theorem ev_pb0 : plainB none = true := rfl
@[simp] theorem ev_pb1 {d} : plainB (some (.val d)) = true := rfl
@[simp] theorem ev_pb2 {c fs} : plainB (some (.exc c fs)) = true := rfl
@[simp] theorem ev_pb3 {ds} : plainB (some (.lst ds)) = false := rfl
-- statements
@[simp] theorem ev_sNil : sNil ρ = .nx ρ := rfl
@[simp] theorem ev_sSeq {a b : Sm} : sSeq a b ρ = (a ρ).seq b := rfl
@[simp] theorem ev_sExp {m : Mn B} : sExp m ρ = (asV m ρ).go fun _ ρ1 => .nx ρ1 := rfl
@[simp] theorem ev_sRet {m : Mn B} : sRet m ρ = (m ρ).go fun b ρ1 => .rt b ρ1 := rfl
@[simp] theorem ev_sRetV {i : Nat} : sRetV i ρ = match ρ[i]? with
  | some (some (.lst ds)) => .rt (.lst ds) (ρ.set i none)
  | some (some b) => .rt b ρ
  | _ => .bad := rfl
@[simp] theorem ev_sIf {c : Mn Bool} {a b : Sm} : sIf c a b ρ = (c ρ).go fun k ρ1 => if k = true then a ρ1 else b ρ1 := rfl
@[simp] theorem ev_sSet {i : Nat} {m : Mn B} : sSet i m ρ = (m ρ).go fun b ρ1 => .nx (ρ1.set i (some b)) := rfl
@[simp] theorem ev_sFor {mi : Mn (List PyData)} {bnd : Bd} {body : Sm} : sFor mi bnd body ρ = (mi ρ).go fun ds ρ1 => loopS bnd body ds ρ1 := rfl
@[simp] theorem ev_sPar2 {i j : Nat} {a b : Mn B} : sPar2 i j a b ρ = (a ρ).go fun b1 ρ1 => (b ρ1).go fun b2 ρ2 => .nx ((ρ2.set j (some b2)).set i (some b1)) := rfl
@[simp] theorem ev_sPar3 {i j l : Nat} {a b c : Mn B} : sPar3 i j l a b c ρ = (a ρ).go fun b1 ρ1 => (b ρ1).go fun b2 ρ2 => (c ρ2).go fun b3 ρ3 => .nx (((ρ3.set l (some b3)).set j (some b2)).set i (some b1)) := rfl
@[simp] theorem ev_sRaise {c : Str} : sRaise c ρ = .exc c [] ρ := rfl
@[simp] theorem ev_append {i : Nat} {m : Mn PyData} : mAppend i m ρ = if isL ρ i = true then (m ρ).bind fun d ρ1 => match ρ1[i]? with
  | some (some (.lst ds)) => if ds.length < 16777216 then .ok (.val .none) (ρ1.set i (some (.lst (ds ++ [d])))) else .bad
  | _ => .bad else .bad := rfl
@[simp] theorem ev_popAt {i : Nat} {m : Mn PyData} : mPopAt i m ρ = if isL ρ i = true then (m ρ).bind fun kd ρ1 => match ρ1[i]?, kd with
  | some (some (.lst ds)), .int k => if 0 ≤ k ∧ k < 2 ^ 62 then match ds[k.toNat]? with
      | some d => .ok (.val d) (ρ1.set i (some (.lst (ds.eraseIdx k.toNat))))
      | none => .bad
    else .bad
  | _, _ => .bad else .bad := rfl
@[simp] theorem ev_isL {i : Nat} : isL ρ i = match ρ[i]? with
  | some (some (.lst _)) => true
  | _ => false := rfl
@[simp] theorem ev_sSub {i : Nat} {mk me : Mn PyData} : sSub i mk me ρ = (me ρ).go fun d ρ1 => if isL ρ1 i = true then (mk ρ1).go fun kd ρ2 => match ρ2[i]?, kd with
  | some (some (.lst ds)), .int k => match L2.ixN ds.length k with
    | some j => .nx (ρ2.set i (some (.lst (ds.set j d))))
    | none => .bad
  | _, _ => .bad else .bad := rfl
@[simp] theorem ev_scr {i : Nat} {m : Mn PyData} : mScr i m ρ = match ρ[i]? with
  | some (some (.scr ns)) => (m ρ).bind fun kd ρ1 => match kd with
    | .int k => Res.of ((L2.atI ns k).map fun n => .val (.int n)) ρ1
    | _ => .bad
  | _ => .bad := rfl
-- defs
def outR (pr : List Bool) (ρ : Env') (r : SRes) : Res B := match r with
  | .nx ρ' => .ok (.val .none) (outP pr ρ ρ')
  | .rt b ρ' => .ok b (outP pr ρ ρ')
  | .exc c fs ρ' => .exc c fs (outP pr ρ ρ')
  | _ => .bad
@[simp] theorem outR_nx {pr ρ ρ'} : outR pr ρ (.nx ρ') = .ok (.val .none) (outP pr ρ ρ') := rfl
@[simp] theorem outR_rt {pr ρ b ρ'} : outR pr ρ (.rt b ρ') = .ok b (outP pr ρ ρ') := rfl
@[simp] theorem outR_exc {pr ρ c fs ρ'} : outR pr ρ (.exc c fs ρ') = .exc c fs (outP pr ρ ρ') := rfl
theorem ev_Def {pr : List Bool} {l : Nat} {mb : Sm} : mDef pr l mb ρ = if goodP pr ρ = true then outR pr ρ (mb (ρ ++ List.replicate (l - pr.length) none)) else .bad := rfl
@[simp] theorem ev_good0 : goodP [] [] = true := rfl
@[simp] theorem ev_good1 {p ps} {x} {xs : Env'} : goodP (p :: ps) (x :: xs) = ((p || plainB x) && goodP ps xs) := rfl
@[simp] theorem ev_out0 {ys : Env'} : outP [] [] ys = [] := rfl
@[simp] theorem ev_out1 {p ps x xs y} {ys : Env'} : outP (p :: ps) (x :: xs) (y :: ys) = (if p = true then y else x) :: outP ps xs ys := rfl
end
theorem def_rt {pr : List Bool} {l : Nat} {mb : Sm} {ρ ρ0 ρ' : Env'} {b : B} {out : Env'} (hg : goodP pr ρ = true) (hb : mb ρ0 = .rt b ρ') (ho : outP pr ρ ρ' = out) (h0 : ρ ++ List.replicate (l - pr.length) none = ρ0 := by rfl) : mDef pr l mb ρ = .ok b out := by
  rw [ev_Def, if_pos hg, h0, hb, outR_rt, ho]
theorem def_nx {pr : List Bool} {l : Nat} {mb : Sm} {ρ ρ0 ρ' : Env'} {out : Env'} (hg : goodP pr ρ = true) (hb : mb ρ0 = .nx ρ') (ho : outP pr ρ ρ' = out) (h0 : ρ ++ List.replicate (l - pr.length) none = ρ0 := by rfl) : mDef pr l mb ρ = .ok (.val .none) out := by
  rw [ev_Def, if_pos hg, h0, hb, outR_nx, ho]
/-- one turn of a loop -/
theorem loopC_step {bnd : Bd} {mt : Mn Bool} {me : Mn PyData} {vs : List Nat} {d : PyData} {ds acc : List PyData} {ρ ρ1 ρ2 ρ3 ρ4 : Env'} {y : PyData} (h1 : bnd d ρ = some ρ1) (h2 : mt ρ1 = .ok true ρ2) (h3 : me ρ2 = .ok y ρ3) (h4 : acc.length < 16777216) (h5 : wipeE ρ3 vs = ρ4) :
    loopC bnd mt me vs (d :: ds) acc ρ = loopC bnd mt me vs ds (acc ++ [y]) ρ4 := by
  simp only [loopC, h1, h2, h3, Res.bind_ok, if_true, h4, h5]
theorem loopS_step {bnd : Bd} {body : Sm} {d : PyData} {ds : List PyData} {ρ ρ1 ρ2 : Env'} (h1 : bnd d ρ = some ρ1) (h2 : body ρ1 = .nx ρ2) : loopS bnd body (d :: ds) ρ = loopS bnd body ds ρ2 := by
  simp only [loopS, h1, h2]
/-! ## comprehensions without a state -/
theorem loopC_pure {bnd : Bd} {mt : Mn Bool} {me : Mn PyData} {vs : List Nat} {ρ0 : Env'} (t : PyData → Bool) (h : PyData → PyData) :
    ∀ (ds acc : List PyData), (∀ d ∈ ds, ∃ ρ1, bnd d ρ0 = some ρ1 ∧ ∃ ρ2, mt ρ1 = .ok (t d) ρ2 ∧ (t d = true → ∃ ρ3, me ρ2 = .ok (h d) ρ3 ∧ wipeE ρ3 vs = ρ0) ∧ (t d = false → wipeE ρ2 vs = ρ0)) → acc.length + ds.length ≤ 16777216 →
      loopC bnd mt me vs ds acc ρ0 = .ok (acc ++ (ds.filter t).map h) ρ0
  | [], acc, _, _ => by simp [loopC]
  | d :: ds, acc, hs, hl => by
    obtain ⟨ρ1, e1, ρ2, e2, h1, h2⟩ := hs d List.mem_cons_self
    have hl' : acc.length + (ds.length + 1) ≤ 16777216 := hl
    unfold loopC
    rw [e1]
    simp only [e2, Res.bind_ok]
    cases ht : t d with
    | true =>
      obtain ⟨ρ3, e3, e4⟩ := h1 ht
      rw [if_pos rfl, e3, Res.bind_ok, if_pos (by omega), e4, loopC_pure t h ds (acc ++ [h d]) (fun x hx => hs x (List.mem_cons_of_mem _ hx)) (by rw [List.length_append]; simp; omega)]
      simp [List.filter_cons, ht]
    | false =>
      rw [if_neg Bool.false_ne_true, h2 ht, loopC_pure t h ds acc (fun x hx => hs x (List.mem_cons_of_mem _ hx)) (by omega)]
      simp [List.filter_cons, ht]
end ML
/-! # K02M -/
set_option Elab.async false
set_option linter.all false
set_option maxRecDepth 100000
namespace K02
open PySem ML
abbrev D (d : PyData) : Option B := some (.val d)
abbrev tf (b : Bool) : B := .val (.bool b)
abbrev vn : B := .val .none
def isI : PyData → Bool
  | .int _ => true
  | _ => false
theorem e_is_integer (d : PyData) : f_is_integer [D d] = .ok (tf (isI d)) [D d] := by
  unfold f_is_integer
  rw [ev_Def]
  cases d <;> simp [isiF, tyOf, isI, List.lookup, outP]
def inR (lo hi : Int) : PyData → Bool
  | .int i => decide (lo ≤ i) && decide (i ≤ hi)
  | _ => false
theorem e_kinds (d : PyData) (lo hi : Int) : f_is_within_kinds [D d, D (.int lo), D (.int hi)] = .ok (tf (inR lo hi d)) [D d, D (.int lo), D (.int hi)] := by
  unfold f_is_within_kinds
  rw [ev_Def]
  cases d with
  | int i =>
    by_cases h : lo ≤ i <;> simp [e_is_integer, isI, inR, gLe, vB, h]
  | _ => simp [e_is_integer, isI, inR]
def rowB (a b : Int) : PyData → Bool
  | .tuple xs => decide (a ≤ xs.length) && decide ((xs.length : Int) ≤ b)
  | _ => false
theorem e_is_row (d : PyData) (lo hi : Int) : f_is_row [D d, D (.int lo), D (.int hi)] = .ok (tf (rowB lo hi d)) [D d, D (.int lo), D (.int hi)] := by
  unfold f_is_row
  rw [ev_Def]
  cases d with
  | tuple xs =>
    by_cases h : lo ≤ (xs.length : Int) <;> simp [isiF, tyOf, rowB, gLe, vB, h, List.lookup, gLen, vI]
  | _ => simp [isiF, tyOf, rowB, List.lookup]
def allT (p : PyData → Bool) : PyData → Bool
  | .tuple xs => xs.all p
  | _ => false
theorem bools_map (l : List PyData) (p : PyData → Bool) : boolsOf (l.map fun d => .bool (p d)) = some (l.map p) := by
  induction l with
  | nil => rfl
  | cons x xs ih => simp [boolsOf, ih]
theorem all_id (l : List PyData) (p : PyData → Bool) : (l.map p).all id = l.all p := by
  induction l with
  | nil => rfl
  | cons x xs ih => simp [ih]
theorem filt_true (l : List PyData) : l.filter (fun _ => true) = l := by simp
theorem e_are_within (d : PyData) (n lo hi : Int) (hn : n ≤ 1000) : f_are_within [D d, D (.int n), D (.int lo), D (.int hi)] = .ok (tf (rowB n n d && allT (inR lo hi) d)) [D d, D (.int n), D (.int lo), D (.int hi)] := by
  unfold f_are_within
  rw [ev_Def]
  cases hr : rowB n n d with
  | false => simp [e_is_row, hr]
  | true =>
    cases d with
    | tuple xs =>
      have hl : (xs.length : Int) ≤ n := by simp [rowB] at hr; omega
      have lp := loopC_pure (bnd := bName 4) (mt := mYes) (me := asD (mCall f_is_within_kinds [.vl (mVar 4), .vl (mVar 2), .vl (mVar 3)])) (vs := [4]) (ρ0 := [D (.tuple xs), D (.int n), D (.int lo), D (.int hi), none]) (fun _ => true) (fun d => .bool (inR lo hi d)) xs [] (fun x hx => by
        refine ⟨_, rfl, _, rfl, fun _ => ⟨[D (.tuple xs), D (.int n), D (.int lo), D (.int hi), D x], ?_, rfl⟩, fun z => by cases z⟩
        simp [e_kinds]) (by simp; omega)
      simp [e_is_row, hr, itList, lp, filt_true, gAll, bools_map, all_id, allT, vB]
    | _ => simp [rowB] at hr

/-! ## rows of ints, locks -/
abbrev row (r : List Int) : PyData := .tuple (r.map .int)
abbrev enc (l : List (List Int)) : PyData := .tuple (l.map row)
theorem canInts (r : List Int) : PyData.canLayAll0 (r.map .int) = true := by
  induction r with
  | nil => rfl
  | cons x xs ih => simp [PyData.canLayAll0, PyData.canLay0, ih]
theorem depInts (r : List Int) : PyData.depthAll (r.map .int) = 0 := by
  induction r with
  | nil => rfl
  | cons x xs ih => simp [PyData.depthAll, PyData.depth, ih]
@[simp] theorem sh_int (i : Int) : SeqAt.shaped (.int i) = true := rfl
@[simp] theorem sh_row (r : List Int) : SeqAt.shaped (row r) = true := by
  simp [SeqAt.shaped, PyData.canLay0, canInts, PyData.depth, depInts]
theorem canRows (l : List (List Int)) : PyData.canLayAll0 (l.map row) = true := by
  induction l with
  | nil => rfl
  | cons x xs ih => simp [PyData.canLayAll0, PyData.canLay0, canInts, ih]
theorem depRows (l : List (List Int)) : PyData.depthAll (l.map row) ≤ 1 := by
  induction l with
  | nil => simp [PyData.depthAll]
  | cons x xs ih => simp only [List.map_cons, PyData.depthAll, PyData.depth, depInts]; omega
@[simp] theorem sh_enc (l : List (List Int)) : SeqAt.shaped (enc l) = true := by
  have := depRows l
  simp [SeqAt.shaped, PyData.canLay0, canRows, PyData.depth]
  omega
theorem inInts (c : Int) (r : List Int) : isInD (.int c) (r.map .int) = r.contains c := by
  unfold isInD
  induction r with
  | nil => rfl
  | cons x xs ih =>
    simp only [List.map_cons, List.any_cons, ih, List.contains_cons, PyData.eqv]
    rw [Bool.beq_comm]
@[simp] theorem gIn_row (c : Int) (r : List Int) : gIn (.int c) (row r) = some (tf (r.contains c)) := by
  have h1 : SeqAt.shaped (.int c) = true := rfl
  have h2 := sh_row r
  simp only [row] at h2
  simp [gIn, h1, h2, vB, inInts]
@[simp] theorem gNotIn_row (c : Int) (r : List Int) : gNotIn (.int c) (row r) = some (tf (!r.contains c)) := by
  have h1 : SeqAt.shaped (.int c) = true := rfl
  have h2 := sh_row r
  simp only [row] at h2
  simp [gNotIn, h1, h2, vB, inInts]
/-! ## comprehensions of two clauses -/
theorem loopC2_pure {bnd bnd1 : Bd} {mt mt1 : Mn Bool} {mi1 : Mn (List PyData)} {me : Mn PyData} {vs vs1 : List Nat} {ρ0 : Env'} (L : PyData → List PyData) (h : PyData → PyData → PyData) :
    ∀ (ds acc : List PyData), (∀ d ∈ ds, ∃ ρ1, bnd d ρ0 = some ρ1 ∧ ∃ ρ2, mt ρ1 = .ok true ρ2 ∧ ∃ ρ3, mi1 ρ2 = .ok (L d) ρ3 ∧ wipeE (wipeE ρ3 vs1) vs = ρ0 ∧
      ∀ e ∈ L d, ∃ ρ4, bnd1 e (wipeE ρ3 vs1) = some ρ4 ∧ ∃ ρ5, mt1 ρ4 = .ok true ρ5 ∧ ∃ ρ6, me ρ5 = .ok (h d e) ρ6 ∧ wipeE ρ6 vs1 = wipeE ρ3 vs1) →
      acc.length + (ds.flatMap L).length ≤ 16777216 → loopC2 bnd mt mi1 bnd1 mt1 me vs vs1 ds acc ρ0 = .ok (acc ++ ds.flatMap fun d => (L d).map (h d)) ρ0
  | [], acc, _, _ => by simp [loopC2]
  | d :: ds, acc, hs, hl => by
    obtain ⟨ρ1, e1, ρ2, e2, ρ3, e3, e4, hi⟩ := hs d List.mem_cons_self
    rw [List.flatMap_cons, List.length_append] at hl
    have lp := loopC_pure (bnd := bnd1) (mt := mt1) (me := me) (vs := vs1) (ρ0 := wipeE ρ3 vs1) (fun _ => true) (h d) (L d) acc (fun e he => by
      obtain ⟨ρ4, f1, ρ5, f2, ρ6, f3, f4⟩ := hi e he
      exact ⟨ρ4, f1, ρ5, f2, fun _ => ⟨ρ6, f3, f4⟩, fun z => by cases z⟩) (by omega)
    rw [filt_true] at lp
    unfold loopC2
    rw [e1]
    simp only [e2, Res.bind_ok, if_true, e3, lp, e4]
    rw [loopC2_pure L h ds (acc ++ (L d).map (h d)) (fun x hx => hs x (List.mem_cons_of_mem _ hx)) (by rw [List.length_append, List.length_map]; omega)]
    simp
/-! ## the program's defs -/
def ascB : List Int → Bool
  | x :: y :: r => decide (x < y) && ascB (y :: r)
  | _ => true
theorem zip_asc : ∀ r : List Int, (zipD (r.map .int) ((r.map .int).drop 1)).all (fun p => match p with | .tuple [.int a, .int b] => decide (a < b) | _ => false) = ascB r
  | [] => rfl
  | [x] => rfl
  | x :: y :: r => by
    have ih := zip_asc (y :: r)
    simp only [List.map_cons, List.drop_succ_cons, List.drop_zero, zipD, List.all_cons, ascB] at ih ⊢
    rw [ih]
theorem zip_shape : ∀ (a b : List Int) (p : PyData), p ∈ zipD (a.map .int) (b.map .int) → ∃ x y, p = .tuple [.int x, .int y]
  | [], _, _, h => by simp [zipD] at h
  | _ :: _, [], _, h => by simp [zipD] at h
  | x :: a, y :: b, p, h => by
    simp only [List.map_cons, zipD, List.mem_cons] at h
    rcases h with rfl | h
    · exact ⟨x, y, rfl⟩
    · exact zip_shape a b p h
theorem cut1 (xs : List PyData) : cutD xs (some 1) none = xs.tail := by
  unfold cutD
  show (xs.drop (min 1 xs.length)).take (xs.length - min 1 xs.length) = xs.tail
  cases xs with
  | nil => rfl
  | cons x xs =>
    have e : min 1 (x :: xs).length = 1 := by simp
    rw [e]
    simp
def ltP : PyData → Bool
  | .tuple [.int a, .int b] => decide (a < b)
  | _ => false
theorem e_asc (r : List Int) (hl : r.length ≤ 1000) : f_is_ascending [D (row r)] = .ok (tf (ascB r)) [D (row r)] := by
  unfold f_is_ascending
  rw [ev_Def]
  have hcut := cut1 (r.map PyData.int)
  have lp := loopC_pure (bnd := bTup 2 (bCons (bName 1) (bCons (bName 2) bNil))) (mt := mYes) (me := asD (m2 gLt (asD (mVar 1)) (asD (mVar 2)))) (vs := [1, 2]) (ρ0 := [D (row r), none, none]) (fun _ => true) (fun p => .bool (ltP p)) (zipD (r.map .int) (r.map .int).tail) [] (fun p hp => by
    rw [← List.map_tail] at hp
    obtain ⟨x, y, rfl⟩ := zip_shape _ _ _ hp
    exact ⟨_, rfl, _, rfl, fun _ => ⟨[D (row r), D (.int x), D (.int y)], rfl, rfl⟩, fun z => by cases z⟩) (by rw [zipD_len]; simp; omega)
  have ha : (zipD (r.map .int) (r.map .int).tail).all ltP = ascB r := by
    rw [← zip_asc r, List.drop_one]
    rfl
  simp [gSl, hcut, lp, filt_true, gAll, bools_map, all_id, ha, vB]

/-! ### products -/
theorem wide_small {i j : Int} (h : i.natAbs ≤ 400000) (h2 : j.natAbs ≤ 400000) : wide2 i j = true := by
  unfold wide2
  have a := Nat.log2_le_self i.natAbs
  have b := Nat.log2_le_self j.natAbs
  exact decide_eq_true (by omega)
theorem loop_prod : ∀ (ns : List Int) (b : Int) (x : Option B) (l : PyData), b.natAbs * 5 ^ ns.length ≤ 3125 → (∀ n ∈ ns, n.natAbs ≤ 5) →
    ∃ y, loopS (bName 2) (sSet 1 (m2 gMulX (asD (mVar 1)) (asD (mVar 2)))) (ns.map .int) [D l, D (.int b), x] = .nx [D l, D (.int (ns.foldl (· * ·) b)), y]
  | [], b, x, l, _, _ => ⟨x, rfl⟩
  | n :: ns, b, x, l, hb, hn => by
    have h5 : 1 ≤ 5 ^ ns.length := Nat.one_le_pow _ _ (by omega)
    have hn5 : n.natAbs ≤ 5 := hn n List.mem_cons_self
    rw [List.length_cons, Nat.pow_succ] at hb
    have hbb : b.natAbs ≤ 3125 := by
      calc b.natAbs = b.natAbs * 1 := (Nat.mul_one _).symm
        _ ≤ b.natAbs * (5 ^ ns.length * 5) := Nat.mul_le_mul_left _ (by omega)
        _ ≤ 3125 := hb
    have hm : (b * n).natAbs * 5 ^ ns.length ≤ 3125 := by
      rw [Int.natAbs_mul]
      calc b.natAbs * n.natAbs * 5 ^ ns.length ≤ b.natAbs * 5 * 5 ^ ns.length := Nat.mul_le_mul_right _ (Nat.mul_le_mul_left _ hn5)
        _ = b.natAbs * (5 ^ ns.length * 5) := by rw [Nat.mul_assoc, Nat.mul_comm 5]
        _ ≤ 3125 := hb
    obtain ⟨y, ey⟩ := loop_prod ns (b * n) (D (.int n)) l hm fun m hm => hn m (List.mem_cons_of_mem _ hm)
    refine ⟨y, ?_⟩
    have hw : wide2 b n = true := wide_small (by omega) (by omega)
    simp only [List.map_cons, loopS, ev_bName, List.set_cons_succ, List.set_cons_zero, ev_sSet, ev_m2, ev_asD, ev_Var, List.getElem?_cons_succ, List.getElem?_cons_zero, Res.bind_ok, ev_fz_val, Res.of_some, gMulX, gMul, hw, if_true, vI, Res.go_ok]
    simpa [List.foldl_cons, Res.bind_ok, gMulX, gMul, hw, vI] using ey
theorem e_product_of (ns : List Int) (hl : ns.length ≤ 5) (hn : ∀ n ∈ ns, n.natAbs ≤ 5) : f_product_of [D (.list (ns.map .int))] = .ok (.val (.int (ns.foldl (· * ·) 1))) [D (.list (ns.map .int))] := by
  unfold f_product_of
  rw [ev_Def]
  have hb : (1 : Int).natAbs * 5 ^ ns.length ≤ 3125 := by
    have : 5 ^ ns.length ≤ 5 ^ 5 := Nat.pow_le_pow_right (by omega) hl
    simpa using this
  obtain ⟨y, ey⟩ := loop_prod ns 1 none (.list (ns.map .int)) hb hn
  simp [itList, ey]
/-- how many keys -/
def cntI (l : List (List Int)) : Int := (l.map fun r => (r.length : Int)).foldl (· * ·) 1
theorem e_key_count (l : List (List Int)) (hl : l.length ≤ 5) (hr : ∀ r ∈ l, r.length ≤ 5) : f_key_count [D (enc l)] = .ok (.val (.int (cntI l))) [D (enc l)] := by
  unfold f_key_count
  rw [ev_Def]
  have lp := loopC_pure (bnd := bName 1) (mt := mYes) (me := asD (mLenV 1)) (vs := [1]) (ρ0 := [D (enc l), none]) (fun _ => true) (fun d => match d with | .tuple xs => .int xs.length | _ => .none) (l.map row) [] (fun d hd => by
    obtain ⟨r, hr, rfl⟩ := List.mem_map.mp hd
    exact ⟨_, rfl, _, rfl, fun _ => ⟨[D (enc l), D (row r)], by simp [gLen, vI], rfl⟩, fun z => by cases z⟩) (by simp; omega)
  have hm : (l.map row).map (fun d => match d with | .tuple xs => PyData.int xs.length | _ => .none) = (l.map fun r => (r.length : Int)).map .int := by
    rw [List.map_map, List.map_map]
    exact List.map_congr_left fun r _ => by simp
  rw [filt_true, hm] at lp
  have ep := e_product_of (l.map fun r => (r.length : Int)) (by simp; omega) (fun n hn => by
    obtain ⟨r, h, rfl⟩ := List.mem_map.mp hn
    have := hr r h
    omega)
  simp only [List.nil_append] at lp
  simp [itList, lp, ep, cntI, -List.map_map]
/-- the keys, ascending -/
def keysL : List (List Int) → List (List Int)
  | l => l.foldl (fun rows r => rows.flatMap fun k => r.map fun c => k ++ [c]) [[]]
theorem loop_rows (l0 : PyData) : ∀ (l rows : List (List Int)) (x : Option B), rows.length * 5 ^ l.length ≤ 3125 → (∀ r ∈ l, r.length ≤ 5) → (∀ k ∈ rows, k.length + l.length ≤ 1000) →
    ∃ y, loopS (bName 2) (sSet 1 (mLc2 (mIt (mVar 1)) (bName 3) mYes (mIt (mVar 2)) (bName 4) mYes (asD (m2 gAdd (asD (mVar 3)) (asD (mTup (mCons (asD (mVar 4)) mNil))))) [3, 4] [4])) (l.map row) [D l0, some (.lst (rows.map row)), x, none, none] =
      .nx [D l0, some (.lst ((l.foldl (fun rows r => rows.flatMap fun k => r.map fun c => k ++ [c]) rows).map row)), y, none, none]
  | [], rows, x, _, _, _ => ⟨x, rfl⟩
  | r :: l, rows, x, hb, hr, hk => by
    have hr5 := hr r List.mem_cons_self
    have h5 : 1 ≤ 5 ^ l.length := Nat.one_le_pow _ _ (by omega)
    rw [List.length_cons, Nat.pow_succ] at hb
    have hlen : (rows.flatMap fun k => r.map fun c => k ++ [c]).length = rows.length * r.length := by
      clear hb hk
      induction rows with
      | nil => simp
      | cons k ks ih => rw [List.flatMap_cons, List.length_append, ih]; simp [Nat.add_mul, Nat.add_comm]
    have hb2 : (rows.flatMap fun k => r.map fun c => k ++ [c]).length * 5 ^ l.length ≤ 3125 := by
      rw [hlen]
      calc rows.length * r.length * 5 ^ l.length ≤ rows.length * 5 * 5 ^ l.length := Nat.mul_le_mul_right _ (Nat.mul_le_mul_left _ hr5)
        _ = rows.length * (5 ^ l.length * 5) := by rw [Nat.mul_assoc, Nat.mul_comm 5]
        _ ≤ 3125 := hb
    have hb3 : (rows.flatMap fun k => r.map fun c => k ++ [c]).length ≤ 3125 := by
      calc _ = (rows.flatMap fun k => r.map fun c => k ++ [c]).length * 1 := (Nat.mul_one _).symm
        _ ≤ _ := Nat.mul_le_mul_left _ h5
        _ ≤ 3125 := hb2
    have lp := loopC2_pure (bnd := bName 3) (mt := mYes) (mi1 := mIt (mVar 2)) (bnd1 := bName 4) (mt1 := mYes) (me := asD (m2 gAdd (asD (mVar 3)) (asD (mTup (mCons (asD (mVar 4)) mNil))))) (vs := [3, 4]) (vs1 := [4]) (ρ0 := [D l0, D (.list (rows.map row)), D (row r), none, none])
      (fun _ => r.map .int) (fun d e => match d with | .tuple xs => .tuple (xs ++ [e]) | _ => .none) (rows.map row) [] (fun d hd => by
        obtain ⟨k, hkm, rfl⟩ := List.mem_map.mp hd
        have := hk k hkm
        refine ⟨_, rfl, _, rfl, [D l0, D (.list (rows.map row)), D (row r), D (row k), none], rfl, rfl, fun e he => ?_⟩
        obtain ⟨c, hc, rfl⟩ := List.mem_map.mp he
        refine ⟨_, rfl, _, rfl, [D l0, D (.list (rows.map row)), D (row r), D (row k), D (.int c)], ?_, rfl⟩
        have hz : k.length + 1 ≤ 16777216 := by omega
        simp [gAdd, hz]) (by
        have e : ((rows.map row).flatMap fun _ => r.map PyData.int).length = rows.length * r.length := by
          clear hb hk hlen hb2 hb3
          induction rows with
          | nil => simp
          | cons k ks ih => rw [List.map_cons, List.flatMap_cons, List.length_append, ih]; simp [Nat.add_mul, Nat.add_comm]
        rw [e]
        rw [hlen] at hb3
        simp
        omega)
    have hm : ((rows.map row).flatMap fun d => (r.map PyData.int).map ((fun d e => match d with | .tuple xs => PyData.tuple (xs ++ [e]) | _ => .none) d)) = (rows.flatMap fun k => r.map fun c => k ++ [c]).map row := by
      clear hb hk hlen hb2 hb3 lp
      induction rows with
      | nil => rfl
      | cons k ks ih =>
        rw [List.map_cons, List.flatMap_cons, List.flatMap_cons, List.map_append, ih]
        simp
    rw [hm, List.nil_append] at lp
    obtain ⟨y, ey⟩ := loop_rows l0 l (rows.flatMap fun k => r.map fun c => k ++ [c]) (D (row r)) hb2 (fun q hq => hr q (List.mem_cons_of_mem _ hq)) (fun k hkm => by
      obtain ⟨k0, h0, h1⟩ := List.mem_flatMap.mp hkm
      obtain ⟨c, _, rfl⟩ := List.mem_map.mp h1
      have := hk k0 h0
      simp at this ⊢
      omega)
    refine ⟨y, ?_⟩
    rw [List.map_cons, List.foldl_cons, ← ey]
    conv => lhs; unfold loopS
    simp [itList, lp]
theorem e_key_list (l : List (List Int)) (hl : l.length ≤ 5) (hr : ∀ r ∈ l, r.length ≤ 5) : f_key_list [D (enc l)] = .ok (.lst ((keysL l).map row)) [D (enc l)] := by
  unfold f_key_list f_product_rows
  rw [ev_Def, ev_sRet, ev_Call]
  have hb : ([[]] : List (List Int)).length * 5 ^ l.length ≤ 3125 := by
    have : 5 ^ l.length ≤ 5 ^ 5 := Nat.pow_le_pow_right (by omega) hl
    simpa using this
  obtain ⟨y, ey⟩ := loop_rows (.list (l.map row)) l [[]] none hb hr (by simp; omega)
  simp only [List.map_cons, List.map_nil] at ey
  rw [show (row ([] : List Int)) = PyData.tuple [] from rfl] at ey
  simp [gList, ev_Def, itList, ey, keysL]

/-! ### makes, forms -/
abbrev mk (m d : Int) : PyData := .tuple [.int m, .int d]
structure MD (m d : Int) : Prop where
  m1 : 1 ≤ m
  m5 : m ≤ 5
  d2 : 2 ≤ d
  d5 : d ≤ 5
@[simp] theorem ix0 (m d : Int) : gIdx (mk m d) (.int 0) = some (.val (.int m)) := rfl
@[simp] theorem ix1 (m d : Int) : gIdx (mk m d) (.int 1) = some (.val (.int d)) := rfl
theorem e_is_make {m d : Int} (h : MD m d) : f_is_make [D (mk m d)] = .ok (tf true) [D (mk m d)] := by
  unfold f_is_make
  rw [ev_Def]
  have h1 := h.m1
  have h2 := h.m5
  have h3 := h.d2
  have h4 := h.d5
  simp [e_is_row, e_kinds, rowB, inR, h1, h2, h3, h4]
theorem e_need_make {m d : Int} (h : MD m d) : f_need_make [D (mk m d)] = .ok vn [D (mk m d)] := by
  unfold f_need_make
  rw [ev_Def]
  simp [e_is_make h]
def ascT : PyData → Bool
  | .tuple ys => match intsOf ys with
    | some r => ascB r
    | none => false
  | _ => false
def cutsB (d : Int) (x : PyData) : Bool := rowB 1 d x && allT (inR 0 (d - 1)) x && ascT x
theorem inR_ints {lo hi : Int} : ∀ {ys : List PyData}, ys.all (inR lo hi) = true → ∃ r, ys = r.map PyData.int ∧ intsOf ys = some r ∧ ∀ c ∈ r, lo ≤ c ∧ c ≤ hi
  | [], _ => ⟨[], rfl, rfl, by simp⟩
  | y :: ys, h => by
    simp only [List.all_cons, Bool.and_eq_true] at h
    obtain ⟨r, e1, e2, e3⟩ := inR_ints h.2
    cases y <;> simp [inR] at h
    rename_i c
    refine ⟨c :: r, by rw [e1]; rfl, by simp [intsOf, e2], fun k hk => ?_⟩
    rcases List.mem_cons.mp hk with rfl | hk
    · exact h.1
    · exact e3 k hk
theorem intsOf_map (r : List Int) : intsOf (r.map .int) = some r := by
  induction r with
  | nil => rfl
  | cons x xs ih => simp [intsOf, ih]
theorem gSub1 (d : Int) : gSub (.int d) (.int 1) = some (.val (.int (d - 1))) := rfl
theorem e_are_cuts {m d : Int} (h : MD m d) (x : PyData) : f_are_cuts [D (mk m d), D x] = .ok (tf (cutsB d x)) [D (mk m d), D x] := by
  unfold f_are_cuts
  rw [ev_Def]
  have hd5 := h.d5
  unfold cutsB
  cases hr : rowB 1 d x with
  | false => simp [e_is_row, hr]
  | true =>
    cases x with
    | tuple xs =>
      have hl : (xs.length : Int) ≤ d := by simp [rowB] at hr; exact hr.2
      have lp := loopC_pure (bnd := bName 2) (mt := mYes) (me := asD (mCall f_is_within_kinds [.vl (mVar 2), .vl (mC (.int 0)), .vl (m2 gSub (asD (mIdxV 0 (asD (mC (.int 1))))) (asD (mC (.int 1))))])) (vs := [2]) (ρ0 := [D (mk m d), D (.tuple xs), none]) (fun _ => true) (fun y => .bool (inR 0 (d - 1) y)) xs [] (fun y hy => by
        refine ⟨_, rfl, _, rfl, fun _ => ⟨[D (mk m d), D (.tuple xs), D y], ?_, rfl⟩, fun z => by cases z⟩
        simp [e_kinds, gSub1]) (by simp; omega)
      rw [filt_true] at lp
      cases ha : xs.all (inR 0 (d - 1)) with
      | false => simp [e_is_row, hr, itList, lp, gAll, bools_map, all_id, allT, vB, ha]
      | true =>
        obtain ⟨r, rfl, ei, _⟩ := inR_ints ha
        have hl2 : r.length ≤ 1000 := by simp at hl; omega
        simp [e_is_row, hr, itList, lp, gAll, bools_map, all_id, allT, vB, ha, e_asc r hl2, ascT, ei, -List.map_map, -List.all_map]
    | _ => simp [rowB] at hr
def lockB (m d : Int) (x : PyData) : Bool := rowB m m x && allT (cutsB d) x
theorem e_lock_form {m d : Int} (h : MD m d) (x : PyData) : f_is_lock_form [D (mk m d), D x] = .ok (tf (lockB m d x)) [D (mk m d), D x] := by
  unfold f_is_lock_form
  rw [ev_Def]
  have hm5 := h.m5
  unfold lockB
  cases hr : rowB m m x with
  | false => simp [e_is_row, hr]
  | true =>
    cases x with
    | tuple xs =>
      have hl : (xs.length : Int) ≤ m := by simp [rowB] at hr; exact hr.2
      have lp := loopC_pure (bnd := bName 2) (mt := mYes) (me := asD (mCall f_are_cuts [.vl (mVar 0), .vl (mVar 2)])) (vs := [2]) (ρ0 := [D (mk m d), D (.tuple xs), none]) (fun _ => true) (fun y => .bool (cutsB d y)) xs [] (fun y hy => by
        refine ⟨_, rfl, _, rfl, fun _ => ⟨[D (mk m d), D (.tuple xs), D y], ?_, rfl⟩, fun z => by cases z⟩
        simp [e_are_cuts h]) (by simp; omega)
      rw [filt_true] at lp
      simp [e_is_row, hr, itList, lp, gAll, bools_map, all_id, allT, vB]
    | _ => simp [rowB] at hr
theorem e_need_lock {m d : Int} (h : MD m d) {x : PyData} (hx : lockB m d x = true) : f_need_lock [D (mk m d), D x] = .ok vn [D (mk m d), D x] := by
  unfold f_need_lock
  rw [ev_Def]
  simp [e_need_make h, e_lock_form h, hx]
theorem x_need_lock {m d : Int} (h : MD m d) {x : PyData} (hx : lockB m d x = false) : f_need_lock [D (mk m d), D x] = .exc "BadLock" [] [D (mk m d), D x] := by
  unfold f_need_lock
  rw [ev_Def]
  simp [e_need_make h, e_lock_form h, hx]
theorem e_need_key {m d : Int} (h : MD m d) {x : PyData} (hx : (rowB m m x && allT (inR 0 (d - 1)) x) = true) : f_need_key [D (mk m d), D x] = .ok vn [D (mk m d), D x] := by
  unfold f_need_key f_is_key_form
  rw [ev_Def]
  have hm5 := h.m5
  simp [ev_Def, e_are_within x m 0 (d - 1) (by omega), hx, gSub1]
/-! ### locks -/
structure LockOk (m d : Int) (l : List (List Int)) : Prop where
  len : (l.length : Int) = m
  ne : ∀ r ∈ l, r ≠ []
  rg : ∀ r ∈ l, ∀ c ∈ r, 0 ≤ c ∧ c < d
  asc : ∀ r ∈ l, r.Pairwise (· < ·)
theorem ascB_of : ∀ {r : List Int}, r.Pairwise (· < ·) → ascB r = true
  | [], _ => rfl
  | [_], _ => rfl
  | x :: y :: r, h => by
    obtain ⟨h1, h2⟩ := List.pairwise_cons.mp h
    simp [ascB, h1 y List.mem_cons_self, ascB_of h2]
theorem asc_len : ∀ {r : List Int} {lo hi : Int}, r.Pairwise (· < ·) → (∀ c ∈ r, lo ≤ c ∧ c < hi) → lo ≤ hi → (r.length : Int) ≤ hi - lo
  | [], lo, hi, _, _, h => by simp; omega
  | x :: r, lo, hi, hp, hr, h => by
    obtain ⟨h1, h2⟩ := List.pairwise_cons.mp hp
    have hx := hr x List.mem_cons_self
    have := asc_len (lo := x + 1) (hi := hi) h2 (fun c hc => ⟨h1 c hc, (hr c (List.mem_cons_of_mem _ hc)).2⟩) (by omega)
    simp
    omega
theorem LockOk.rl {m d : Int} {l : List (List Int)} (h : LockOk m d l) (hd : MD m d) : ∀ r ∈ l, (r.length : Int) ≤ d := fun r hr => by
  have := asc_len (lo := 0) (hi := d) (h.asc r hr) (h.rg r hr) (by have := hd.d2; omega)
  omega
theorem cuts_row {d : Int} {r : List Int} (hne : r ≠ []) (hr : ∀ c ∈ r, 0 ≤ c ∧ c < d) (ha : r.Pairwise (· < ·)) (hd : 0 ≤ d) : cutsB d (row r) = true := by
  have hl := asc_len (lo := 0) (hi := d) ha hr hd
  have h1 : 1 ≤ (r.length : Int) := by
    have : r.length ≠ 0 := fun e => hne (List.eq_nil_of_length_eq_zero e)
    omega
  have h2 : (r.map PyData.int).all (inR 0 (d - 1)) = true := by
    rw [List.all_map, List.all_eq_true]
    intro c hc
    have := hr c hc
    simp [inR]
    omega
  have hl2 : (r.length : Int) ≤ d := by omega
  simp [cutsB, rowB, allT, ascT, intsOf_map, ascB_of ha, h1, hl2]
  intro c hc
  have := hr c hc
  simp [inR]
  omega
theorem lock_enc {m d : Int} {l : List (List Int)} (h : LockOk m d l) (hd : MD m d) : lockB m d (enc l) = true := by
  have hd2 := hd.d2
  simp only [lockB, rowB, allT, List.length_map, h.len, Bool.and_eq_true, decide_eq_true_eq, Int.le_refl, true_and, and_self, List.all_eq_true]
  intro x hx
  obtain ⟨r, hr, rfl⟩ := List.mem_map.mp hx
  exact cuts_row (h.ne r hr) (h.rg r hr) (h.asc r hr) (by omega)

/-! ### what opens, what is in both -/
theorem zip_map {α β : Type} (f : α → PyData) (g : β → PyData) : ∀ (a : List α) (b : List β), zipD (a.map f) (b.map g) = (a.zip b).map fun p => .tuple [f p.1, g p.2]
  | [], _ => by simp [zipD]
  | _ :: _, [] => by simp [zipD]
  | x :: a, y :: b => by simp [zipD, zip_map f g a b]
def opL (l : List (List Int)) (k : List Int) : Bool := (k.zip l).all fun p => p.2.contains p.1
theorem all_map' (l : List PyData) (p : PyData → Bool) : (boolsOf (l.map fun d => .bool (p d))).bind (fun bs => vB (bs.all id)) = some (tf (l.all p)) := by
  rw [bools_map]
  show vB _ = _
  rw [all_id]
  rfl
theorem e_does_open (l : List (List Int)) (k : List Int) (hk : k.length ≤ 1000) : f_does_open [D (enc l), D (row k)] = .ok (tf (opL l k)) [D (enc l), D (row k)] := by
  unfold f_does_open
  rw [ev_Def]
  have lp := loopC_pure (bnd := bTup 2 (bCons (bName 2) (bCons (bName 3) bNil))) (mt := mYes) (me := asD (m2 gIn (asD (mVar 2)) (asD (mVar 3)))) (vs := [2, 3]) (ρ0 := [D (enc l), D (row k), none, none]) (fun _ => true) (fun p => match p with | .tuple [.int c, .tuple ds] => .bool (isInD (.int c) ds) | _ => .none) (zipD (k.map .int) (l.map row)) [] (fun p hp => by
    rw [zip_map] at hp
    obtain ⟨⟨c, r⟩, _, rfl⟩ := List.mem_map.mp hp
    refine ⟨_, rfl, _, rfl, fun _ => ⟨[D (enc l), D (row k), D (.int c), D (row r)], ?_, rfl⟩, fun z => by cases z⟩
    have := gIn_row c r
    simp [this, inInts]) (by rw [zipD_len]; simp; omega)
  have hm : (zipD (k.map PyData.int) (l.map row)).map (fun p => match p with | .tuple [.int c, .tuple ds] => PyData.bool (isInD (.int c) ds) | _ => .none) = ((k.zip l).map fun p => (p.2.contains p.1)).map .bool := by
    rw [zip_map, List.map_map, List.map_map]
    exact List.map_congr_left fun p _ => by simp [inInts]
  have hb : ∀ bs : List Bool, boolsOf (bs.map .bool) = some bs := fun bs => by
    induction bs with
    | nil => rfl
    | cons x xs ih => simp [boolsOf, ih]
  rw [filt_true, hm, List.nil_append] at lp
  simp [lp, gAll, hb, vB, opL, -List.map_map, -List.all_map, Function.comp]
  simp [List.all_map]
/-- the cuts in both -/
def bothL (a b : List (List Int)) : List (List Int) := (a.zip b).map fun p => p.1.filter fun c => p.2.contains c
def bothR (a b : List (List Int)) : PyData := if (bothL a b).any List.isEmpty = true then .none else enc (bothL a b)
theorem inEmpty (l : List (List Int)) : isInD (.tuple []) (l.map row) = l.any List.isEmpty := by
  unfold isInD
  induction l with
  | nil => rfl
  | cons x xs ih =>
    simp only [List.map_cons, List.any_cons, ih]
    congr 1
    cases x <;> rfl
theorem gIn_empty (l : List (List Int)) : gIn (.tuple []) (enc l) = some (tf (l.any List.isEmpty)) := by
  have h1 : SeqAt.shaped (.tuple []) = true := rfl
  have h2 := sh_enc l
  simp only [enc] at h2
  simp [gIn, h1, h2, vB, inEmpty]
theorem inner_both (n : Nat) (i j v : Nat) (ρ : Env') (r q : List Int) (hv : v < ρ.length) (hi : ρ[i]? = some (D (row r))) (hj : ρ[j]? = some (D (row q))) (hiv : i ≠ v) (hjv : j ≠ v) (hpl : ρ[v]? = some none) (hl : r.length ≤ 1000) :
    mLc (mIt (mVar i)) (bName v) (asT (m2 gIn (asD (mVar v)) (asD (mVar j)))) (asD (mVar v)) [v] ρ = .ok (.lst ((r.filter fun c => q.contains c).map .int)) ρ := by
  have hw : wipeE ρ [v] = ρ := by
    show ρ.set v none = ρ
    apply List.ext_getElem?
    intro z
    by_cases hz : v = z
    · subst hz
      rw [List.getElem?_set_self hv, hpl]
    · rw [List.getElem?_set_ne hz]
  have lp := loopC_pure (bnd := bName v) (mt := asT (m2 gIn (asD (mVar v)) (asD (mVar j)))) (me := asD (mVar v)) (vs := [v]) (ρ0 := ρ) (fun d => isInD d (q.map .int)) (fun d => d) (r.map .int) [] (fun d hd => by
    obtain ⟨c, hc, rfl⟩ := List.mem_map.mp hd
    have e1 : (ρ.set v (some (.val (.int c))))[v]? = some (some (.val (.int c))) := List.getElem?_set_self hv
    have e2 : (ρ.set v (some (.val (.int c))))[j]? = some (some (.val (row q))) := by rw [List.getElem?_set_ne (Ne.symm hjv)]; exact hj
    have e3 : wipeE (ρ.set v (some (.val (.int c)))) [v] = ρ := by
      show (ρ.set v _).set v none = ρ
      rw [List.set_set]
      exact hw
    refine ⟨_, rfl, ρ.set v (some (.val (.int c))), ?_, fun _ => ⟨ρ.set v (some (.val (.int c))), ?_, e3⟩, fun _ => e3⟩
    · have := gIn_row c q
      simp [e1, e2, this, inInts]
    · simp [e1]) (by simp; omega)
  have hf : ((r.map PyData.int).filter fun d => isInD d (q.map .int)).map (fun d => d) = (r.filter fun c => q.contains c).map .int := by
    rw [List.map_id', List.filter_map]
    congr 1
    exact List.filter_congr fun c _ => by simp [inInts]
  rw [hf, List.nil_append] at lp
  have hr : restE ρ [v] ρ = ρ := by
    show ρ.set v (ρ[v]?).join = ρ
    rw [hpl]
    exact hw
  have hrow : itList (row r) = some (r.map .int) := rfl
  have hp : plainB (ρ[v]?).join = true := by rw [hpl]; rfl
  rw [ev_Lc, ev_It, ev_asD, ev_Var, hi]
  simp only [Res.bind_ok, ev_fz_val, Res.of_some, hrow, ev_own1, ev_own0, hp, Bool.and_true, if_true, hw, lp, ev_calm, hr]
theorem e_law_both (a b : List (List Int)) (ha : a.length ≤ 1000) (hr : ∀ r ∈ a, r.length ≤ 1000) : f__law_both [D (enc a), D (enc b)] = .ok (.val (bothR a b)) [D (enc a), D (enc b)] := by
  unfold f__law_both
  rw [ev_Def]
  have lp := loopC_pure (bnd := bTup 2 (bCons (bName 3) (bCons (bName 4) bNil))) (mt := mYes) (me := asD (mA gTuple (mCons (asD (mLc (mIt (mVar 3)) (bName 5) (asT (m2 gIn (asD (mVar 5)) (asD (mVar 4)))) (asD (mVar 5)) [5])) mNil))) (vs := [3, 4]) (ρ0 := [D (enc a), D (enc b), none, none, none, none]) (fun _ => true)
    (fun p => match p with | .tuple [.tuple xs, .tuple ys] => .tuple (xs.filter fun d => isInD d ys) | _ => .none) (zipD (a.map row) (b.map row)) [] (fun p hp => by
    rw [zip_map] at hp
    obtain ⟨⟨r, q⟩, hm, rfl⟩ := List.mem_map.mp hp
    refine ⟨[D (enc a), D (enc b), none, D (row r), D (row q), none], rfl, _, rfl, fun _ => ⟨[D (enc a), D (enc b), none, D (row r), D (row q), none], ?_, rfl⟩, fun z => by cases z⟩
    have hin := inner_both 0 3 4 5 [D (enc a), D (enc b), none, D (row r), D (row q), none] r q (by simp) rfl rfl (by decide) (by decide) rfl (hr r (List.of_mem_zip hm).1)
    have hf : (r.map PyData.int).filter (fun d => isInD d (q.map .int)) = (r.filter fun c => q.contains c).map .int := by
      rw [List.filter_map]
      congr 1
      exact List.filter_congr fun c _ => by simp [inInts]
    simp only [ev_asD, ev_mA, ev_Cons, ev_Nil, hin, Res.bind_ok, ev_fz_lst, Res.of_some, gTuple, ev_fz_val, hf]) (by rw [zipD_len]; simp; omega)
  have hm : (zipD (a.map row) (b.map row)).map (fun p => match p with | .tuple [.tuple xs, .tuple ys] => PyData.tuple (xs.filter fun d => isInD d ys) | _ => .none) = (bothL a b).map row := by
    rw [zip_map, bothL, List.map_map, List.map_map]
    refine List.map_congr_left fun p _ => ?_
    have hf : (p.1.map PyData.int).filter (fun d => isInD d (p.2.map .int)) = (p.1.filter fun c => p.2.contains c).map .int := by
      rw [List.filter_map]
      congr 1
      exact List.filter_congr fun c _ => by simp [inInts]
    show PyData.tuple _ = PyData.tuple _
    rw [hf]
  rw [filt_true, hm, List.nil_append] at lp
  have g2 := gIn_empty (bothL a b)
  cases he : (bothL a b).any List.isEmpty <;> simp [lp, gTuple, g2, he, bothR]

theorem LockOk.l5 {m d : Int} {l : List (List Int)} (h : LockOk m d l) (hd : MD m d) : l.length ≤ 5 := by
  have := h.len
  have := hd.m5
  omega
theorem LockOk.r5 {m d : Int} {l : List (List Int)} (h : LockOk m d l) (hd : MD m d) : ∀ r ∈ l, r.length ≤ 5 := fun r hr => by
  have := h.rl hd r hr
  have := hd.d5
  omega
theorem e_both {m d : Int} (hd : MD m d) {a b : List (List Int)} (ha : LockOk m d a) (hb : LockOk m d b) : f_both_locks [D (mk m d), D (enc a), D (enc b)] = .ok (.val (bothR a b)) [D (mk m d), D (enc a), D (enc b)] := by
  unfold f_both_locks
  rw [ev_Def]
  have hl5 := ha.l5 hd
  have hr5 := ha.r5 hd
  have lp := loopC_pure (bnd := bTup 2 (bCons (bName 4) (bCons (bName 5) bNil))) (mt := mYes) (me := asD (mA gTuple (mCons (asD (mLc (mIt (mVar 4)) (bName 6) (asT (m2 gIn (asD (mVar 6)) (asD (mVar 5)))) (asD (mVar 6)) [6])) mNil))) (vs := [4, 5]) (ρ0 := [D (mk m d), D (enc a), D (enc b), none, none, none, none]) (fun _ => true)
    (fun p => match p with | .tuple [.tuple xs, .tuple ys] => .tuple (xs.filter fun d => isInD d ys) | _ => .none) (zipD (a.map row) (b.map row)) [] (fun p hp => by
    rw [zip_map] at hp
    obtain ⟨⟨r, q⟩, hm, rfl⟩ := List.mem_map.mp hp
    refine ⟨[D (mk m d), D (enc a), D (enc b), none, D (row r), D (row q), none], rfl, _, rfl, fun _ => ⟨[D (mk m d), D (enc a), D (enc b), none, D (row r), D (row q), none], ?_, rfl⟩, fun z => by cases z⟩
    have hin := inner_both 0 4 5 6 [D (mk m d), D (enc a), D (enc b), none, D (row r), D (row q), none] r q (by simp) rfl rfl (by decide) (by decide) rfl (by have := hr5 r (List.of_mem_zip hm).1; omega)
    have hf : (r.map PyData.int).filter (fun d => isInD d (q.map .int)) = (r.filter fun c => q.contains c).map .int := by
      rw [List.filter_map]
      congr 1
      exact List.filter_congr fun c _ => by simp [inInts]
    simp only [ev_asD, ev_mA, ev_Cons, ev_Nil, hin, Res.bind_ok, ev_fz_lst, Res.of_some, gTuple, ev_fz_val, hf]) (by rw [zipD_len]; simp; omega)
  have hm : (zipD (a.map row) (b.map row)).map (fun p => match p with | .tuple [.tuple xs, .tuple ys] => PyData.tuple (xs.filter fun d => isInD d ys) | _ => .none) = (bothL a b).map row := by
    rw [zip_map, bothL, List.map_map, List.map_map]
    refine List.map_congr_left fun p _ => ?_
    have hf : (p.1.map PyData.int).filter (fun d => isInD d (p.2.map .int)) = (p.1.filter fun c => p.2.contains c).map .int := by
      rw [List.filter_map]
      congr 1
      exact List.filter_congr fun c _ => by simp [inInts]
    show PyData.tuple _ = PyData.tuple _
    rw [hf]
  rw [filt_true, hm, List.nil_append] at lp
  have g2 := gIn_empty (bothL a b)
  have n1 := e_need_lock hd (lock_enc ha hd)
  have n2 := e_need_lock hd (lock_enc hb hd)
  cases he : (bothL a b).any List.isEmpty <;> simp [n1, n2, lp, gTuple, g2, he, bothR]
theorem x_both1 {m d : Int} (hd : MD m d) {x y : PyData} (hx : lockB m d x = false) : f_both_locks [D (mk m d), D x, D y] = .exc "BadLock" [] [D (mk m d), D x, D y] := by
  unfold f_both_locks
  rw [ev_Def]
  simp [x_need_lock hd hx]
theorem x_both2 {m d : Int} (hd : MD m d) {x y : PyData} (hx : lockB m d x = true) (hy : lockB m d y = false) : f_both_locks [D (mk m d), D x, D y] = .exc "BadLock" [] [D (mk m d), D x, D y] := by
  unfold f_both_locks
  rw [ev_Def]
  simp [e_need_lock hd hx, x_need_lock hd hy]
theorem x_within1 {m d : Int} (hd : MD m d) {x y : PyData} (hx : lockB m d x = false) : f_is_within [D (mk m d), D x, D y] = .exc "BadLock" [] [D (mk m d), D x, D y] := by
  unfold f_is_within
  rw [ev_Def]
  simp [x_need_lock hd hx]
theorem x_within2 {m d : Int} (hd : MD m d) {x y : PyData} (hx : lockB m d x = true) (hy : lockB m d y = false) : f_is_within [D (mk m d), D x, D y] = .exc "BadLock" [] [D (mk m d), D x, D y] := by
  unfold f_is_within
  rw [ev_Def]
  simp [e_need_lock hd hx, x_need_lock hd hy]
/-- every cut of the one is one of the other -/
def inL (a b : List (List Int)) : Bool := (a.zip b).all fun p => p.1.all fun c => p.2.contains c
theorem bools_of_map (bs : List Bool) : boolsOf (bs.map .bool) = some bs := by
  induction bs with
  | nil => rfl
  | cons x xs ih => simp [boolsOf, ih]
theorem flat_len {α β : Type} (f : α → List β) (k : Nat) : ∀ l : List α, (∀ x ∈ l, (f x).length ≤ k) → (l.flatMap f).length ≤ l.length * k
  | [], _ => by simp
  | x :: l, h => by
    have h1 := h x List.mem_cons_self
    have h2 := flat_len f k l fun y hy => h y (List.mem_cons_of_mem _ hy)
    rw [List.flatMap_cons, List.length_append, List.length_cons, Nat.add_mul]
    omega
def fstL : PyData → List PyData
  | .tuple [.tuple xs, _] => xs
  | _ => []
def hitP (p c : PyData) : PyData := match p with
  | .tuple [_, .tuple ys] => .bool (isInD c ys)
  | _ => .none
theorem e_within {m d : Int} (hd : MD m d) {a b : List (List Int)} (ha : LockOk m d a) (hb : LockOk m d b) : f_is_within [D (mk m d), D (enc a), D (enc b)] = .ok (tf (inL a b)) [D (mk m d), D (enc a), D (enc b)] := by
  unfold f_is_within
  rw [ev_Def]
  have hl5 := ha.l5 hd
  have hr5 := ha.r5 hd
  have lp := loopC2_pure (bnd := bTup 2 (bCons (bName 3) (bCons (bName 4) bNil))) (mt := mYes) (mi1 := mIt (mVar 3)) (bnd1 := bName 5) (mt1 := mYes) (me := asD (m2 gIn (asD (mVar 5)) (asD (mVar 4)))) (vs := [3, 4, 5]) (vs1 := [5]) (ρ0 := [D (mk m d), D (enc a), D (enc b), none, none, none])
    fstL hitP (zipD (a.map row) (b.map row)) [] (fun p hp => by
      rw [zip_map] at hp
      obtain ⟨⟨r, q⟩, hm, rfl⟩ := List.mem_map.mp hp
      refine ⟨[D (mk m d), D (enc a), D (enc b), D (row r), D (row q), none], rfl, _, rfl, [D (mk m d), D (enc a), D (enc b), D (row r), D (row q), none], rfl, rfl, fun e he => ?_⟩
      obtain ⟨c, _, rfl⟩ := List.mem_map.mp he
      refine ⟨[D (mk m d), D (enc a), D (enc b), D (row r), D (row q), D (.int c)], rfl, _, rfl, [D (mk m d), D (enc a), D (enc b), D (row r), D (row q), D (.int c)], ?_, rfl⟩
      have := gIn_row c q
      simp [this, inInts, hitP]) (by
      have h2 := flat_len fstL 5 (zipD (a.map row) (b.map row)) (fun p hp => by
        rw [zip_map] at hp
        obtain ⟨⟨r, q⟩, hm, rfl⟩ := List.mem_map.mp hp
        simpa [fstL] using hr5 r (List.of_mem_zip hm).1)
      rw [zipD_len] at h2
      have h3 : min (a.map row).length (b.map row).length ≤ 5 := by simp; omega
      have h4 : min (a.map row).length (b.map row).length * 5 ≤ 5 * 5 := Nat.mul_le_mul_right _ h3
      simp only [List.length_nil]
      omega)
  have hm : ((zipD (a.map row) (b.map row)).flatMap fun p => (fstL p).map (hitP p)) = ((a.zip b).flatMap fun p => p.1.map fun c => p.2.contains c).map .bool := by
    rw [zip_map]
    generalize a.zip b = z
    induction z with
    | nil => rfl
    | cons p z ih =>
      rw [List.map_cons, List.flatMap_cons, List.flatMap_cons, List.map_append, ih]
      congr 1
      show (p.1.map PyData.int).map _ = (p.1.map _).map _
      rw [List.map_map, List.map_map]
      exact List.map_congr_left fun c _ => by simp [inInts, hitP]
  rw [hm, List.nil_append] at lp
  have hall : ((a.zip b).flatMap fun p => p.1.map fun c => p.2.contains c).all id = inL a b := by
    unfold inL
    generalize a.zip b = z
    induction z with
    | nil => rfl
    | cons p z ih =>
      rw [List.flatMap_cons, List.all_append, ih, List.all_cons]
      congr 1
      rw [List.all_map]
      rfl
  have n1 := e_need_lock hd (lock_enc ha hd)
  have n2 := e_need_lock hd (lock_enc hb hd)
  simp only [ev_sSeq, ev_sExp, ev_asV, ev_Call, ev_argsV, ev_args0, ev_Var]
  simp [n1, n2, lp, gAll, bools_of_map, hall, vB, -List.map_map]
  simp [inL]
theorem e_count {m d : Int} (hd : MD m d) {a : List (List Int)} (ha : LockOk m d a) : f_count_keys [D (mk m d), D (enc a)] = .ok (.val (.int (cntI a))) [D (mk m d), D (enc a)] := by
  unfold f_count_keys
  rw [ev_Def]
  simp [e_need_lock hd (lock_enc ha hd), e_key_count a (ha.l5 hd) (ha.r5 hd)]
theorem e_keys {m d : Int} (hd : MD m d) {a : List (List Int)} (ha : LockOk m d a) (hc : cntI a ≤ 500) : f_keys_of [D (mk m d), D (enc a)] = .ok (.lst ((keysL a).map row)) [D (mk m d), D (enc a)] := by
  unfold f_keys_of
  rw [ev_Def]
  have h2 : ¬ (500 : Int) < cntI a := by omega
  simp [e_need_lock hd (lock_enc ha hd), e_key_count a (ha.l5 hd) (ha.r5 hd), e_key_list a (ha.l5 hd) (ha.r5 hd), gGt, vB, h2]
structure KeyOk (m d : Int) (k : List Int) : Prop where
  len : (k.length : Int) = m
  rg : ∀ c ∈ k, 0 ≤ c ∧ c < d
theorem key_form {m d : Int} {k : List Int} (h : KeyOk m d k) : (rowB m m (row k) && allT (inR 0 (d - 1)) (row k)) = true := by
  simp only [rowB, allT, List.length_map, h.len, Bool.and_eq_true, decide_eq_true_eq, Int.le_refl, true_and, and_self, List.all_eq_true]
  intro x hx
  obtain ⟨c, hc, rfl⟩ := List.mem_map.mp hx
  have := h.rg c hc
  simp [inR]
  omega
theorem e_opens {m d : Int} (hd : MD m d) {a : List (List Int)} (ha : LockOk m d a) {k : List Int} (hk : KeyOk m d k) : f_opens [D (mk m d), D (enc a), D (row k)] = .ok (tf (opL a k)) [D (mk m d), D (enc a), D (row k)] := by
  unfold f_opens
  rw [ev_Def]
  have h1 := hk.len
  have h2 := hd.m5
  simp [e_need_lock hd (lock_enc ha hd), e_need_key hd (key_form hk), e_does_open a k (by omega)]
end K02
/-! # K02N -/
set_option Elab.async false
set_option linter.all false
set_option maxRecDepth 100000
namespace K02
open PySem ML
/-! ## draws -/
abbrev L (s : List PyData) : Option B := some (.lst s)
def SrcOk (n : Nat) (s : List PyData) : Prop := ∃ a b c : Int, s = [.int a, .int b, .int c] ∧ 0 ≤ a ∧ 0 ≤ b ∧ b < 2 ^ 120 ∧ 0 ≤ c ∧ c ≤ n
theorem SrcOk.mono {n k : Nat} {s : List PyData} (h : SrcOk n s) (hk : n ≤ k) : SrcOk k s := by
  obtain ⟨a, b, c, e, h1, h2, h3, h4, h5⟩ := h
  exact ⟨a, b, c, e, h1, h2, h3, h4, by omega⟩
theorem lg {n k : Nat} (h : n < 2 ^ k) (hk : 0 < k) : n.log2 < k := by
  by_cases h0 : n = 0
  · subst h0
    simpa using hk
  · exact (Nat.log2_lt h0).mpr h
theorem p8 : gPow (.int 10) (.int 8) = some (.val (.int (10 ^ 8))) := by
  simp only [gPow]
  rw [if_pos (by decide)]
  rfl
theorem p18 : gPow (.int 10) (.int 18) = some (.val (.int (10 ^ 18))) := by
  simp only [gPow]
  rw [if_pos (by decide)]
  rfl
theorem p29 : gPow (.int 10) (.int 29) = some (.val (.int (10 ^ 29))) := by
  simp only [gPow]
  rw [if_pos (by decide)]
  rfl
theorem p38 : gPow (.int 10) (.int 38) = some (.val (.int (10 ^ 38))) := by
  simp only [gPow]
  rw [if_pos (by decide)]
  rfl
theorem p41 : gPow (.int 10) (.int 41) = some (.val (.int (10 ^ 41))) := by
  simp only [gPow]
  rw [if_pos (by decide)]
  rfl
theorem cube {i : Int} (h0 : 0 ≤ i) (h1 : i < 2 ^ 125) : gPow (.int i) (.int 3) = some (.val (.int (i ^ 3))) := by
  have hl : Builtin.Int.intBits i ≤ 126 := by
    unfold Builtin.Int.intBits
    split
    · omega
    · have := lg (n := i.natAbs) (k := 125) (by omega) (by omega)
      omega
  have hc : (0 : Int) ≤ 3 ∧ (Builtin.Int.intBits i : Int) * 3 ≤ 2 ^ 27 := by omega
  simp only [gPow]
  rw [if_pos hc]
  rfl
theorem wide_big {i j : Int} (h0 : i.natAbs < 2 ^ 200) (h1 : j.natAbs < 2 ^ 200) : wide2 i j = true := by
  unfold wide2
  have a := lg h0 (by omega)
  have b := lg h1 (by omega)
  exact decide_eq_true (by omega)
theorem e_take {n : Nat} {s : List PyData} (h : SrcOk n s) (hn : n ≤ 1000000) {many : Int} (h1 : 1 ≤ many) (h2 : many ≤ 8000) :
    ∃ r s', f__law_take [L s, D (.int many)] = .ok (.val (.int r)) [L s', D (.int many)] ∧ 0 ≤ r ∧ r < many ∧ SrcOk (n + 1) s' := by
  obtain ⟨a, b, c, rfl, ha, hb, hb2, hc, hc2⟩ := h
  have lm : many.natAbs.log2 < 9000 := by
    have := Nat.log2_le_self many.natAbs
    omega
  have m0 : 0 < many := by omega
  by_cases h : 0 < a
  · refine ⟨a % many, [.int (a / many), .int b, .int c], ?_, Int.emod_nonneg _ (by omega), Int.emod_lt_of_pos _ m0, a / many, b, c, rfl, Int.ediv_nonneg (by omega) (by omega), hb, hb2, hc, by omega⟩
    unfold f__law_take
    rw [ev_Def]
    simp [gIdx, L2.atI, L2.ixN, gGt, vB, h, gInt, vI, gMod, m0, gFdiv, lm]
  · have c1 : 0 ≤ b + 31415926535897931 * (c + 1) := by omega
    have c2 : b + 31415926535897931 * (c + 1) < 2 ^ 125 := by omega
    have q := cube c1 c2
    generalize hX : (b + 31415926535897931 * (c + 1)) ^ 3 % (100000000000000000000000000000000000133 : Int) = x at *
    have x0 : 0 ≤ x := by rw [← hX]; exact Int.emod_nonneg _ (by decide)
    have x1 : x < 100000000000000000000000000000000000133 := by rw [← hX]; exact Int.emod_lt_of_pos _ (by decide)
    have w1 : wide2 31415926535897931 (c + 1) = true := wide_big (by decide) (by omega)
    have w2 : wide2 27182818284590451 (c + 1) = true := wide_big (by decide) (by omega)
    have w3 : wide2 x x = true := wide_big (by omega) (by omega)
    generalize hY : (x * x + 27182818284590451 * (c + 1) + 7) % (100000000000000000000000000000000000000109 : Int) = y at *
    refine ⟨(y / 100000000) % many, [.int a, .int b, .int (c + 1)], ?_, Int.emod_nonneg _ (by omega), Int.emod_lt_of_pos _ m0, a, b, c + 1, rfl, ha, hb, hb2, by omega, by omega⟩
    have k8 : gFdiv (.int y) (.int 100000000) = some (.val (.int (y / 100000000))) := by
      simp only [gFdiv]
      rw [if_pos (by decide)]
      rfl
    unfold f__law_take
    rw [ev_Def]
    have g38 : (0 : Int) < 100000000000000000000000000000000000133 := by decide
    have g41 : (0 : Int) < 100000000000000000000000000000000000000109 := by decide
    simp [gIdx, L2.atI, L2.ixN, gGt, vB, h, gInt, vI, gMod, m0, gAdd, gMulX, gMul, p8, p38, p41, q, w1, w2, hX, w3, hY, k8]

theorem nat_int {r : Int} (h0 : 0 ≤ r) {α : Type} {xs : List α} (h1 : r < xs.length) : ∃ x, xs[r.toNat]? = some x ∧ x ∈ xs ∧ L2.atI xs r = some x := by
  have hlt : r.toNat < xs.length := by omega
  refine ⟨xs[r.toNat], by simp [hlt], List.getElem_mem hlt, ?_⟩
  simp [L2.atI, L2.ixN, h0, h1, hlt]
theorem e_pickT {n : Nat} {s : List PyData} (h : SrcOk n s) (hn : n ≤ 1000000) {xs : List PyData} (h1 : xs ≠ []) (h2 : xs.length ≤ 8000) :
    ∃ x s', f__law_pick [L s, D (.tuple xs)] = .ok (.val x) [L s', D (.tuple xs)] ∧ x ∈ xs ∧ SrcOk (n + 1) s' := by
  have hl : 1 ≤ (xs.length : Int) := by
    have : xs.length ≠ 0 := fun e => h1 (List.eq_nil_of_length_eq_zero e)
    omega
  obtain ⟨r, s', e, r0, r1, hs⟩ := e_take h hn hl (by omega)
  obtain ⟨x, _, hx, hi⟩ := nat_int r0 r1
  refine ⟨x, s', ?_, hx, hs⟩
  unfold f__law_pick
  rw [ev_Def]
  simp [gLen, vI, e, gIdx, hi]
theorem e_pickL {n : Nat} {s : List PyData} (h : SrcOk n s) (hn : n ≤ 1000000) {xs : List PyData} (h1 : xs ≠ []) (h2 : xs.length ≤ 8000) :
    ∃ x s', f__law_pick [L s, D (.list xs)] = .ok (.val x) [L s', D (.list xs)] ∧ x ∈ xs ∧ SrcOk (n + 1) s' := by
  have hl : 1 ≤ (xs.length : Int) := by
    have : xs.length ≠ 0 := fun e => h1 (List.eq_nil_of_length_eq_zero e)
    omega
  obtain ⟨r, s', e, r0, r1, hs⟩ := e_take h hn hl (by omega)
  obtain ⟨x, _, hx, hi⟩ := nat_int r0 r1
  refine ⟨x, s', ?_, hx, hs⟩
  unfold f__law_pick
  rw [ev_Def]
  simp [gLen, vI, e, gIdx, hi]
/-! ### mixed -/
theorem perm_erase {α : Type} {y : α} : ∀ {l : List α} {i : Nat}, l[i]? = some y → (y :: l.eraseIdx i).Perm l
  | [], _, h => by simp at h
  | x :: l, 0, h => by
    simp at h
    subst h
    simp
  | x :: l, i + 1, h => by
    simp at h
    rw [List.eraseIdx_cons_succ]
    exact (List.Perm.swap x y _).trans ((perm_erase h).cons x)
theorem loop_mixed (th : PyData) : ∀ (ts left found : List PyData) (n : Nat) (s : List PyData) (x : Option B), ts.length = left.length → SrcOk n s → n + left.length ≤ 1000000 → left.length + found.length ≤ 1000 →
    ∃ s' ys y, loopS (bName 4) (sExp (mAppend 3 (asD (mPopAt 2 (asD (mCall f__law_take [.rf 0, .vl (mLenV 2)])))))) ts [L s, D th, L left, L found, x] = .nx [L s', D th, L [], L (found ++ ys), y] ∧ ys.Perm left ∧ SrcOk (n + left.length) s'
  | [], [], found, n, s, x, _, hs, _, _ => ⟨s, [], x, by simp [loopS], .refl _, hs⟩
  | [], _ :: _, _, _, _, _, hl, _, _, _ => by simp at hl
  | _ :: _, [], _, _, _, _, hl, _, _, _ => by simp at hl
  | t :: ts, a :: left, found, n, s, x, hl, hs, hn, hz => by
    have hlen : 1 ≤ (((a :: left).length : Nat) : Int) := by
      rw [List.length_cons]
      omega
    have hz' : left.length + 1 + found.length ≤ 1000 := hz
    obtain ⟨r, s', e, r0, r1, hs'⟩ := e_take (many := (((a :: left).length : Nat) : Int)) hs (by omega) hlen (by simp; omega)
    obtain ⟨y, hy, hm, _⟩ := nat_int r0 r1
    have hlt : r.toNat < (a :: left).length := by omega
    have hel : ((a :: left).eraseIdx r.toNat).length = left.length := by
      rw [List.length_eraseIdx, if_pos hlt]
      simp
    obtain ⟨s2, ys, z, e2, hp, hs2⟩ := loop_mixed th ts ((a :: left).eraseIdx r.toNat) (found ++ [y]) (n + 1) s' (D t) (by rw [hel]; simpa using hl) hs' (by rw [hel]; simp at hn; omega) (by rw [hel]; simp; omega)
    refine ⟨s2, y :: ys, z, ?_, ?_, ?_⟩
    · unfold loopS
      have hf : found.length < 16777216 := by omega
      have hr : r < 2 ^ 62 := by
        simp at r1
        omega
      have hy' : (a :: left)[r.toNat]? = some y := hy
      have e' : f__law_take [L s, D (.int ((left.length : Int) + 1))] = .ok (.val (.int r)) [L s', D (.int ((left.length : Int) + 1))] := by simpa using e
      rw [show found ++ y :: ys = found ++ [y] ++ ys by simp, ← e2]
      have hr2 : r < 4611686018427387904 := by simpa using hr
      simp [gLen, vI, e', r0, hr2, hy', hf]
    · have h1 : ((a :: left).eraseIdx r.toNat).Perm ((a :: left).eraseIdx r.toNat) := .refl _
      have h2 : (y :: (a :: left).eraseIdx r.toNat).Perm (a :: left) := perm_erase hy
      exact (hp.cons y).trans h2
    · rw [hel] at hs2
      exact hs2.mono (by simp; omega)
theorem e_mixed {n : Nat} {s : List PyData} (h : SrcOk n s) {xs : List PyData} (hx : xs.length ≤ 500) (hn : n + xs.length ≤ 1000000) :
    ∃ ys s', f__law_mixed [L s, D (.list xs)] = .ok (.lst ys) [L s', D (.list xs)] ∧ ys.Perm xs ∧ SrcOk (n + xs.length) s' := by
  obtain ⟨s', ys, y, e, hp, hs⟩ := loop_mixed (.list xs) (rgD 0 xs.length) xs [] n s none (by unfold rgD; rw [List.length_map, List.length_range]) h hn (by rw [List.length_nil]; omega)
  refine ⟨ys, s', ?_, hp, hs⟩
  rw [List.nil_append] at e
  obtain ⟨z, gl, h3, h2, hz⟩ : ∃ z : Int, gLen [PyData.list xs] = some (.val (.int z)) ∧ -4611686018427387904 ≤ z ∧ z < 4611686018427387904 ∧ z.toNat = xs.length := ⟨xs.length, rfl, by omega, by omega, Int.toNat_natCast _⟩
  rw [← hz] at e
  have e1 : sPar2 2 3 (mA gList (mCons (asD (mVar 1)) mNil)) (mLst mNil) [L s, D (.list xs), none, none, none] = .nx [L s, D (.list xs), L xs, L [], none] := by simp [gList]
  have e2 : mRg1 (mCons (asD (mLenV 1)) mNil) [L s, D (.list xs), L xs, L [], none] = .ok (rgD 0 z.toNat) [L s, D (.list xs), L xs, L [], none] := by simp [gl, h2, h3]
  have e3 : sFor (mRg1 (mCons (asD (mLenV 1)) mNil)) (bName 4) (sExp (mAppend 3 (asD (mPopAt 2 (asD (mCall f__law_take [.rf 0, .vl (mLenV 2)])))))) [L s, D (.list xs), L xs, L [], none] = .nx [L s', D (.list xs), L [], L ys, y] := by
    rw [ev_sFor, e2]
    exact e
  have e4 : (sSeq (sPar2 2 3 (mA gList (mCons (asD (mVar 1)) mNil)) (mLst mNil)) (sSeq (sFor (mRg1 (mCons (asD (mLenV 1)) mNil)) (bName 4) (sExp (mAppend 3 (asD (mPopAt 2 (asD (mCall f__law_take [.rf 0, .vl (mLenV 2)]))))))) (sRetV 3))) [L s, D (.list xs), none, none, none] = .rt (.lst ys) [L s', D (.list xs), L [], none, y] := by
    rw [ev_sSeq, e1, SRes.seq_nx, ev_sSeq, e3]
    rfl
  exact def_rt (pr := [true, true]) (l := 5) rfl e4 rfl
/-! ### makes, locks -/
theorem e_make {n : Nat} {s : List PyData} (h : SrcOk n s) (hn : n + 2 ≤ 1000000) : ∃ m d s', f__law_make [L s] = .ok (.val (mk m d)) [L s'] ∧ MD m d ∧ SrcOk (n + 2) s' := by
  obtain ⟨r, s1, e1, a1, a2, h1⟩ := e_take h (by omega) (many := 5) (by omega) (by omega)
  obtain ⟨q, s2, e2, b1, b2, h2⟩ := e_take h1 (by omega) (many := 4) (by omega) (by omega)
  refine ⟨1 + r, 2 + q, s2, ?_, ⟨by omega, by omega, by omega, by omega⟩, h2⟩
  unfold f__law_make
  rw [ev_Def]
  simp [e1, e2, gAdd, vI]
theorem loop_cuts (d : PyData) : ∀ (is acc : List Int) (n : Nat) (s : List PyData), SrcOk n s → n + is.length ≤ 1000000 → acc.length + is.length ≤ 1000 →
    ∃ s' sub, loopC (bName 3) (asT (m2 gEqS (asD (mCall f__law_take [.rf 0, .vl (mC (.int 2))])) (asD (mC (.int 0))))) (asD (mVar 3)) [3] (is.map .int) (acc.map .int) [L s, D d, none, none] = .ok ((acc ++ sub).map .int) [L s', D d, none, none] ∧ sub.Sublist is ∧ SrcOk (n + is.length) s'
  | [], acc, n, s, hs, _, _ => ⟨s, [], by simp [loopC], .slnil, hs⟩
  | i :: is, acc, n, s, hs, hn, hz => by
    have hn' : n + (is.length + 1) ≤ 1000000 := hn
    have hz' : acc.length + (is.length + 1) ≤ 1000 := hz
    obtain ⟨r, s1, e1, a1, a2, h1⟩ := e_take hs (by omega) (many := 2) (by omega) (by omega)
    have hq : gEq (.int r) (.int 0) = some (tf (r == 0)) := by
      simp [gEq, vB, PyData.eqv]
    by_cases hr : r = 0
    · subst hr
      obtain ⟨s2, sub, e2, hsub, h2⟩ := loop_cuts d is (acc ++ [i]) (n + 1) s1 h1 (by omega) (by simp; omega)
      refine ⟨s2, i :: sub, ?_, hsub.cons₂ i, h2.mono (by simp; omega)⟩
      have hf : acc.length < 16777216 := by omega
      have e3 : (acc ++ [i]).map PyData.int = acc.map PyData.int ++ [.int i] := by simp
      rw [e3] at e2
      conv => lhs; unfold loopC
      rw [List.map_cons]
      simp only [ev_bName, List.set_cons_succ, List.set_cons_zero]
      simp [e1, hq, hf, e2]
    · obtain ⟨s2, sub, e2, hsub, h2⟩ := loop_cuts d is acc (n + 1) s1 h1 (by omega) (by omega)
      refine ⟨s2, sub, ?_, hsub.cons i, h2.mono (by simp; omega)⟩
      conv => lhs; unfold loopC
      rw [List.map_cons]
      simp only [ev_bName, List.set_cons_succ, List.set_cons_zero]
      simp [e1, hq, hr, e2]
def rng (n : Int) : List Int := (List.range n.toNat).map fun (i : Nat) => (i : Int)
theorem rng_len (n : Int) : (rng n).length = n.toNat := by simp [rng]
theorem rng_mem {n c : Int} : c ∈ rng n ↔ 0 ≤ c ∧ c < n := by
  simp only [rng, List.mem_map, List.mem_range]
  constructor
  · rintro ⟨i, h, rfl⟩
    omega
  · rintro ⟨h1, h2⟩
    exact ⟨c.toNat, by omega, by omega⟩
theorem rng_asc (n : Int) : (rng n).Pairwise (· < ·) := by
  unfold rng
  rw [List.pairwise_map]
  exact (List.pairwise_lt_range).imp fun h => by omega
theorem rgD_rng (n : Int) : rgD 0 n.toNat = (rng n).map .int := by
  unfold rgD rng
  rw [List.map_map]
  exact List.map_congr_left fun i _ => by simp
theorem rgI_rng (n : Int) : rgI 0 n = (rng n).map .int := by
  unfold rgI rng
  rw [List.map_map, Int.sub_zero]
  exact List.map_congr_left fun i _ => by simp
theorem e_cuts {n : Nat} {s : List PyData} (h : SrcOk n s) (hn : n + 6 ≤ 1000000) {d : Int} (d1 : 1 ≤ d) (d5 : d ≤ 5) :
    ∃ r s', f__law_cuts [L s, D (.int d)] = .ok (.val (row r)) [L s', D (.int d)] ∧ r ≠ [] ∧ (∀ c ∈ r, 0 ≤ c ∧ c < d) ∧ r.Pairwise (· < ·) ∧ SrcOk (n + 6) s' := by
  have hlen := rng_len d
  obtain ⟨s1, sub, e1, hsub, h1⟩ := loop_cuts (.int d) (rng d) [] n s h (by omega) (by simp; omega)
  have hd1 : -4611686018427387904 ≤ d := by omega
  have hd2 : d < 4611686018427387904 := by omega
  simp only [List.map_nil, List.nil_append] at e1
  by_cases hs : sub = []
  · subst hs
    obtain ⟨r, s2, e2, a1, a2, h2⟩ := e_take h1 (by omega) d1 (by omega)
    refine ⟨[r], s2, ?_, by simp, by simp; omega, by simp, h2.mono (by omega)⟩
    unfold f__law_cuts
    rw [ev_Def]
    have hne : gNe (.list []) (.list []) = some (tf false) := rfl
    simp only [List.map_nil] at e1
    simp [hd1, hd2, rgD_rng, e1, hne, e2]
  · refine ⟨sub, s1, ?_, hs, fun c hc => rng_mem.mp (hsub.subset hc), (rng_asc d).sublist hsub, h1.mono (by omega)⟩
    unfold f__law_cuts
    rw [ev_Def]
    have hne : gNe (.list (sub.map .int)) (.list []) = some (tf true) := by
      have h2 : SeqAt.shaped (.list (sub.map .int)) = true := by simp [SeqAt.shaped, PyData.canLay0, canInts, PyData.depth, depInts]
      have h3 : SeqAt.shaped (.list []) = true := rfl
      cases sub with
      | nil => exact absurd rfl hs
      | cons c sub =>
        unfold gNe
        rw [if_pos ⟨h2, h3⟩]
        rfl
    simp [hd1, hd2, rgD_rng, e1, hne, gTuple]
end K02
/-! # K02O -/
set_option Elab.async false
set_option linter.all false
set_option maxRecDepth 100000
namespace K02
open PySem ML
/-! ### a lock is drawn -/
structure RowOk (d : Int) (r : List Int) : Prop where
  ne : r ≠ []
  rg : ∀ c ∈ r, 0 ≤ c ∧ c < d
  asc : r.Pairwise (· < ·)
theorem loop_lock {m d : Int} (d1 : 1 ≤ d) (d5 : d ≤ 5) : ∀ (ts : List PyData) (acc : List (List Int)) (n : Nat) (s : List PyData), SrcOk n s → n + 6 * ts.length ≤ 1000000 → acc.length + ts.length ≤ 1000 →
    ∃ s' l, loopC (bName 2) mYes (asD (mCall f__law_cuts [.rf 0, .vl (mIdxV 1 (asD (mC (.int 1))))])) [2] ts (acc.map row) [L s, D (mk m d), none] = .ok ((acc ++ l).map row) [L s', D (mk m d), none] ∧ l.length = ts.length ∧ (∀ r ∈ l, RowOk d r) ∧ SrcOk (n + 6 * ts.length) s'
  | [], acc, n, s, hs, _, _ => ⟨s, [], by simp [loopC], rfl, by simp, hs⟩
  | t :: ts, acc, n, s, hs, hn, hz => by
    have hn' : n + 6 * (ts.length + 1) ≤ 1000000 := hn
    have hz' : acc.length + (ts.length + 1) ≤ 1000 := hz
    obtain ⟨r, s1, e1, a1, a2, a3, h1⟩ := e_cuts hs (by omega) d1 d5
    obtain ⟨s2, l, e2, hl, hr, h2⟩ := loop_lock d1 d5 ts (acc ++ [r]) (n + 6) s1 h1 (by omega) (by rw [List.length_append, List.length_singleton]; omega)
    refine ⟨s2, r :: l, ?_, by rw [List.length_cons, List.length_cons, hl], fun q hq => ?_, h2.mono (by rw [List.length_cons]; omega)⟩
    · have hf : acc.length < 16777216 := by omega
      have e3 : (acc ++ [r]).map row = acc.map row ++ [row r] := by rw [List.map_append]; rfl
      rw [e3] at e2
      rw [show acc ++ r :: l = acc ++ [r] ++ l by simp, ← e2]
      conv => lhs; unfold loopC
      simp [e1, hf]
    · rcases List.mem_cons.mp hq with rfl | hq
      · exact ⟨a1, a2, a3⟩
      · exact hr q hq
theorem e_lock {m d : Int} (hd : MD m d) {n : Nat} {s : List PyData} (h : SrcOk n s) (hn : n + 30 ≤ 1000000) :
    ∃ l s', f__law_lock [L s, D (mk m d)] = .ok (.val (enc l)) [L s', D (mk m d)] ∧ LockOk m d l ∧ SrcOk (n + 30) s' := by
  have h1 := hd.m1
  have h2 := hd.m5
  have h3 := hd.d2
  have h4 := hd.d5
  have hlen : (rgD 0 m.toNat).length = m.toNat := by unfold rgD; rw [List.length_map, List.length_range]
  obtain ⟨s1, l, e1, hl, hr, hs⟩ := loop_lock (m := m) (d := d) (by omega) (by omega) (rgD 0 m.toNat) [] n s h (by omega) (by rw [List.length_nil]; omega)
  refine ⟨l, s1, ?_, ⟨by omega, fun r hr' => (hr r hr').ne, fun r hr' => (hr r hr').rg, fun r hr' => (hr r hr').asc⟩, hs.mono (by omega)⟩
  rw [List.map_nil, List.nil_append] at e1
  have c1 : -4611686018427387904 ≤ m := by omega
  have c2 : m < 4611686018427387904 := by omega
  have e2 : mLc (mRg1 (mCons (asD (mIdxV 1 (asD (mC (.int 0))))) mNil)) (bName 2) mYes (asD (mCall f__law_cuts [.rf 0, .vl (mIdxV 1 (asD (mC (.int 1))))])) [2] [L s, D (mk m d), none] = .ok (.lst (l.map row)) [L s1, D (mk m d), none] := by
    simp [c1, c2, e1]
  refine def_rt (pr := [true, true]) (l := 3) (ρ0 := [L s, D (mk m d), none]) (ρ' := [L s1, D (mk m d), none]) rfl ?_ rfl
  rw [ev_sRet, ev_mA, ev_Cons, ev_asD, e2]
  simp [gTuple]
/-! ### the source -/
theorem e_source (ns : List Int) {k : Int} (h0 : 0 ≤ k) (h3 : k < 3) : ∃ s, f__law_source [some (.scr ns), D (.int k)] = .ok (.lst s) [some (.scr ns), D (.int k)] ∧ SrcOk 0 s := by
  obtain ⟨cell, hc⟩ : ∃ cell : Int, mIf (asT (m2 gLt (asD (mVar 1)) (asD (mLenV 0)))) (mScr 0 (asD (mVar 1))) (mC (.int 0)) [some (.scr ns), D (.int k), none] = .ok (.val (.int cell)) [some (.scr ns), D (.int k), none] := by
    by_cases hk : k < ns.length
    · obtain ⟨x, _, _, hx⟩ := nat_int h0 hk
      exact ⟨x, by simp [gLt, vB, hk, hx, B.fz]⟩
    · exact ⟨0, by simp [gLt, vB, hk, B.fz]⟩
  have g29 : (0 : Int) < 100000000000000000000000000319 := by decide
  have w1 : wide2 (cell % 100000000000000000000000000319) 1013 = true := wide_big (by omega) (by decide)
  have w2 : wide2 8513 k = true := wide_big (by decide) (by omega)
  refine ⟨[.int (if cell - 1000000000000000000 > 0 then cell - 1000000000000000000 else 0), .int (cell % 100000000000000000000000000319 * 1013 + 8513 * k + 91), .int 0], ?_, _, _, _, rfl, ?_, by omega, by omega, by omega, by omega⟩
  · refine def_rt (pr := [true, true]) (l := 3) (ρ0 := [some (.scr ns), D (.int k), none]) (ρ' := [some (.scr ns), D (.int k), D (.int cell)]) rfl ?_ rfl
    rw [ev_sSeq, ev_sSet, hc]
    simp [gMax2, vI, gSub, p18, p29, gAdd, gMod, g29, gInt, gMulX, gMul, w1, w2]
  · split <;> omega
/-! ### a turn -/
theorem ints_perm {ys : List PyData} {r : List Int} (hp : ys.Perm (r.map .int)) : ∃ c : List Int, ys = c.map .int ∧ c.Perm r := by
  have : ∀ y ∈ ys, ∃ i, y = PyData.int i := fun y hy => by
    obtain ⟨i, _, rfl⟩ := List.mem_map.mp (hp.mem_iff.mp hy)
    exact ⟨i, rfl⟩
  obtain ⟨c, rfl⟩ : ∃ c : List Int, ys = c.map .int := by
    clear hp
    induction ys with
    | nil => exact ⟨[], rfl⟩
    | cons y ys ih =>
      obtain ⟨i, rfl⟩ := this y List.mem_cons_self
      obtain ⟨c, rfl⟩ := ih fun z hz => this z (List.mem_cons_of_mem _ hz)
      exact ⟨i :: c, rfl⟩
  refine ⟨c, rfl, ?_⟩
  have := hp.map fun d : PyData => match d with | .int i => i | _ => 0
  simpa [List.map_map, Function.comp_def] using this
theorem rgOk5 {d : Int} (d1 : 0 ≤ d) (d5 : d ≤ 5) : rgOkB 0 d = true := by
  have h : d = 0 ∨ d = 1 ∨ d = 2 ∨ d = 3 ∨ d = 4 ∨ d = 5 := by omega
  rcases h with rfl | rfl | rfl | rfl | rfl | rfl <;> decide
theorem mixed_rg {m d : Int} (d1 : 0 ≤ d) (d5 : d ≤ 5) {i : Nat} {o t : PyData} {s s1 c : List PyData} (e1 : f__law_mixed [L s, D (.list ((rng d).map .int))] = .ok (.lst c) [L s1, D (.list ((rng d).map .int))]) :
    mCall f__law_mixed [.rf 0, .vl (mLRg1 (asD (mIdxV 1 (asD (mC (.int 1))))))] [L s, D (mk m d), D o, D t] = .ok (.lst c) [L s1, D (mk m d), D o, D t] := by
  have eL : mLRg1 (asD (mIdxV 1 (asD (mC (.int 1))))) [L s, D (mk m d), D o, D t] = .ok (.lst ((rng d).map .int)) [L s, D (mk m d), D o, D t] := by
    have e0 : asD (mIdxV 1 (asD (mC (.int 1)))) [L s, D (mk m d), D o, D t] = .ok (.int d) [L s, D (mk m d), D o, D t] := rfl
    rw [ev_LRg1, e0]
    show (if rgOkB 0 d = true then Res.ok (B.lst (rgI 0 d)) _ else _) = _
    rw [if_pos (rgOk5 d1 d5), rgI_rng]
  have eA : mArgs [.rf 0, .vl (mLRg1 (asD (mIdxV 1 (asD (mC (.int 1))))))] [L s, D (mk m d), D o, D t] = .ok [none, D (.list ((rng d).map .int))] [L s, D (mk m d), D o, D t] := by
    rw [ev_argsR]
    show (mArgs [.vl _] [L s, D (mk m d), D o, D t]).bind _ = _
    rw [ev_argsV, ev_asV, eL]
    rfl
  rw [ev_Call, eA, Res.bind_ok]
  rw [show fillA [.rf 0, .vl (mLRg1 (asD (mIdxV 1 (asD (mC (.int 1))))))] [none, D (.list ((rng d).map .int))] [L s, D (mk m d), D o, D t] = [L s, D (.list ((rng d).map .int))] from rfl, e1, backR_ok]
  rfl
theorem loop_turn {m d : Int} (d1 : 0 ≤ d) (d5 : d ≤ 5) (o : PyData) : ∀ (ts : List PyData) (acc : List (List Int)) (n : Nat) (s : List PyData), SrcOk n s → n + 6 * ts.length ≤ 1000000 → acc.length + ts.length ≤ 1000 →
    ∃ s' l, loopC (bName 3) mYes (asD (mCall f__law_mixed [.rf 0, .vl (mLRg1 (asD (mIdxV 1 (asD (mC (.int 1))))))])) [3] ts (acc.map fun c => .list (c.map .int)) [L s, D (mk m d), D o, none] = .ok ((acc ++ l).map fun c => .list (c.map .int)) [L s', D (mk m d), D o, none] ∧ l.length = ts.length ∧ (∀ c ∈ l, c.Perm (rng d)) ∧ SrcOk (n + 6 * ts.length) s'
  | [], acc, n, s, hs, _, _ => ⟨s, [], by simp [loopC], rfl, by simp, hs⟩
  | t :: ts, acc, n, s, hs, hn, hz => by
    have hn' : n + 6 * (ts.length + 1) ≤ 1000000 := hn
    have hz' : acc.length + (ts.length + 1) ≤ 1000 := hz
    have hrl : ((rng d).map PyData.int).length = d.toNat := by rw [List.length_map, rng_len]
    obtain ⟨ys, s1, e1, hp, h1⟩ := e_mixed (xs := (rng d).map .int) hs (by omega) (by omega)
    obtain ⟨c, rfl, hpc⟩ := ints_perm hp
    obtain ⟨s2, l, e2, hl, hr, h2⟩ := loop_turn (m := m) d1 d5 o ts (acc ++ [c]) (n + 6) s1 (h1.mono (by omega)) (by omega) (by rw [List.length_append, List.length_singleton]; omega)
    refine ⟨s2, c :: l, ?_, by rw [List.length_cons, List.length_cons, hl], fun q hq => ?_, h2.mono (by rw [List.length_cons]; omega)⟩
    · have hf : acc.length < 16777216 := by omega
      have e3 : (acc ++ [c]).map (fun c => PyData.list (c.map .int)) = acc.map (fun c => PyData.list (c.map .int)) ++ [.list (c.map .int)] := by rw [List.map_append]; rfl
      rw [e3] at e2
      rw [show acc ++ c :: l = acc ++ [c] ++ l by simp, ← e2]
      refine loopC_step (ρ1 := [L s, D (mk m d), D o, D t]) (ρ3 := [L s1, D (mk m d), D o, D t]) rfl rfl ?_ (by rw [List.length_map]; exact hf) rfl
      rw [ev_asD, mixed_rg d1 d5 (i := 3) (o := o) e1]
      rfl
    · rcases List.mem_cons.mp hq with rfl | hq
      · exact hpc
      · exact hr q hq
abbrev turnD (o : List Int) (cs : List (List Int)) : PyData := .tuple [.list (o.map .int), .list (cs.map fun c => .list (c.map .int))]
theorem e_turn {m d : Int} (hd : MD m d) {n : Nat} {s : List PyData} (h : SrcOk n s) (hn : n + 36 ≤ 1000000) :
    ∃ o cs s', f__law_turn [L s, D (mk m d)] = .ok (.val (turnD o cs)) [L s', D (mk m d)] ∧ o.Perm (rng m) ∧ (cs.length : Int) = m ∧ (∀ c ∈ cs, c.Perm (rng d)) ∧ SrcOk (n + 36) s' := by
  have h1 := hd.m1
  have h2 := hd.m5
  have h3 := hd.d2
  have h4 := hd.d5
  have hrl : ((rng m).map PyData.int).length = m.toNat := by rw [List.length_map, rng_len]
  obtain ⟨ys, s1, e1, hp, hs1⟩ := e_mixed (xs := (rng m).map .int) h (by omega) (by omega)
  obtain ⟨o, rfl, hpo⟩ := ints_perm hp
  have hol : o.length = m.toNat := by rw [hpo.length_eq, rng_len]
  obtain ⟨s2, cs, e2, hl, hr, hs2⟩ := loop_turn (m := m) (d := d) (by omega) (by omega) (.list (o.map .int)) (o.map .int) [] (n + m.toNat) s1 (hs1.mono (by omega)) (by rw [List.length_map]; omega) (by rw [List.length_nil, List.length_map]; omega)
  rw [List.length_map] at hl hs2
  refine ⟨o, cs, s2, ?_, hpo, by omega, hr, hs2.mono (by omega)⟩
  rw [List.map_nil, List.nil_append] at e2
  have hro := rgOk5 (d := m) (by omega) h2
  have eL : mLRg1 (asD (mIdxV 1 (asD (mC (.int 0))))) [L s, D (mk m d), none, none] = .ok (.lst ((rng m).map .int)) [L s, D (mk m d), none, none] := by
    have e0 : asD (mIdxV 1 (asD (mC (.int 0)))) [L s, D (mk m d), none, none] = .ok (.int m) [L s, D (mk m d), none, none] := rfl
    rw [ev_LRg1, e0]
    show (if rgOkB 0 m = true then Res.ok (B.lst (rgI 0 m)) _ else _) = _
    rw [if_pos hro, rgI_rng]
  have e3 : sSet 2 (mCall f__law_mixed [.rf 0, .vl (mLRg1 (asD (mIdxV 1 (asD (mC (.int 0))))))]) [L s, D (mk m d), none, none] = .nx [L s1, D (mk m d), L (o.map .int), none] := by
    have eA : mArgs [.rf 0, .vl (mLRg1 (asD (mIdxV 1 (asD (mC (.int 0))))))] [L s, D (mk m d), none, none] = .ok [none, D (.list ((rng m).map .int))] [L s, D (mk m d), none, none] := by
      rw [ev_argsR]
      show (mArgs [.vl _] [L s, D (mk m d), none, none]).bind _ = _
      rw [ev_argsV, ev_asV, eL]
      rfl
    rw [ev_sSet, ev_Call, eA, Res.bind_ok]
    rw [show fillA [.rf 0, .vl (mLRg1 (asD (mIdxV 1 (asD (mC (.int 0))))))] [none, D (.list ((rng m).map .int))] [L s, D (mk m d), none, none] = [L s, D (.list ((rng m).map .int))] from rfl, e1, backR_ok]
    rfl
  refine def_rt (pr := [true, true]) (l := 4) (ρ0 := [L s, D (mk m d), none, none]) (ρ' := [L s2, D (mk m d), D (.list (o.map .int)), none]) rfl ?_ rfl
  rw [ev_sSeq, e3, SRes.seq_nx]
  have e4 : mLc (mIt (mVar 2)) (bName 3) mYes (asD (mCall f__law_mixed [.rf 0, .vl (mLRg1 (asD (mIdxV 1 (asD (mC (.int 1))))))])) [3] [L s1, D (mk m d), D (.list (o.map .int)), none] = .ok (.lst (cs.map fun c => .list (c.map .int))) [L s2, D (mk m d), D (.list (o.map .int)), none] := by
    have ei : mIt (mVar 2) [L s1, D (mk m d), D (.list (o.map .int)), none] = .ok (o.map .int) [L s1, D (mk m d), D (.list (o.map .int)), none] := rfl
    rw [ev_Lc, ei, Res.bind_ok]
    show (if true = true then calmR (loopC _ _ _ _ _ [] [L s1, D (mk m d), D (.list (o.map .int)), none]) _ else _) = _
    rw [if_pos rfl, e2]
    rfl
  rw [ev_sRet, ev_Tup, ev_Cons, ev_asD, ev_Var]
  simp only [List.getElem?_cons_succ, List.getElem?_cons_zero, Res.bind_ok, ev_fz_val, Res.of_some, List.set_cons_succ, List.set_cons_zero, ev_Cons, ev_asD, e4, ev_fz_lst, ev_Nil]
  rfl
end K02
/-! # K02Q -/
set_option Elab.async false
set_option linter.all false
set_option maxRecDepth 100000
namespace K02
open PySem ML
/-! ## data that is told: small ints, no texts -/
mutual
def okD : PyData → Bool
  | .none => true
  | .bool _ => true
  | .int i => decide (0 ≤ i) && decide (i ≤ 9)
  | .list xs => okDs xs
  | .tuple xs => okDs xs
  | .str _ => false
  | .dict _ => false
def okDs : List PyData → Bool
  | [] => true
  | x :: xs => okD x && okDs xs
end
mutual
def szD : PyData → Nat
  | .list xs => szDs xs + 4
  | .tuple xs => szDs xs + 4
  | .none => 5
  | .bool _ => 5
  | .int _ => 5
  | .str _ => 5
  | .dict _ => 5
def szDs : List PyData → Nat
  | [] => 0
  | x :: xs => szD x + 2 + szDs xs
end
mutual
theorem ok_show : ∀ d : PyData, okD d = true → d.showable = true ∧ d.hasDict = false ∧ d.canLay0 = true
  | .none, _ => ⟨rfl, rfl, rfl⟩
  | .bool _, _ => ⟨rfl, rfl, rfl⟩
  | .int i, h => by
    simp only [okD, Bool.and_eq_true, decide_eq_true_eq] at h
    have : i.natAbs.log2 < 1920 := by
      have := Nat.log2_le_self i.natAbs
      omega
    exact ⟨decide_eq_true this, rfl, rfl⟩
  | .list xs, h => ok_shows xs h
  | .tuple xs, h => ok_shows xs h
  | .str _, h => by cases h
  | .dict _, h => by cases h
theorem ok_shows : ∀ xs : List PyData, okDs xs = true → PyData.showableAll xs = true ∧ PyData.hasDictAll xs = false ∧ PyData.canLayAll0 xs = true
  | [], _ => ⟨rfl, rfl, rfl⟩
  | x :: xs, h => by
    simp only [okDs, Bool.and_eq_true] at h
    obtain ⟨a1, a2, a3⟩ := ok_show x h.1
    obtain ⟨b1, b2, b3⟩ := ok_shows xs h.2
    simp [PyData.showableAll, PyData.hasDictAll, PyData.canLayAll0, a1, a2, a3, b1, b2, b3]
end
theorem textFrom_le : ∀ (ts : List Str) (k : Nat) (acc : Str), (textFrom k acc ts).length ≤ acc.length + piled ts
  | [], k, acc => Nat.le_add_right _ _
  | t :: ts, k, acc => by
    have ih := textFrom_le ts (k + 1) (acc ++ (if k > 0 then ", " else "" : String) ++ t)
    rw [piled_cons]
    have e : (acc ++ (if k > 0 then ", " else "" : String) ++ t).length ≤ acc.length + 2 + t.length := by
      rw [strLen_append, strLen_append]
      have h2 : (Str.ofString (if k > 0 then ", " else "")).length ≤ 2 := by split <;> decide
      omega
    show (textFrom (k + 1) _ ts).length ≤ _
    omega
theorem digit_len (i : Int) (h0 : 0 ≤ i) (h1 : i ≤ 9) : (PyData.int i).shown.length ≤ 5 := by
  have h : i = 0 ∨ i = 1 ∨ i = 2 ∨ i = 3 ∨ i = 4 ∨ i = 5 ∨ i = 6 ∨ i = 7 ∨ i = 8 ∨ i = 9 := by omega
  rcases h with rfl | rfl | rfl | rfl | rfl | rfl | rfl | rfl | rfl | rfl <;> decide +kernel
mutual
theorem shown_le : ∀ d : PyData, okD d = true → d.shown.length ≤ szD d
  | .none, _ => by decide +kernel
  | .bool b, _ => by cases b <;> decide +kernel
  | .int i, h => by
    simp only [okD, Bool.and_eq_true, decide_eq_true_eq] at h
    exact digit_len i h.1 h.2
  | .list xs, h => by
    have ih := shownAll_le xs h
    have t := textFrom_le (PyData.shownAll xs) 0 "["
    show (textFrom 0 "[" (PyData.shownAll xs) ++ "]").length ≤ szDs xs + 4
    rw [strLen_append]
    have a : (Str.ofString "[").length = 1 := by decide
    have b : (Str.ofString "]").length = 1 := by decide
    omega
  | .tuple xs, h => by
    have ih := shownAll_le xs h
    show (("(" : Str) ++ Str.join ", " (PyData.shownAll xs) ++ (if (PyData.shownAll xs).length == 1 then ",)" else ")" : String)).length ≤ szDs xs + 4
    rw [strLen_append, strLen_append]
    have a : (Str.ofString "(").length = 1 := by decide
    have b : (Str.ofString (if (PyData.shownAll xs).length == 1 then ",)" else ")")).length ≤ 2 := by split <;> decide
    have c : (Str.join ", " (PyData.shownAll xs)).length ≤ piled (PyData.shownAll xs) := by
      cases hx : PyData.shownAll xs with
      | nil => exact Nat.zero_le _
      | cons y ys =>
        have := join_length_add (y :: ys) (by simp)
        omega
    omega
  | .str _, h => by cases h
  | .dict _, h => by cases h
theorem shownAll_le : ∀ xs : List PyData, okDs xs = true → piled (PyData.shownAll xs) ≤ szDs xs
  | [], _ => Nat.le_refl _
  | x :: xs, h => by
    simp only [okDs, Bool.and_eq_true] at h
    have h1 := shown_le x h.1
    have h2 := shownAll_le xs h.2
    show piled (x.shown :: PyData.shownAll xs) ≤ szD x + 2 + szDs xs
    rw [piled_cons]
    omega
end
structure Nice (d : PyData) : Prop where
  ok : okD d = true
  sz : szD d ≤ 16777216
  dp : d.depth ≤ 60
theorem Nice.shaped {d : PyData} (h : Nice d) : SeqAt.shaped d = true := by
  have := (ok_show d h.ok).2.2
  have := h.dp
  simp only [SeqAt.shaped, Bool.and_eq_true, decide_eq_true_eq]
  exact ⟨by assumption, by omega⟩
theorem Nice.repr {d : PyData} (h : Nice d) : gRepr [d] = some (.val (.str d.shown)) := by
  have a := ok_show d h.ok
  have b := shown_le d h.ok
  have c := h.sz
  have e := h.dp
  simp only [gRepr]
  rw [if_pos ⟨a.1, a.2.1, by omega, by omega⟩]
theorem Nice.eq {d : PyData} (h : Nice d) : gEqS d d = some (tf true) := by
  have a := h.shaped
  have r := PySem.SeqAt.eqv_refl d (ok_show d h.ok).2.2
  cases d with
  | str _ => exact absurd h.ok (by simp [okD])
  | _ => simp only [gEqS, gEq, a, and_self, if_true, r]; rfl
theorem e_same {d : PyData} (h : Nice d) : f__law_same [D d, D d] = .ok (tf true) [D d, D d] := by
  unfold f__law_same
  rw [ev_Def]
  have hs : gEqS (.str d.shown) (.str d.shown) = some (tf true) := by
    show vB (decide (d.shown = d.shown)) = _
    rw [decide_eq_true rfl]
    rfl
  simp [h.eq, h.repr, hs]
end K02
/-! # K02R -/
set_option Elab.async false
set_option linter.all false
set_option maxRecDepth 100000
namespace K02
open PySem ML
/-! ## locks told otherwise -/
/-- one chamber's cuts called otherwise -/
def tell (c : List Int) (r : List Int) : List Int := sortI (r.map fun k => c.getD k.toNat 0)
def asL (o : List Int) (cs : List (List Int)) (l : List (List Int)) : List (List Int) := (o.zip cs).map fun p => tell p.2 (l.getD p.1.toNat [])
theorem getD_row {l : List (List Int)} {i : Int} (h0 : 0 ≤ i) (h1 : i < l.length) : gIdx (enc l) (.int i) = some (.val (row (l.getD i.toNat []))) := by
  have hlt : i.toNat < l.length := by omega
  have h1' : i < ((l.map row).length : Int) := by rw [List.length_map]; exact h1
  simp only [gIdx, L2.atI, L2.ixN, h0, h1', if_true, Option.bind_some]
  rw [List.getElem?_map, List.getElem?_eq_getElem hlt, List.getD_eq_getElem?_getD, List.getElem?_eq_getElem hlt]
  rfl
theorem getD_int {c : List Int} {i : Int} (h0 : 0 ≤ i) (h1 : i < c.length) : gIdx (.list (c.map .int)) (.int i) = some (.val (.int (c.getD i.toNat 0))) := by
  have hlt : i.toNat < c.length := by omega
  have h1' : i < ((c.map PyData.int).length : Int) := by rw [List.length_map]; exact h1
  simp only [gIdx, L2.atI, L2.ixN, h0, h1', if_true, Option.bind_some]
  rw [List.getElem?_map, List.getElem?_eq_getElem hlt, List.getD_eq_getElem?_getD, List.getElem?_eq_getElem hlt]
  rfl
def innerM : Mn B := mLc (mIt (mIdxV 1 (asD (mVar 2)))) (bName 4) mYes (asD (mIdxV 3 (asD (mVar 4)))) [4]
theorem e_inner {t : PyData} {l : List (List Int)} {ch : Int} {c : List Int} (h0 : 0 ≤ ch) (h1 : ch < l.length) (hr : ∀ k ∈ l.getD ch.toNat [], 0 ≤ k ∧ k < c.length) (hl : (l.getD ch.toNat []).length ≤ 1000) :
    innerM [D t, D (enc l), D (.int ch), D (.list (c.map .int)), none] = .ok (.lst (((l.getD ch.toNat []).map fun k => c.getD k.toNat 0).map .int)) [D t, D (enc l), D (.int ch), D (.list (c.map .int)), none] := by
  have ei : mIt (mIdxV 1 (asD (mVar 2))) [D t, D (enc l), D (.int ch), D (.list (c.map .int)), none] = .ok ((l.getD ch.toNat []).map .int) [D t, D (enc l), D (.int ch), D (.list (c.map .int)), none] := by
    have q := getD_row h0 h1
    simp only [enc] at q
    simp [q, itList]
  have lp := loopC_pure (bnd := bName 4) (mt := mYes) (me := asD (mIdxV 3 (asD (mVar 4)))) (vs := [4]) (ρ0 := [D t, D (enc l), D (.int ch), D (.list (c.map .int)), none]) (fun _ => true) (fun d => match d with | .int k => .int (c.getD k.toNat 0) | _ => .none) ((l.getD ch.toNat []).map .int) [] (fun d hd => by
    obtain ⟨k, hk, rfl⟩ := List.mem_map.mp hd
    have q := getD_int (c := c) (hr k hk).1 (hr k hk).2
    refine ⟨[D t, D (enc l), D (.int ch), D (.list (c.map .int)), D (.int k)], rfl, _, rfl, fun _ => ⟨[D t, D (enc l), D (.int ch), D (.list (c.map .int)), D (.int k)], ?_, rfl⟩, fun z => by cases z⟩
    simp [q]) (by rw [List.length_nil, List.length_map]; omega)
  rw [filt_true, List.nil_append, List.map_map] at lp
  unfold innerM
  rw [ev_Lc, ei, Res.bind_ok]
  show (if true = true then calmR (loopC _ _ _ _ _ [] [D t, D (enc l), D (.int ch), D (.list (c.map .int)), none]) _ else _) = _
  rw [if_pos rfl, lp, List.map_map]
  rfl
theorem e_as_lock {o : List Int} {cs l : List (List Int)} {d : Int} (ho : ∀ ch ∈ o, 0 ≤ ch ∧ ch < l.length) (hc : ∀ c ∈ cs, (c.length : Int) = d) (hr : ∀ r ∈ l, ∀ k ∈ r, 0 ≤ k ∧ k < d) (hl : ∀ r ∈ l, r.length ≤ 1000) (hol : o.length ≤ 1000) :
    f__law_as_lock [D (turnD o cs), D (enc l)] = .ok (.val (enc (asL o cs l))) [D (turnD o cs), D (enc l)] := by
  have hmem : ∀ ch ∈ o, l.getD ch.toNat [] ∈ l := fun ch h => by
    have h1 := ho ch h
    have hlt : ch.toNat < l.length := by omega
    rw [List.getD_eq_getElem?_getD, List.getElem?_eq_getElem hlt]
    exact List.getElem_mem hlt
  have lp := loopC_pure (bnd := bTup 2 (bCons (bName 2) (bCons (bName 3) bNil))) (mt := mYes) (me := asD (mA gTuple (mCons (asD (mA gSorted (mCons (asD innerM) mNil))) mNil))) (vs := [2, 3]) (ρ0 := [D (turnD o cs), D (enc l), none, none, none]) (fun _ => true)
    (fun p => match p with | .tuple [.int ch, .list c] => row (sortI ((l.getD ch.toNat []).map fun k => match c.getD k.toNat (.int 0) with | .int z => z | _ => 0)) | _ => .none) (zipD (o.map .int) (cs.map fun c => .list (c.map .int))) [] (fun p hp => by
      rw [zip_map] at hp
      obtain ⟨⟨ch, c⟩, hm, rfl⟩ := List.mem_map.mp hp
      have m1 := (List.of_mem_zip hm).1
      have m2 := (List.of_mem_zip hm).2
      have hq := hmem ch m1
      have e := e_inner (t := turnD o cs) (l := l) (ch := ch) (c := c) (ho ch m1).1 (ho ch m1).2 (fun k hk => by rw [hc c m2]; exact hr _ hq k hk) (hl _ hq)
      refine ⟨[D (turnD o cs), D (enc l), D (.int ch), D (.list (c.map .int)), none], rfl, _, rfl, fun _ => ⟨[D (turnD o cs), D (enc l), D (.int ch), D (.list (c.map .int)), none], ?_, rfl⟩, fun z => by cases z⟩
      have hs : gSorted [PyData.list (((l.getD ch.toNat []).map fun k => c.getD k.toNat 0).map .int)] = some (.lst ((sortI ((l.getD ch.toNat []).map fun k => c.getD k.toNat 0)).map .int)) := by
        simp only [gSorted, intsOf_map, Option.map_some]
      have hf : ((l.getD ch.toNat []).map fun k => match (c.map PyData.int).getD k.toNat (.int 0) with | .int z => z | _ => 0) = (l.getD ch.toNat []).map fun k => c.getD k.toNat 0 := by
        refine List.map_congr_left fun k hk => ?_
        rw [List.getD_eq_getElem?_getD, List.getD_eq_getElem?_getD, List.getElem?_map]
        cases c[k.toNat]? <;> rfl
      show asD (mA gTuple (mCons (asD (mA gSorted (mCons (asD innerM) mNil))) mNil)) [D (turnD o cs), D (enc l), D (.int ch), D (.list (c.map .int)), none] = .ok (row (sortI ((l.getD ch.toNat []).map fun k => match (c.map PyData.int).getD k.toNat (.int 0) with | .int z => z | _ => 0))) _
      rw [hf, ev_asD, ev_mA, ev_Cons, ev_asD, ev_mA, ev_Cons, ev_asD, e]
      simp only [Res.bind_ok, ev_fz_lst, Res.of_some, ev_Nil, hs, gTuple, ev_fz_val]) (by rw [zipD_len, List.length_map, List.length_map, List.length_nil]; omega)
  have hm : ((zipD (o.map .int) (cs.map fun c => PyData.list (c.map .int))).map fun p => match p with | .tuple [.int ch, .list c] => row (sortI ((l.getD ch.toNat []).map fun k => match c.getD k.toNat (.int 0) with | .int z => z | _ => 0)) | _ => .none) = (asL o cs l).map row := by
    rw [zip_map, asL, List.map_map, List.map_map]
    refine List.map_congr_left fun p _ => ?_
    show row (sortI _) = row (sortI _)
    congr 3
    refine funext fun k => ?_
    show (match (p.2.map PyData.int).getD k.toNat (.int 0) with | .int z => z | _ => 0) = p.2.getD k.toNat 0
    rw [List.getD_eq_getElem?_getD, List.getD_eq_getElem?_getD, List.getElem?_map]
    cases p.2[k.toNat]? <;> rfl
  rw [filt_true, hm, List.nil_append] at lp
  refine def_rt (pr := [true, true]) (l := 5) (ρ0 := [D (turnD o cs), D (enc l), none, none, none]) (ρ' := [D (turnD o cs), D (enc l), none, none, none]) rfl ?_ rfl
  have ez : mZip (mCons (asD (mIdxV 0 (asD (mC (.int 0))))) (mCons (asD (mIdxV 0 (asD (mC (.int 1))))) mNil)) [D (turnD o cs), D (enc l), none, none, none] = .ok (zipD (o.map .int) (cs.map fun c => .list (c.map .int))) [D (turnD o cs), D (enc l), none, none, none] := rfl
  have el : mLc (mZip (mCons (asD (mIdxV 0 (asD (mC (.int 0))))) (mCons (asD (mIdxV 0 (asD (mC (.int 1))))) mNil))) (bTup 2 (bCons (bName 2) (bCons (bName 3) bNil))) mYes (asD (mA gTuple (mCons (asD (mA gSorted (mCons (asD innerM) mNil))) mNil))) [2, 3] [D (turnD o cs), D (enc l), none, none, none] = .ok (.lst ((asL o cs l).map row)) [D (turnD o cs), D (enc l), none, none, none] := by
    rw [ev_Lc, ez, Res.bind_ok]
    show (if true = true then calmR (loopC _ _ _ _ _ [] [D (turnD o cs), D (enc l), none, none, none]) _ else _) = _
    rw [if_pos rfl, lp]
    rfl
  show sRet (mA gTuple (mCons (asD (mLc (mZip (mCons (asD (mIdxV 0 (asD (mC (.int 0))))) (mCons (asD (mIdxV 0 (asD (mC (.int 1))))) mNil))) (bTup 2 (bCons (bName 2) (bCons (bName 3) bNil))) mYes (asD (mA gTuple (mCons (asD (mA gSorted (mCons (asD innerM) mNil))) mNil))) [2, 3])) mNil)) _ = _
  rw [ev_sRet, ev_mA, ev_Cons, ev_asD, el]
  rfl
end K02
/-! # K02S -/
set_option Elab.async false
set_option linter.all false
set_option maxRecDepth 100000
namespace K02
open PySem ML
/-! ## what a turn keeps -/
section
variable {d : Int} {c : List Int}
theorem rng_nodup (n : Int) : (rng n).Nodup := (rng_asc n).imp fun h => by omega
theorem call_rg (hc : c.Perm (rng d)) {k : Int} (h0 : 0 ≤ k) (h1 : k < d) : 0 ≤ c.getD k.toNat 0 ∧ c.getD k.toNat 0 < d := by
  have hl : c.length = d.toNat := by rw [hc.length_eq, rng_len]
  have hlt : k.toNat < c.length := by omega
  rw [List.getD_eq_getElem?_getD, List.getElem?_eq_getElem hlt]
  exact rng_mem.mp (hc.mem_iff.mp (List.getElem_mem hlt))
theorem call_inj (hc : c.Perm (rng d)) {k q : Int} (h0 : 0 ≤ k) (h1 : k < d) (g0 : 0 ≤ q) (g1 : q < d) (e : c.getD k.toNat 0 = c.getD q.toNat 0) : k = q := by
  have hl : c.length = d.toNat := by rw [hc.length_eq, rng_len]
  have hk : k.toNat < c.length := by omega
  have hq : q.toNat < c.length := by omega
  rw [List.getD_eq_getElem?_getD, List.getElem?_eq_getElem hk, List.getD_eq_getElem?_getD, List.getElem?_eq_getElem hq] at e
  have nd : c.Nodup := hc.nodup_iff.mpr (rng_nodup d)
  have e' : c[k.toNat] = c[q.toNat] := e
  rcases Nat.lt_trichotomy k.toNat q.toNat with h | h | h
  · exact absurd e' (List.pairwise_iff_getElem.mp nd _ _ hk hq h)
  · omega
  · exact absurd e'.symm (List.pairwise_iff_getElem.mp nd _ _ hq hk h)
theorem tell_mem {r : List Int} {x : Int} : x ∈ tell c r ↔ ∃ k ∈ r, c.getD k.toNat 0 = x := by
  unfold tell
  rw [(sortI_perm _).mem_iff, List.mem_map]
theorem asc_of {l : List Int} (h : l.Pairwise (· ≤ ·)) (n : l.Nodup) : l.Pairwise (· < ·) := (List.pairwise_and_iff.mpr ⟨h, n⟩).imp fun ⟨a, b⟩ => by omega
theorem tell_asc (hc : c.Perm (rng d)) {r : List Int} (hr : ∀ k ∈ r, 0 ≤ k ∧ k < d) (ha : r.Pairwise (· < ·)) : (tell c r).Pairwise (· < ·) := by
  refine asc_of (sortI_sorted _) ((sortI_perm _).nodup_iff.mpr ?_)
  rw [List.Nodup, List.pairwise_map]
  refine List.Pairwise.imp_of_mem (fun {a b} ha' hb' h e => ?_) ha
  have := call_inj hc (hr a ha').1 (hr a ha').2 (hr b hb').1 (hr b hb').2 e
  omega
theorem tell_filter (hc : c.Perm (rng d)) {a b : List Int} (ha : ∀ k ∈ a, 0 ≤ k ∧ k < d) (hb : ∀ k ∈ b, 0 ≤ k ∧ k < d) (pa : a.Pairwise (· < ·)) : ((tell c a).filter fun x => (tell c b).contains x) = tell c (a.filter fun x => b.contains x) := by
  refine asc_uniq ((tell_asc hc ha pa).sublist (List.filter_sublist)) (tell_asc hc (fun k hk => ha k (List.mem_filter.mp hk).1) (pa.sublist List.filter_sublist)) fun x => ?_
  rw [List.mem_filter, tell_mem, tell_mem, List.contains_iff_mem, tell_mem]
  constructor
  · rintro ⟨⟨k, hk, rfl⟩, q, hq, e⟩
    have := call_inj hc (hb q hq).1 (hb q hq).2 (ha k hk).1 (ha k hk).2 e
    subst this
    exact ⟨q, List.mem_filter.mpr ⟨hk, by simpa using hq⟩, rfl⟩
  · rintro ⟨k, hk, rfl⟩
    obtain ⟨h1, h2⟩ := List.mem_filter.mp hk
    exact ⟨⟨k, h1, rfl⟩, k, by simpa using h2, rfl⟩
theorem tell_all (hc : c.Perm (rng d)) {a b : List Int} (ha : ∀ k ∈ a, 0 ≤ k ∧ k < d) (hb : ∀ k ∈ b, 0 ≤ k ∧ k < d) : ((tell c a).all fun x => (tell c b).contains x) = a.all fun x => b.contains x := by
  rw [Bool.eq_iff_iff, List.all_eq_true, List.all_eq_true]
  constructor
  · intro h k hk
    have := h _ (tell_mem.mpr ⟨k, hk, rfl⟩)
    rw [List.contains_iff_mem, tell_mem] at this
    obtain ⟨q, hq, e⟩ := this
    have := call_inj hc (hb q hq).1 (hb q hq).2 (ha k hk).1 (ha k hk).2 e
    subst this
    simpa using hq
  · intro h x hx
    obtain ⟨k, hk, rfl⟩ := tell_mem.mp hx
    rw [List.contains_iff_mem, tell_mem]
    exact ⟨k, by simpa using h k hk, rfl⟩
theorem tell_empty {r : List Int} : (tell c r).isEmpty = r.isEmpty := by
  have := (sortI_perm (r.map fun k => c.getD k.toNat 0)).length_eq
  rw [List.length_map] at this
  unfold tell
  cases r with
  | nil => rfl
  | cons x r =>
    cases h : sortI ((x :: r).map fun k => c.getD k.toNat 0) with
    | nil => rw [h] at this; simp at this
    | cons y ys => rfl
end
/-! ### rows by place -/
def rowAt (l : List (List Int)) (i : Int) : List Int := l.getD i.toNat []
theorem rowAt_mem {l : List (List Int)} {i : Int} (h0 : 0 ≤ i) (h1 : i < l.length) : rowAt l i ∈ l := by
  have hlt : i.toNat < l.length := by omega
  unfold rowAt
  rw [List.getD_eq_getElem?_getD, List.getElem?_eq_getElem hlt]
  exact List.getElem_mem hlt
theorem by_rows {l : List (List Int)} {m : Int} (h : (l.length : Int) = m) : l = (rng m).map (rowAt l) := by
  apply List.ext_getElem?
  intro i
  have hm : m.toNat = l.length := by omega
  rw [List.getElem?_map]
  unfold rng
  rw [hm, List.getElem?_map]
  by_cases hi : i < l.length
  · rw [List.getElem?_range hi, List.getElem?_eq_getElem hi]
    simp only [Option.map_some, rowAt, Int.toNat_natCast]
    rw [List.getD_eq_getElem?_getD, List.getElem?_eq_getElem hi]
    rfl
  · rw [List.getElem?_eq_none (by omega), List.getElem?_eq_none (by simpa using hi)]
    rfl
theorem zip_rows {a b : List (List Int)} {m : Int} (ha : (a.length : Int) = m) (hb : (b.length : Int) = m) : a.zip b = (rng m).map fun i => (rowAt a i, rowAt b i) := by
  conv => lhs; rw [by_rows ha, by_rows hb]
  rw [List.zip_map']
theorem bothL_rows {a b : List (List Int)} {m : Int} (ha : (a.length : Int) = m) (hb : (b.length : Int) = m) : bothL a b = (rng m).map fun i => (rowAt a i).filter fun c => (rowAt b i).contains c := by
  unfold bothL
  rw [zip_rows ha hb, List.map_map]
  rfl
theorem inL_rows {a b : List (List Int)} {m : Int} (ha : (a.length : Int) = m) (hb : (b.length : Int) = m) : inL a b = (rng m).all fun i => (rowAt a i).all fun c => (rowAt b i).contains c := by
  unfold inL
  rw [zip_rows ha hb, List.all_map]
  rfl
theorem bothL_len {a b : List (List Int)} {m : Int} (ha : (a.length : Int) = m) (hb : (b.length : Int) = m) : ((bothL a b).length : Int) = m := by
  unfold bothL
  rw [List.length_map, List.length_zip]
  omega
theorem rowAt_both {a b : List (List Int)} {m i : Int} (ha : (a.length : Int) = m) (hb : (b.length : Int) = m) (h0 : 0 ≤ i) (h1 : i < m) : rowAt (bothL a b) i = (rowAt a i).filter fun c => (rowAt b i).contains c := by
  have hlt : i.toNat < (rng m).length := by rw [rng_len]; omega
  have hx : (rng m)[i.toNat]? = some i := by
    unfold rng
    rw [List.getElem?_map, List.getElem?_range (by omega)]
    simp
    omega
  unfold rowAt
  rw [bothL_rows ha hb, List.getD_eq_getElem?_getD, List.getElem?_map, hx]
  rfl
/-! ### locks told otherwise -/
structure TurnOk (m d : Int) (o : List Int) (cs : List (List Int)) : Prop where
  o : o.Perm (rng m)
  n : (cs.length : Int) = m
  c : ∀ c ∈ cs, c.Perm (rng d)
section
variable {m d : Int} {o : List Int} {cs : List (List Int)} {a b : List (List Int)}
theorem TurnOk.ol (t : TurnOk m d o cs) : o.length = cs.length := by
  have := t.o.length_eq
  rw [rng_len] at this
  have := t.n
  omega
theorem TurnOk.at_ (t : TurnOk m d o cs) {p : Int × List Int} (h : p ∈ o.zip cs) : (0 ≤ p.1 ∧ p.1 < m) ∧ p.2.Perm (rng d) :=
  ⟨rng_mem.mp (t.o.mem_iff.mp (List.of_mem_zip h).1), t.c _ (List.of_mem_zip h).2⟩
theorem zip_all {p : Int → Bool} : ∀ {o : List Int} {cs : List (List Int)}, o.length = cs.length → ((o.zip cs).all fun q => p q.1) = o.all p
  | [], _, _ => by simp
  | x :: o, [], h => by simp at h
  | x :: o, c :: cs, h => by
    simp only [List.zip_cons_cons, List.all_cons]
    rw [zip_all (by simpa using h)]
theorem perm_all {p : Int → Bool} {o r : List Int} (h : o.Perm r) : o.all p = r.all p := by
  rw [Bool.eq_iff_iff, List.all_eq_true, List.all_eq_true]
  exact ⟨fun q x hx => q x (h.mem_iff.mpr hx), fun q x hx => q x (h.mem_iff.mp hx)⟩
theorem asL_len (t : TurnOk m d o cs) : ((asL o cs a).length : Int) = m := by
  have := t.ol
  have := t.n
  unfold asL
  rw [List.length_map, List.length_zip]
  omega
theorem lock_as (t : TurnOk m d o cs) (ha : LockOk m d a) : LockOk m d (asL o cs a) := by
  have hrow : ∀ r ∈ asL o cs a, ∃ p ∈ o.zip cs, r = tell p.2 (rowAt a p.1) := fun r hr => by
    obtain ⟨p, hp, rfl⟩ := List.mem_map.mp hr
    exact ⟨p, hp, rfl⟩
  have hmem : ∀ p ∈ o.zip cs, rowAt a p.1 ∈ a := fun p hp => rowAt_mem (t.at_ hp).1.1 (by rw [ha.len]; exact (t.at_ hp).1.2)
  refine ⟨asL_len t, fun r hr => ?_, fun r hr => ?_, fun r hr => ?_⟩
  · obtain ⟨p, hp, rfl⟩ := hrow r hr
    intro e
    have h1 := tell_empty (c := p.2) (r := rowAt a p.1)
    rw [e] at h1
    exact ha.ne _ (hmem p hp) (List.isEmpty_iff.mp h1.symm)
  · obtain ⟨p, hp, rfl⟩ := hrow r hr
    intro x hx
    obtain ⟨k, hk, rfl⟩ := tell_mem.mp hx
    have h1 := ha.rg _ (hmem p hp) k hk
    exact call_rg (t.at_ hp).2 h1.1 h1.2
  · obtain ⟨p, hp, rfl⟩ := hrow r hr
    exact tell_asc (t.at_ hp).2 (ha.rg _ (hmem p hp)) (ha.asc _ (hmem p hp))
theorem all_mem {α : Type} {f g : α → Bool} : ∀ {l : List α}, (∀ x ∈ l, f x = g x) → l.all f = l.all g
  | [], _ => rfl
  | x :: l, h => by
    rw [List.all_cons, List.all_cons, h x List.mem_cons_self, all_mem fun y hy => h y (List.mem_cons_of_mem _ hy)]
theorem zip_same {α β : Type} (f g : α → β) (l : List α) : (l.map f).zip (l.map g) = l.map fun x => (f x, g x) := List.zip_map' ..
theorem both_as (t : TurnOk m d o cs) (ha : LockOk m d a) (hb : LockOk m d b) : bothL (asL o cs a) (asL o cs b) = asL o cs (bothL a b) := by
  unfold asL
  rw [bothL, zip_same, List.map_map]
  refine List.map_congr_left fun p hp => ?_
  have h := t.at_ hp
  have m1 := rowAt_mem (l := a) h.1.1 (by rw [ha.len]; exact h.1.2)
  have m2 := rowAt_mem (l := b) h.1.1 (by rw [hb.len]; exact h.1.2)
  show ((tell p.2 (rowAt a p.1)).filter fun c => (tell p.2 (rowAt b p.1)).contains c) = tell p.2 (rowAt (bothL a b) p.1)
  rw [tell_filter h.2 (ha.rg _ m1) (hb.rg _ m2) (ha.asc _ m1), rowAt_both ha.len hb.len h.1.1 h.1.2]
theorem in_as (t : TurnOk m d o cs) (ha : LockOk m d a) (hb : LockOk m d b) : inL (asL o cs a) (asL o cs b) = inL a b := by
  rw [inL_rows ha.len hb.len, ← perm_all t.o, ← zip_all (cs := cs) t.ol]
  unfold asL
  rw [inL, zip_same, List.all_map]
  refine all_mem fun p hp => ?_
  have h := t.at_ hp
  have m1 := rowAt_mem (l := a) h.1.1 (by rw [ha.len]; exact h.1.2)
  have m2 := rowAt_mem (l := b) h.1.1 (by rw [hb.len]; exact h.1.2)
  exact tell_all h.2 (ha.rg _ m1) (hb.rg _ m2)
theorem empty_as (t : TurnOk m d o cs) (ha : (a.length : Int) = m) : (asL o cs a).any List.isEmpty = a.any List.isEmpty := by
  have e1 : ∀ l : List (List Int), l.any List.isEmpty = !(l.all fun r => !r.isEmpty) := fun l => by
    induction l with
    | nil => rfl
    | cons x xs ih => simp [ih]
  rw [e1, e1]
  congr 1
  conv => rhs; rw [by_rows ha, List.all_map, ← perm_all t.o, ← zip_all (cs := cs) t.ol]
  unfold asL
  rw [List.all_map]
  congr 1
  funext p
  show (!(tell p.2 (rowAt a p.1)).isEmpty) = !(rowAt a p.1).isEmpty
  rw [tell_empty]
end
end K02
/-! # K02T -/
set_option Elab.async false
set_option linter.all false
set_option maxRecDepth 100000
namespace K02
open PySem ML
/-! ## what is asked, of plain locks -/
section
variable {m d : Int} {a b c : List (List Int)}
theorem rm {l : List (List Int)} (h : LockOk m d l) {i : Int} (hi : i ∈ rng m) : rowAt l i ∈ l := by
  have := rng_mem.mp hi
  exact rowAt_mem this.1 (by rw [h.len]; exact this.2)
theorem both_comm (ha : LockOk m d a) (hb : LockOk m d b) : bothL a b = bothL b a := by
  rw [bothL_rows ha.len hb.len, bothL_rows hb.len ha.len]
  refine List.map_congr_left fun i hi => ?_
  refine asc_uniq ((ha.asc _ (rm ha hi)).sublist List.filter_sublist) ((hb.asc _ (rm hb hi)).sublist List.filter_sublist) fun k => ?_
  simp only [List.mem_filter, List.contains_iff_mem]
  exact And.comm
theorem bothR_comm (ha : LockOk m d a) (hb : LockOk m d b) : bothR a b = bothR b a := by
  unfold bothR
  rw [both_comm ha hb]
theorem no_empty {l : List (List Int)} (h : l.any List.isEmpty = false) : ∀ r ∈ l, r ≠ [] := fun r hr e => by
  have := List.any_eq_false.mp h r hr
  rw [e] at this
  exact this rfl
theorem both_lock (ha : LockOk m d a) (hb : LockOk m d b) (he : (bothL a b).any List.isEmpty = false) : LockOk m d (bothL a b) := by
  have hrow : ∀ r ∈ bothL a b, ∃ i ∈ rng m, r = (rowAt a i).filter fun c => (rowAt b i).contains c := fun r hr => by
    rw [bothL_rows ha.len hb.len] at hr
    obtain ⟨i, hi, rfl⟩ := List.mem_map.mp hr
    exact ⟨i, hi, rfl⟩
  refine ⟨bothL_len ha.len hb.len, no_empty he, fun r hr k hk => ?_, fun r hr => ?_⟩
  · obtain ⟨i, hi, rfl⟩ := hrow r hr
    exact ha.rg _ (rm ha hi) k (List.mem_filter.mp hk).1
  · obtain ⟨i, hi, rfl⟩ := hrow r hr
    exact (ha.asc _ (rm ha hi)).sublist List.filter_sublist
theorem filter_all {α : Type} {p : α → Bool} : ∀ {l : List α}, l.filter p = l ↔ l.all p = true := by
  intro l
  rw [List.filter_eq_self, List.all_eq_true]
theorem both_in (ha : LockOk m d a) (hb : LockOk m d b) : bothL a b = a ↔ inL a b = true := by
  rw [bothL_rows ha.len hb.len, inL_rows ha.len hb.len]
  constructor
  · intro h
    rw [List.all_eq_true]
    intro i hi
    rw [← filter_all]
    have e : (rng m).map (fun i => (rowAt a i).filter fun c => (rowAt b i).contains c) = (rng m).map (rowAt a) := by rw [h, ← by_rows ha.len]
    exact List.map_inj_left.mp e i hi
  · intro h
    conv => rhs; rw [by_rows ha.len]
    exact List.map_congr_left fun i hi => filter_all.mpr (List.all_eq_true.mp h i hi)
theorem empty_in (ha : LockOk m d a) (hb : LockOk m d b) (he : (bothL a b).any List.isEmpty = true) : inL a b = false := by
  cases h : inL a b with
  | false => rfl
  | true =>
    rw [(both_in ha hb).mpr h] at he
    obtain ⟨r, hr, e⟩ := List.any_eq_true.mp he
    exact absurd (List.isEmpty_iff.mp e) (ha.ne r hr)
theorem eqv_ints : ∀ (x y : List Int), PyData.eqvAll (x.map .int) (y.map .int) = decide (x = y)
  | [], [] => rfl
  | [], _ :: _ => by simp [PyData.eqvAll]
  | _ :: _, [] => by simp [PyData.eqvAll]
  | i :: x, j :: y => by
    simp only [List.map_cons, PyData.eqvAll, PyData.eqv, eqv_ints x y, List.cons.injEq]
    by_cases h : i = j <;> simp [h]
theorem eqv_rows : ∀ (x y : List (List Int)), PyData.eqvAll (x.map row) (y.map row) = decide (x = y)
  | [], [] => rfl
  | [], _ :: _ => by simp [PyData.eqvAll]
  | _ :: _, [] => by simp [PyData.eqvAll]
  | i :: x, j :: y => by
    simp only [List.map_cons, PyData.eqvAll, PyData.eqv, eqv_rows x y, eqv_ints, List.cons.injEq]
    by_cases h : i = j <;> simp [h]
theorem eq_enc (x y : List (List Int)) : gEqS (enc x) (enc y) = some (tf (decide (x = y))) := by
  have h1 := sh_enc x
  have h2 := sh_enc y
  show gEq (enc x) (enc y) = _
  simp only [gEq, h1, h2, and_self, if_true]
  show vB (PyData.eqvAll (x.map row) (y.map row)) = _
  rw [eqv_rows]
  rfl
theorem eq_none (y : List (List Int)) : gEqS .none (enc y) = some (tf false) := by
  have h2 := sh_enc y
  have h1 : SeqAt.shaped .none = true := rfl
  show gEq .none (enc y) = _
  simp only [gEq, h1, h2, and_self, if_true]
  rfl
theorem due_eq (ha : LockOk m d a) (hb : LockOk m d b) : gEqS (bothR a b) (enc a) = some (tf (inL a b)) := by
  unfold bothR
  split
  · rename_i he
    rw [eq_none, empty_in ha hb he]
  · rw [eq_enc]
    have := both_in ha hb
    congr 2
    cases h : inL a b <;> simp [this, h]
theorem due_eq2 (ha : LockOk m d a) (hb : LockOk m d b) : gEqS (bothR a b) (enc b) = some (tf (inL b a)) := by
  rw [bothR_comm ha hb]
  exact due_eq hb ha
theorem in_refl (ha : LockOk m d a) : inL a a = true := by
  rw [inL_rows ha.len ha.len, List.all_eq_true]
  intro i _
  rw [List.all_eq_true]
  intro k hk
  simpa using hk
theorem in_both1 (ha : LockOk m d a) (hb : LockOk m d b) : inL (bothL a b) a = true := by
  rw [inL_rows (bothL_len ha.len hb.len) ha.len, List.all_eq_true]
  intro i hi
  have := rng_mem.mp hi
  rw [rowAt_both ha.len hb.len this.1 this.2, List.all_eq_true]
  intro k hk
  simpa using (List.mem_filter.mp hk).1
theorem in_both2 (ha : LockOk m d a) (hb : LockOk m d b) : inL (bothL a b) b = true := by
  rw [inL_rows (bothL_len ha.len hb.len) hb.len, List.all_eq_true]
  intro i hi
  have := rng_mem.mp hi
  rw [rowAt_both ha.len hb.len this.1 this.2, List.all_eq_true]
  intro k hk
  exact (List.mem_filter.mp hk).2
theorem in_trans (ha : LockOk m d a) (hb : LockOk m d b) (hc : LockOk m d c) (h1 : inL a b = true) (h2 : inL b c = true) : inL a c = true := by
  rw [inL_rows ha.len hb.len, List.all_eq_true] at h1
  rw [inL_rows hb.len hc.len, List.all_eq_true] at h2
  rw [inL_rows ha.len hc.len, List.all_eq_true]
  intro i hi
  rw [List.all_eq_true]
  intro k hk
  have q := List.all_eq_true.mp (h1 i hi) k hk
  exact List.all_eq_true.mp (h2 i hi) k (by simpa using q)
end
/-! ### opening -/
theorem op_both : ∀ (a b : List (List Int)) (k : List Int), a.length = b.length → k.length = a.length → opL (bothL a b) k = (opL a k && opL b k)
  | [], [], [], _, _ => rfl
  | [], _ :: _, _, h, _ => by simp at h
  | _ :: _, [], _, h, _ => by simp at h
  | [], [], _ :: _, _, h => by simp at h
  | _ :: _, _ :: _, [], _, h => by simp at h
  | r :: a, q :: b, c :: k, h1, h2 => by
    have ih := op_both a b k (by simpa using h1) (by simpa using h2)
    simp only [opL, bothL, List.zip_cons_cons, List.map_cons, List.all_cons] at ih ⊢
    rw [ih]
    have e : (r.filter fun x => q.contains x).contains c = (r.contains c && q.contains c) := by
      rw [Bool.eq_iff_iff]
      simp [List.mem_filter]
    rw [e]
    cases r.contains c <;> cases q.contains c <;> simp
theorem op_in : ∀ (a b : List (List Int)) (k : List Int), a.length = b.length → k.length = a.length → inL a b = true → opL a k = true → opL b k = true
  | [], [], [], _, _, _, _ => rfl
  | [], _ :: _, _, h, _, _, _ => by simp at h
  | _ :: _, [], _, h, _, _, _ => by simp at h
  | [], [], _ :: _, _, h, _, _ => by simp at h
  | _ :: _, _ :: _, [], _, h, _, _ => by simp at h
  | r :: a, q :: b, c :: k, h1, h2, h3, h4 => by
    simp only [inL, opL, List.zip_cons_cons, List.all_cons, Bool.and_eq_true] at h3 h4 ⊢
    have ih := op_in a b k (by simpa using h1) (by simpa using h2) h3.2 h4.2
    exact ⟨List.all_eq_true.mp h3.1 c (by simpa using h4.1), ih⟩
theorem op_empty : ∀ (l : List (List Int)) (k : List Int), k.length = l.length → l.any List.isEmpty = true → opL l k = false
  | [], _, _, h => by simp at h
  | _ :: _, [], h, _ => by simp at h
  | r :: l, c :: k, h, he => by
    simp only [List.any_cons, Bool.or_eq_true] at he
    simp only [opL, List.zip_cons_cons, List.all_cons]
    rcases he with he | he
    · rw [List.isEmpty_iff.mp he]
      rfl
    · have := op_empty l k (by simpa using h) he
      unfold opL at this
      rw [this, Bool.and_false]
/-! ### counting -/
def cntN : List (List Int) → Nat
  | [] => 1
  | r :: l => r.length * cntN l
theorem cnt_fold : ∀ (l : List (List Int)) (b : Int), (l.map fun r => (r.length : Int)).foldl (· * ·) b = b * (cntN l : Int)
  | [], b => by simp [cntN]
  | r :: l, b => by
    rw [List.map_cons, List.foldl_cons, cnt_fold l]
    simp [cntN, Int.mul_assoc]
theorem cntI_eq (l : List (List Int)) : cntI l = (cntN l : Int) := by
  unfold cntI
  rw [cnt_fold]
  simp
def keysR : List (List Int) → List (List Int)
  | [] => [[]]
  | r :: l => r.flatMap fun c => (keysR l).map (c :: ·)
theorem keys_fold : ∀ (l rows : List (List Int)), l.foldl (fun rows r => rows.flatMap fun k => r.map fun c => k ++ [c]) rows = rows.flatMap fun k => (keysR l).map (k ++ ·)
  | [], rows => by
    simp [keysR]
  | r :: l, rows => by
    rw [List.foldl_cons, keys_fold l, List.flatMap_assoc]
    congr 1
    funext k
    rw [List.flatMap_map, keysR, List.map_flatMap]
    congr 1
    funext c
    rw [List.map_map]
    congr 1
    funext x
    simp
theorem keysL_eq (l : List (List Int)) : keysL l = keysR l := by
  unfold keysL
  rw [keys_fold]
  simp
theorem keys_len : ∀ (l : List (List Int)) (k : List Int), k ∈ keysR l → k.length = l.length
  | [], k, h => by
    have : k = [] := by simpa [keysR] using h
    rw [this]
    rfl
  | r :: l, k, h => by
    unfold keysR at h
    obtain ⟨c, _, h⟩ := List.mem_flatMap.mp h
    obtain ⟨k', h', rfl⟩ := List.mem_map.mp h
    simp [keys_len l k' h']
theorem keys_rg : ∀ (l : List (List Int)) (k : List Int), k ∈ keysR l → ∀ c ∈ k, ∃ r ∈ l, c ∈ r
  | [], k, h, c, hc => by
    have : k = [] := by simpa [keysR] using h
    rw [this] at hc
    cases hc
  | r :: l, k, h, c, hc => by
    unfold keysR at h
    obtain ⟨x, hx, h⟩ := List.mem_flatMap.mp h
    obtain ⟨k', h', rfl⟩ := List.mem_map.mp h
    rcases List.mem_cons.mp hc with rfl | hc
    · exact ⟨r, List.mem_cons_self, hx⟩
    · obtain ⟨q, hq, h2⟩ := keys_rg l k' h' c hc
      exact ⟨q, List.mem_cons_of_mem _ hq, h2⟩
theorem count_flat (q : List Int) (n : Nat) (f : Int → Nat) : ∀ r : List Int, (∀ c ∈ r, f c = if q.contains c = true then n else 0) → (r.map f).sum = (r.filter fun c => q.contains c).length * n
  | [], _ => by simp
  | c :: r, h => by
    have ih := count_flat q n f r fun x hx => h x (List.mem_cons_of_mem _ hx)
    rw [List.map_cons, List.sum_cons, ih, h c List.mem_cons_self, List.filter_cons]
    cases hq : q.contains c
    · simp
    · simp [Nat.add_mul, Nat.add_comm]
theorem countP_flat {α β : Type} (p : β → Bool) (f : α → List β) : ∀ l : List α, (l.flatMap f).countP p = (l.map fun x => (f x).countP p).sum
  | [] => rfl
  | x :: l => by rw [List.flatMap_cons, List.countP_append, List.map_cons, List.sum_cons, countP_flat p f l]
theorem keys_count : ∀ (a b : List (List Int)), a.length = b.length → (keysR a).countP (opL b) = cntN (bothL a b)
  | [], [], _ => rfl
  | [], _ :: _, h => by simp at h
  | _ :: _, [], h => by simp at h
  | r :: a, q :: b, h => by
    have ih := keys_count a b (by simpa using h)
    unfold keysR
    rw [countP_flat]
    have hb : bothL (r :: a) (q :: b) = (r.filter fun c => q.contains c) :: bothL a b := rfl
    rw [hb]
    show _ = (r.filter fun c => q.contains c).length * cntN (bothL a b)
    refine count_flat q _ _ r fun c _ => ?_
    rw [List.countP_map]
    have e : (opL (q :: b) ∘ fun k => c :: k) = fun k => q.contains c && opL b k := by
      funext k
      rfl
    rw [e]
    cases hq : q.contains c
    · simp
    · simp [ih]
theorem sum_const (n : Nat) : ∀ r : List Int, (r.map fun _ => n).sum = r.length * n
  | [] => by simp
  | c :: r => by rw [List.map_cons, List.sum_cons, sum_const n r, List.length_cons, Nat.add_mul]; omega
theorem keys_all : ∀ (a : List (List Int)), (keysR a).length = cntN a
  | [] => rfl
  | r :: a => by
    unfold keysR cntN
    rw [List.length_flatMap]
    simp only [List.length_map, keys_all a]
    exact sum_const (cntN a) r
theorem alone_count {a b : List (List Int)} (h : a.length = b.length) : (((keysL a).filter fun k => !opL b k).length : Int) = cntI a - cntI (bothL a b) := by
  rw [cntI_eq, cntI_eq, keysL_eq, ← keys_count a b h, ← keys_all a]
  have := List.length_eq_countP_add_countP (p := opL b) (l := keysR a)
  rw [← List.countP_eq_length_filter]
  have e : (keysR a).countP (fun k => !opL b k) = (keysR a).countP (fun k => decide ¬opL b k = true) := by
    congr 1
    funext k
    cases opL b k <;> rfl
  rw [e]
  omega
theorem cnt_empty : ∀ {l : List (List Int)}, l.any List.isEmpty = true → cntN l = 0
  | [], h => by simp at h
  | r :: l, h => by
    simp only [List.any_cons, Bool.or_eq_true] at h
    unfold cntN
    rcases h with h | h
    · rw [List.isEmpty_iff.mp h]
      simp
    · rw [cnt_empty h, Nat.mul_zero]
/-! ### three locks -/
theorem both_assoc : ∀ (a b c : List (List Int)), bothL (bothL a b) c = bothL a (bothL b c)
  | [], _, _ => by simp [bothL]
  | _ :: _, [], _ => by simp [bothL]
  | _ :: _, _ :: _, [] => by simp [bothL]
  | r :: a, q :: b, t :: c => by
    have ih := both_assoc a b c
    simp only [bothL, List.zip_cons_cons, List.map_cons] at ih ⊢
    rw [ih, List.filter_filter]
    congr 1
    refine List.filter_congr fun x _ => ?_
    rw [Bool.eq_iff_iff, Bool.and_eq_true, List.contains_iff_mem, List.contains_iff_mem, List.contains_iff_mem, List.mem_filter, List.contains_iff_mem]
    exact And.comm
theorem empty_mono : ∀ (a b : List (List Int)), a.length = b.length → a.any List.isEmpty = true → (bothL a b).any List.isEmpty = true
  | [], _, _, h => by simp at h
  | _ :: _, [], h, _ => by simp at h
  | r :: a, q :: b, h, he => by
    simp only [bothL, List.zip_cons_cons, List.map_cons, List.any_cons, Bool.or_eq_true] at he ⊢
    rcases he with he | he
    · left
      rw [List.isEmpty_iff.mp he]
      rfl
    · right
      exact empty_mono a b (by simpa using h) he
theorem empty_mono2 : ∀ (a b : List (List Int)), a.length = b.length → b.any List.isEmpty = true → (bothL a b).any List.isEmpty = true
  | [], b, h, he => by
    have : b = [] := List.eq_nil_of_length_eq_zero (by simpa using h.symm)
    rw [this] at he
    simp at he
  | _ :: _, [], h, _ => by simp at h
  | r :: a, q :: b, h, he => by
    simp only [bothL, List.zip_cons_cons, List.map_cons, List.any_cons, Bool.or_eq_true] at he ⊢
    rcases he with he | he
    · left
      rw [List.isEmpty_iff.mp he]
      simp
    · right
      exact empty_mono2 a b (by simpa using h) he
end K02
/-! # K02U -/
set_option Elab.async false
set_option linter.all false
set_option maxRecDepth 100000
namespace K02
open PySem ML
/-! ## the law's helpers -/
theorem cut0 (xs : List PyData) : cutD xs none (some 0) = [] := by
  unfold cutD
  show (xs.drop 0).take (min 0 xs.length - 0) = []
  simp
theorem e_put {x y : PyData} {xs : List PyData} (hl : xs.length ≤ 1000) : f__law_put [D (.tuple (y :: xs)), D (.int 0), D x] = .ok (.val (.tuple (x :: xs))) [D (.tuple (y :: xs)), D (.int 0), D x] := by
  unfold f__law_put
  rw [ev_Def]
  have c0 := cut0 (y :: xs)
  have c1 := cut1 (y :: xs)
  have h : 1 + xs.length ≤ 16777216 := by omega
  simp [gSl, c0, c1, gAdd, vI, h]
theorem e_law_opens (l : List (List Int)) (k : List Int) (hk : k.length ≤ 1000) : f__law_opens [D (enc l), D (row k)] = .ok (tf (opL l k)) [D (enc l), D (row k)] := by
  unfold f__law_opens
  have lp := loopC_pure (bnd := bTup 2 (bCons (bName 2) (bCons (bName 3) bNil))) (mt := asT (m2 gNotIn (asD (mVar 2)) (asD (mVar 3)))) (me := asD (mC (.int 1))) (vs := [2, 3]) (ρ0 := [D (enc l), D (row k), none, none]) (fun p => match p with | .tuple [.int c, .tuple ds] => !isInD (.int c) ds | _ => false) (fun _ => .int 1) (zipD (k.map .int) (l.map row)) [] (fun p hp => by
    rw [zip_map] at hp
    obtain ⟨⟨c, r⟩, _, rfl⟩ := List.mem_map.mp hp
    have q := gNotIn_row c r
    refine ⟨[D (enc l), D (row k), D (.int c), D (row r)], rfl, [D (enc l), D (row k), D (.int c), D (row r)], ?_, fun _ => ⟨_, rfl, rfl⟩, fun _ => rfl⟩
    simp [q, inInts]) (by rw [zipD_len, List.length_map, List.length_map, List.length_nil]; omega)
  have hm : ((zipD (k.map .int) (l.map row)).filter (fun p => match p with | .tuple [.int c, .tuple ds] => !isInD (.int c) ds | _ => false)).map (fun _ => PyData.int 1) = (((k.zip l).filter fun p => !p.2.contains p.1).map fun _ => (1 : Int)).map .int := by
    rw [zip_map, List.filter_map, List.map_map, List.map_map]
    have : ((k.zip l).filter ((fun p : PyData => match p with | .tuple [.int c, .tuple ds] => !isInD (.int c) ds | _ => false) ∘ fun p : Int × List Int => PyData.tuple [.int p.1, row p.2])) = (k.zip l).filter fun p => !p.2.contains p.1 := by
      refine List.filter_congr fun p _ => ?_
      simp [inInts]
    rw [this]
    rfl
  rw [hm, List.nil_append] at lp
  have heq : ∀ z : List Int, gEqS (.list (z.map .int)) (.list []) = some (tf z.isEmpty) := fun z => by
    have h2 : SeqAt.shaped (.list (z.map .int)) = true := by simp [SeqAt.shaped, PyData.canLay0, canInts, PyData.depth, depInts]
    have h3 : SeqAt.shaped (.list []) = true := rfl
    show gEq _ _ = _
    unfold gEq
    rw [if_pos ⟨h2, h3⟩]
    cases z <;> rfl
  have hop : (((k.zip l).filter fun p => !p.2.contains p.1).map fun _ => (1 : Int)).isEmpty = opL l k := by
    unfold opL
    generalize k.zip l = z
    induction z with
    | nil => rfl
    | cons p z ih =>
      rw [List.filter_cons, List.all_cons]
      cases hp : p.2.contains p.1
      · simp
      · simpa [hp] using ih
  refine def_rt (pr := [true, true]) (l := 4) (ρ0 := [D (enc l), D (row k), none, none]) (ρ' := [D (enc l), D (row k), none, none]) rfl ?_ rfl
  have ez : mZip (mCons (asD (mVar 1)) (mCons (asD (mVar 0)) mNil)) [D (enc l), D (row k), none, none] = .ok (zipD (k.map .int) (l.map row)) [D (enc l), D (row k), none, none] := rfl
  rw [ev_sRet, ev_m2, ev_asD, ev_Lc, ez, Res.bind_ok]
  show ((((if true = true then calmR (loopC _ _ _ _ _ [] [D (enc l), D (row k), none, none]) _ else _).bind _).bind _).go _) = _
  rw [if_pos rfl, lp, ev_calm]
  show ((Res.of (gEqS (.list _) (.list [])) _).go _) = _
  rw [heq, hop]
  rfl
/-! ### refusals -/
theorem e_refused {m d : Int} (hd : MD m d) {x y : PyData} (h : lockB m d x = false ∨ lockB m d x = true ∧ lockB m d y = false) (w : Int) : f__law_refused [D (.int w), D (mk m d), D x, D y] = .ok (tf true) [D (.int w), D (mk m d), D x, D y] := by
  have hb : f_both_locks [D (mk m d), D x, D y] = .exc "BadLock" [] [D (mk m d), D x, D y] := by
    rcases h with h | ⟨h1, h2⟩
    · exact x_both1 hd h
    · exact x_both2 hd h1 h2
  have hw : f_is_within [D (mk m d), D x, D y] = .exc "BadLock" [] [D (mk m d), D x, D y] := by
    rcases h with h | ⟨h1, h2⟩
    · exact x_within1 hd h
    · exact x_within2 hd h1 h2
  have e1 : ∀ t : Option B, sSet 5 (mIf (asT (m2 gEqS (asD (mVar 0)) (asD (mC (.int 0))))) (mCall f_both_locks [.vl (mVar 1), .vl (mVar 2), .vl (mVar 3)]) (mCall f_is_within [.vl (mVar 1), .vl (mVar 2), .vl (mVar 3)])) [D (.int w), D (mk m d), D x, D y, D .none, none, none] = .exc "BadLock" [] [D (.int w), D (mk m d), D x, D y, D .none, none, none] := fun t => by
    have q : gEqS (.int w) (.int 0) = some (tf (w == 0)) := rfl
    cases hz : w == 0 <;> simp [q, hz, hb, hw]
  have e2 : sTry (fun c => hit_KeyedError.lookup c) 6 4 (sSet 5 (mIf (asT (m2 gEqS (asD (mVar 0)) (asD (mC (.int 0))))) (mCall f_both_locks [.vl (mVar 1), .vl (mVar 2), .vl (mVar 3)]) (mCall f_is_within [.vl (mVar 1), .vl (mVar 2), .vl (mVar 3)]))) [D (.int w), D (mk m d), D x, D y, D .none, none, none] = .nx [D (.int w), D (mk m d), D x, D y, some (.exc "BadLock" []), none, none] := by
    have hh : hit_KeyedError.lookup ("BadLock" : Str) = some true := by decide +kernel
    simp only [sTry, e1 none, hh]
    rfl
  have i1 : isiF tabC ex_BadLock (.exc "BadLock" []) = some true := by decide +kernel
  have i2 : isiF tabC ex_BadMake (.exc "BadLock" []) = some false := by decide +kernel
  unfold f__law_refused
  refine def_rt (pr := [true, true, true, true]) (l := 7) (ρ0 := [D (.int w), D (mk m d), D x, D y, none, none, none]) (ρ' := [D (.int w), D (mk m d), D x, D y, some (.exc "BadLock" []), none, none]) rfl ?_ rfl
  have e0 : sSet 4 (mC .none) [D (.int w), D (mk m d), D x, D y, none, none, none] = .nx [D (.int w), D (mk m d), D x, D y, D .none, none, none] := rfl
  rw [ev_sSeq, e0, SRes.seq_nx, ev_sSeq, e2, SRes.seq_nx]
  simp [i1, i2]
/-! ### what is no lock -/
section
variable {m d : Int} {a : List (List Int)}
theorem odd_none : lockB m d .none = false := rfl
theorem odd_list (xs : List PyData) : lockB m d (.list xs) = false := rfl
theorem odd_len {xs : List PyData} (h : (xs.length : Int) ≠ m) : lockB m d (.tuple xs) = false := by
  show ((decide (m ≤ (xs.length : Int)) && decide ((xs.length : Int) ≤ m)) && allT (cutsB d) (.tuple xs)) = false
  have : (decide (m ≤ (xs.length : Int)) && decide ((xs.length : Int) ≤ m)) = false := by
    rw [Bool.and_eq_false_iff, decide_eq_false_iff_not, decide_eq_false_iff_not]
    omega
  rw [this, Bool.false_and]
theorem odd_head {x : PyData} {xs : List PyData} (h : cutsB d x = false) : lockB m d (.tuple (x :: xs)) = false := by
  show (rowB m m (.tuple (x :: xs)) && (x :: xs).all (cutsB d)) = false
  rw [List.all_cons, h, Bool.false_and, Bool.and_false]
theorem odd1 : cutsB d (.tuple []) = false := rfl
theorem odd2 : cutsB d (.tuple [.int d]) = false := by
  show (rowB 1 d (.tuple [.int d]) && [PyData.int d].all (inR 0 (d - 1)) && ascT (.tuple [.int d])) = false
  have : inR 0 (d - 1) (.int d) = false := by
    show (decide (0 ≤ d) && decide (d ≤ d - 1)) = false
    rw [Bool.and_eq_false_iff, decide_eq_false_iff_not, decide_eq_false_iff_not]
    omega
  rw [List.all_cons, this, Bool.false_and, Bool.and_false, Bool.false_and]
theorem odd3 : cutsB d (.tuple [.int 0, .int 0]) = false := by
  unfold cutsB
  rw [show ascT (.tuple [.int 0, .int 0]) = false from rfl, Bool.and_false]
theorem odd4 : cutsB d (.list [.int 0]) = false := rfl
end
end K02
/-! # K02V -/
set_option Elab.async false
set_option linter.all false
set_option maxRecDepth 100000
namespace K02
open PySem ML
/-! ## two locks are right -/
abbrev Z : Option B := none
theorem szInts : ∀ r : List Int, szDs (r.map .int) = 7 * r.length
  | [] => rfl
  | x :: r => by simp only [List.map_cons, szDs, szD, szInts r, List.length_cons]; omega
theorem okInts : ∀ r : List Int, (∀ c ∈ r, 0 ≤ c ∧ c < 5) → okDs (r.map .int) = true
  | [], _ => rfl
  | x :: r, h => by
    have h1 := h x List.mem_cons_self
    have h2 := okInts r fun c hc => h c (List.mem_cons_of_mem _ hc)
    simp only [List.map_cons, okDs, okD, h2, Bool.and_true, Bool.and_eq_true, decide_eq_true_eq]
    omega
theorem szRows : ∀ l : List (List Int), (∀ r ∈ l, r.length ≤ 5) → szDs (l.map row) ≤ 41 * l.length
  | [], _ => Nat.le_refl _
  | r :: l, h => by
    have h1 := h r List.mem_cons_self
    have h2 := szRows l fun q hq => h q (List.mem_cons_of_mem _ hq)
    simp only [List.map_cons, szDs, szD, szInts, List.length_cons]
    omega
theorem okRows : ∀ l : List (List Int), (∀ r ∈ l, ∀ c ∈ r, 0 ≤ c ∧ c < 5) → okDs (l.map row) = true
  | [], _ => rfl
  | r :: l, h => by
    have h2 := okRows l fun q hq => h q (List.mem_cons_of_mem _ hq)
    simp only [List.map_cons, okDs, okD, h2, Bool.and_true]
    exact okInts r (h r List.mem_cons_self)
/-- small told things -/
structure Small (d : PyData) : Prop where
  ok : okD d = true
  sz : szD d ≤ 1000
  dp : d.depth ≤ 10
theorem sm_none : Small .none := ⟨rfl, by decide, by decide⟩
theorem sm_bool (b : Bool) : Small (.bool b) := ⟨rfl, by cases b <;> decide, by cases b <;> decide⟩
theorem sm_enc {m d : Int} (hd : MD m d) {l : List (List Int)} (h : LockOk m d l) : Small (enc l) := by
  have h5 := hd.d5
  refine ⟨okRows l fun r hr c hc => ?_, ?_, ?_⟩
  · have := h.rg r hr c hc
    omega
  · have := szRows l (h.r5 hd)
    have := h.l5 hd
    show szDs (l.map row) + 4 ≤ 1000
    omega
  · have := depRows l
    show PyData.depthAll (l.map row) + 1 ≤ 10
    omega
theorem nice_of {d : PyData} (h : Small d) : Nice d := ⟨h.ok, by have := h.sz; omega, by have := h.dp; omega⟩
theorem nice2 {x y : PyData} (hx : Small x) (hy : Small y) : Nice (.list [x, y]) := by
  refine ⟨?_, ?_, ?_⟩
  · simp [okD, okDs, hx.ok, hy.ok]
  · have := hx.sz
    have := hy.sz
    simp only [szD, szDs]
    omega
  · have := hx.dp
    have := hy.dp
    simp only [PyData.depth, PyData.depthAll]
    omega
theorem nice3 {x y z : PyData} (hx : Small x) (hy : Small y) (hz : Small z) : Nice (.list [x, y, z]) := by
  refine ⟨?_, ?_, ?_⟩
  · simp [okD, okDs, hx.ok, hy.ok, hz.ok]
  · have := hx.sz
    have := hy.sz
    have := hz.sz
    simp only [szD, szDs]
    omega
  · have := hx.dp
    have := hy.dp
    have := hz.dp
    simp only [PyData.depth, PyData.depthAll]
    omega
theorem nice3t {x y z : PyData} (hx : Small x) (hy : Small y) (hz : Small z) : Nice (.tuple [x, y, z]) := by
  have h := nice3 hx hy hz
  exact ⟨h.ok, h.sz, h.dp⟩
section
variable {m d : Int} (hd : MD m d) {a b : List (List Int)} (ha : LockOk m d a) (hb : LockOk m d b)
include hd ha hb
theorem sm_both : Small (bothR a b) := by
  unfold bothR
  split
  · exact sm_none
  · rename_i h
    exact sm_enc hd (both_lock ha hb (Bool.eq_false_iff.mpr h))
theorem tr1 (s : List PyData) : sSet 4 (mCall f__law_both [.vl (mVar 2), .vl (mVar 3)]) [L s, D (mk m d), D (enc a), D (enc b), Z, Z, Z, Z, Z, Z, Z, Z, Z, Z, Z] = .nx [L s, D (mk m d), D (enc a), D (enc b), D (bothR a b), Z, Z, Z, Z, Z, Z, Z, Z, Z, Z] := by
  have h1 := ha.l5 hd
  have h2 := ha.r5 hd
  have e := e_law_both a b (by omega) (fun r hr => by have := h2 r hr; omega)
  simp [e]
theorem tr2 (s : List PyData) : sSet 5 (mLst (mCons (asD (m2 gEqS (asD (mVar 4)) (asD (mVar 2)))) (mCons (asD (m2 gEqS (asD (mVar 4)) (asD (mVar 3)))) mNil))) [L s, D (mk m d), D (enc a), D (enc b), D (bothR a b), Z, Z, Z, Z, Z, Z, Z, Z, Z, Z] =
    .nx [L s, D (mk m d), D (enc a), D (enc b), D (bothR a b), L [.bool (inL a b), .bool (inL b a)], Z, Z, Z, Z, Z, Z, Z, Z, Z] := by
  have e1 := due_eq ha hb
  have e2 := due_eq2 ha hb
  simp [e1, e2]
theorem tr3 (s w : List PyData) : sIf (tNotM (asT (mCall f__law_same [.vl (mLst (mCons (asD (mCall f_both_locks [.vl (mVar 1), .vl (mVar 2), .vl (mVar 3)])) (mCons (asD (mCall f_both_locks [.vl (mVar 1), .vl (mVar 3), .vl (mVar 2)])) (mCons (asD (mCallK f_both_locks [.vl (mVar 3), .vl (mVar 2), .vl (mVar 1)] [2, 1, 0])) mNil)))), .vl (m2 gMulX (asD (mLst (mCons (asD (mVar 4)) mNil))) (asD (mC (.int 3))))]))) (sRet (mC (.bool false))) sNil
    [L s, D (mk m d), D (enc a), D (enc b), D (bothR a b), L w, Z, Z, Z, Z, Z, Z, Z, Z, Z] = .nx [L s, D (mk m d), D (enc a), D (enc b), D (bothR a b), L w, Z, Z, Z, Z, Z, Z, Z, Z, Z] := by
  have e1 := e_both hd ha hb
  have e2 := e_both hd hb ha
  rw [← bothR_comm ha hb] at e2
  have n := e_same (nice3 (sm_both hd ha hb) (sm_both hd ha hb) (sm_both hd ha hb))
  have mul : gMulX (.list [bothR a b]) (.int 3) = some (.lst [bothR a b, bothR a b, bothR a b]) := rfl
  have pk : ∀ x y z : Option B, pick [2, 1, 0] [x, y, z] = [z, y, x] := fun _ _ _ => rfl
  simp [e1, e2, n, mul, pk]
theorem tr4 (s : List PyData) : sIf (tNotM (asT (mCall f__law_same [.vl (mLst (mCons (asD (mCall f_is_within [.vl (mVar 1), .vl (mVar 2), .vl (mVar 3)])) (mCons (asD (mCall f_is_within [.vl (mVar 1), .vl (mVar 3), .vl (mVar 2)])) (mCons (asD (mCall f_is_within [.vl (mVar 1), .vl (mVar 2), .vl (mVar 2)])) mNil)))), .vl (m2 gAdd (asD (mVar 5)) (asD (mLst (mCons (asD (mC (.bool true))) mNil))))]))) (sRet (mC (.bool false))) sNil
    [L s, D (mk m d), D (enc a), D (enc b), D (bothR a b), L [.bool (inL a b), .bool (inL b a)], Z, Z, Z, Z, Z, Z, Z, Z, Z] = .nx [L s, D (mk m d), D (enc a), D (enc b), D (bothR a b), D (.list [.bool (inL a b), .bool (inL b a)]), Z, Z, Z, Z, Z, Z, Z, Z, Z] := by
  have e1 := e_within hd ha hb
  have e2 := e_within hd hb ha
  have e3 := e_within hd ha ha
  rw [in_refl ha] at e3
  have n := e_same (nice3 (sm_bool (inL a b)) (sm_bool (inL b a)) (sm_bool true))
  have ad : gAdd (.list [.bool (inL a b), .bool (inL b a)]) (.list [.bool true]) = some (.lst [.bool (inL a b), .bool (inL b a), .bool true]) := rfl
  simp [e1, e2, e3, n, ad]
omit hb in
theorem as_ok {o : List Int} {cs : List (List Int)} (t : TurnOk m d o cs) : f__law_as_lock [D (turnD o cs), D (enc a)] = .ok (.val (enc (asL o cs a))) [D (turnD o cs), D (enc a)] := by
  have h2 := hd.d2
  have hm := hd.m5
  refine e_as_lock (d := d) (fun ch hc => ?_) (fun c hc => ?_) ha.rg (fun r hr => by have := ha.r5 hd r hr; omega) ?_
  · have := rng_mem.mp (t.o.mem_iff.mp hc)
    rw [ha.len]
    exact this
  · have := (t.c c hc).length_eq
    rw [rng_len] at this
    omega
  · have := t.ol
    have := t.n
    omega
theorem tr6 {o : List Int} {cs : List (List Int)} (t : TurnOk m d o cs) (s : List PyData) (w : PyData) : sPar2 7 8 (mCall f__law_as_lock [.vl (mVar 6), .vl (mVar 2)]) (mCall f__law_as_lock [.vl (mVar 6), .vl (mVar 3)])
    [L s, D (mk m d), D (enc a), D (enc b), D (bothR a b), D w, D (turnD o cs), Z, Z, Z, Z, Z, Z, Z, Z] = .nx [L s, D (mk m d), D (enc a), D (enc b), D (bothR a b), D w, D (turnD o cs), D (enc (asL o cs a)), D (enc (asL o cs b)), Z, Z, Z, Z, Z, Z] := by
  have e1 := as_ok hd ha t
  have e2 := as_ok hd hb t
  simp only [turnD, enc] at e1 e2 ⊢
  simp [e1, e2]
theorem is_none_both : gIs (bothR a b) .none = some (tf ((bothL a b).any List.isEmpty)) ∧ gIsNot (bothR a b) .none = some (tf (!(bothL a b).any List.isEmpty)) := by
  unfold bothR
  cases h : (bothL a b).any List.isEmpty <;> exact ⟨rfl, rfl⟩
theorem tr7 {o : List Int} {cs : List (List Int)} (t : TurnOk m d o cs) (s : List PyData) : sIf (tNotM (asT (mCall f__law_same [.vl (mLst (mCons (asD (mCall f_both_locks [.vl (mVar 1), .vl (mVar 7), .vl (mVar 8)])) (mCons (asD (mCall f_is_within [.vl (mVar 1), .vl (mVar 7), .vl (mVar 8)])) mNil))), .vl (mLst (mCons (asD (mIf (asT (m2 gIs (asD (mVar 4)) (asD (mC .none)))) (mC .none) (mCall f__law_as_lock [.vl (mVar 6), .vl (mVar 4)]))) (mCons (asD (mIdxV 5 (asD (mC (.int 0))))) mNil)))]))) (sRet (mC (.bool false))) sNil
    [L s, D (mk m d), D (enc a), D (enc b), D (bothR a b), D (.list [.bool (inL a b), .bool (inL b a)]), D (turnD o cs), D (enc (asL o cs a)), D (enc (asL o cs b)), Z, Z, Z, Z, Z, Z] =
    .nx [L s, D (mk m d), D (enc a), D (enc b), D (bothR a b), D (.list [.bool (inL a b), .bool (inL b a)]), D (turnD o cs), D (enc (asL o cs a)), D (enc (asL o cs b)), Z, Z, Z, Z, Z, Z] := by
  have la := lock_as t ha
  have lb := lock_as t hb
  have e1 := e_both hd la lb
  have e2 := e_within hd la lb
  rw [in_as t ha hb] at e2
  have hw : bothR (asL o cs a) (asL o cs b) = if (bothL a b).any List.isEmpty = true then .none else enc (asL o cs (bothL a b)) := by
    unfold bothR
    rw [both_as t ha hb, empty_as t (bothL_len ha.len hb.len)]
  have i0 : gIdx (.list [.bool (inL a b), .bool (inL b a)]) (.int 0) = some (.val (.bool (inL a b))) := rfl
  have n := e_same (nice2 (sm_both hd la lb) (sm_bool (inL a b)))
  obtain ⟨q1, q2⟩ := is_none_both hd ha hb
  cases he : (bothL a b).any List.isEmpty with
  | true =>
    rw [he] at q1 hw
    rw [if_pos rfl] at hw
    rw [hw] at e1 n
    simp only [turnD, enc] at e1 e2 n q1 i0 ⊢
    simp [e1, e2, q1, i0, n]
  | false =>
    have lu := both_lock ha hb he
    have e3 := as_ok hd lu t
    have hu : bothR a b = enc (bothL a b) := by unfold bothR; rw [he]; rfl
    rw [he] at q1 hw
    rw [if_neg Bool.false_ne_true] at hw
    rw [hw] at e1 n
    rw [hu] at q1 ⊢
    simp only [turnD, enc] at e1 e2 e3 n q1 i0 ⊢
    simp [e1, e2, q1, i0, e3, n]
theorem tr8 {o : List Int} {cs : List (List Int)} (s : List PyData) (w x7 x8 : PyData) : sIf (tAndM (asT (m2 gIsNot (asD (mVar 4)) (asD (mC .none)))) (tNotM (asT (mCall f__law_same [.vl (mLst (mCons (asD (mCall f_is_within [.vl (mVar 1), .vl (mVar 4), .vl (mVar 2)])) (mCons (asD (mCall f_is_within [.vl (mVar 1), .vl (mVar 4), .vl (mVar 3)])) mNil))), .vl (mLst (mCons (asD (mC (.bool true))) (mCons (asD (mC (.bool true))) mNil)))])))) (sRet (mC (.bool false))) sNil
    [L s, D (mk m d), D (enc a), D (enc b), D (bothR a b), D w, D (turnD o cs), D x7, D x8, Z, Z, Z, Z, Z, Z] = .nx [L s, D (mk m d), D (enc a), D (enc b), D (bothR a b), D w, D (turnD o cs), D x7, D x8, Z, Z, Z, Z, Z, Z] := by
  obtain ⟨q1, q2⟩ := is_none_both hd ha hb
  cases he : (bothL a b).any List.isEmpty with
  | true =>
    rw [he] at q2
    simp [q2]
  | false =>
    have lu := both_lock ha hb he
    have hu : bothR a b = enc (bothL a b) := by unfold bothR; rw [he]; rfl
    have e1 := e_within hd lu ha
    have e2 := e_within hd lu hb
    rw [in_both1 ha hb] at e1
    rw [in_both2 ha hb] at e2
    have n := e_same (nice2 (sm_bool true) (sm_bool true))
    rw [he] at q2
    rw [hu] at q2 ⊢
    simp only [enc] at e1 e2 q2 ⊢
    simp [e1, e2, q2, n]
end
end K02
/-! # K02X -/
set_option Elab.async false
set_option linter.all false
set_option maxRecDepth 100000
namespace K02
open PySem ML
/-! ### a key is drawn -/
theorem loop_key {x1 x2 x3 x4 x5 x6 x7 x8 x9 x10 x11 x12 x13 : Option B} : ∀ (l : List (List Int)) (acc : List Int) (n : Nat) (s : List PyData), SrcOk n s → n + l.length ≤ 1000000 → acc.length + l.length ≤ 1000 → (∀ r ∈ l, r ≠ [] ∧ r.length ≤ 5) →
    ∃ s' k, loopC (bName 14) mYes (asD (mCall f__law_pick [.rf 0, .vl (mVar 14)])) [14] (l.map row) (acc.map .int) [L s, x1, x2, x3, x4, x5, x6, x7, x8, x9, x10, x11, x12, x13, Z] = .ok ((acc ++ k).map .int) [L s', x1, x2, x3, x4, x5, x6, x7, x8, x9, x10, x11, x12, x13, Z] ∧ k.length = l.length ∧ (∀ c ∈ k, ∃ r ∈ l, c ∈ r) ∧ SrcOk (n + l.length) s'
  | [], acc, n, s, hs, _, _, _ => ⟨s, [], by simp [loopC], rfl, by simp, hs⟩
  | r :: l, acc, n, s, hs, hn, hz, hr => by
    have hn' : n + (l.length + 1) ≤ 1000000 := hn
    have hz' : acc.length + (l.length + 1) ≤ 1000 := hz
    have h0 := hr r List.mem_cons_self
    obtain ⟨x, s1, e1, hx, h1⟩ := e_pickT (xs := r.map .int) hs (by omega) (by simpa using h0.1) (by rw [List.length_map]; omega)
    obtain ⟨c, hc, rfl⟩ := List.mem_map.mp hx
    obtain ⟨s2, k, e2, hl, hk, h2⟩ := loop_key (x1 := x1) (x2 := x2) (x3 := x3) (x4 := x4) (x5 := x5) (x6 := x6) (x7 := x7) (x8 := x8) (x9 := x9) (x10 := x10) (x11 := x11) (x12 := x12) (x13 := x13) l (acc ++ [c]) (n + 1) s1 h1 (by omega) (by rw [List.length_append, List.length_singleton]; omega) fun q hq => hr q (List.mem_cons_of_mem _ hq)
    refine ⟨s2, c :: k, ?_, by rw [List.length_cons, List.length_cons, hl], fun z hz => ?_, h2.mono (by rw [List.length_cons]; omega)⟩
    · have e3 : (acc ++ [c]).map PyData.int = acc.map PyData.int ++ [.int c] := by simp
      rw [e3] at e2
      rw [show acc ++ c :: k = acc ++ [c] ++ k by simp, ← e2, List.map_cons]
      refine loopC_step (ρ1 := [L s, x1, x2, x3, x4, x5, x6, x7, x8, x9, x10, x11, x12, x13, D (row r)]) (ρ3 := [L s1, x1, x2, x3, x4, x5, x6, x7, x8, x9, x10, x11, x12, x13, D (row r)]) rfl rfl ?_ (by rw [List.length_map]; omega) rfl
      simp [e1]
    · rcases List.mem_cons.mp hz with rfl | hz
      · exact ⟨r, List.mem_cons_self, hc⟩
      · obtain ⟨q, hq, h⟩ := hk z hz
        exact ⟨q, List.mem_cons_of_mem _ hq, h⟩
abbrev keyM : Mn B := mA gTuple (mCons (asD (mLc (mIt (mCall f__law_pick [.rf 0, .vl (mLst (mCons (asD (mVar 2)) (mCons (asD (mVar 3)) mNil)))])) (bName 14) mYes (asD (mCall f__law_pick [.rf 0, .vl (mVar 14)])) [14])) mNil)
section
variable {m d : Int} (hd : MD m d) {a b : List (List Int)} (ha : LockOk m d a) (hb : LockOk m d b)
include hd ha hb
theorem e_key {n : Nat} {s : List PyData} (h : SrcOk n s) (hn : n + 6 ≤ 1000000) {x4 x5 x6 x7 x8 x9 x10 x11 x12 x13 : Option B} :
    ∃ k s', sSet 10 keyM [L s, D (mk m d), D (enc a), D (enc b), x4, x5, x6, x7, x8, x9, x10, x11, x12, x13, Z] = .nx [L s', D (mk m d), D (enc a), D (enc b), x4, x5, x6, x7, x8, x9, D (row k), x11, x12, x13, Z] ∧ KeyOk m d k ∧ SrcOk (n + 6) s' := by
  obtain ⟨x, s1, e1, hx, h1⟩ := e_pickL (xs := [enc a, enc b]) h (by omega) (by simp) (by simp)
  obtain ⟨l, hl, hlx⟩ : ∃ l, x = enc l ∧ LockOk m d l := by
    rcases List.mem_cons.mp hx with rfl | hx
    · exact ⟨a, rfl, ha⟩
    · exact ⟨b, by simpa using hx, hb⟩
  subst hl
  have h5 := hlx.l5 hd
  obtain ⟨s2, k, e2, hkl, hk, h2⟩ := loop_key (x1 := D (mk m d)) (x2 := D (enc a)) (x3 := D (enc b)) (x4 := x4) (x5 := x5) (x6 := x6) (x7 := x7) (x8 := x8) (x9 := x9) (x10 := x10) (x11 := x11) (x12 := x12) (x13 := x13) l [] (n + 1) s1 h1 (by omega) (by rw [List.length_nil]; omega) fun r hr => ⟨hlx.ne r hr, hlx.r5 hd r hr⟩
  refine ⟨k, s2, ?_, ⟨by rw [hkl]; exact hlx.len, fun c hc => ?_⟩, h2.mono (by omega)⟩
  · rw [List.map_nil, List.nil_append] at e2
    have e3 : mIt (mCall f__law_pick [.rf 0, .vl (mLst (mCons (asD (mVar 2)) (mCons (asD (mVar 3)) mNil)))]) [L s, D (mk m d), D (enc a), D (enc b), x4, x5, x6, x7, x8, x9, x10, x11, x12, x13, Z] = .ok (l.map row) [L s1, D (mk m d), D (enc a), D (enc b), x4, x5, x6, x7, x8, x9, x10, x11, x12, x13, Z] := by
      simp only [enc] at e1 ⊢
      simp [e1, itList]
    have e4 : mLc (mIt (mCall f__law_pick [.rf 0, .vl (mLst (mCons (asD (mVar 2)) (mCons (asD (mVar 3)) mNil)))])) (bName 14) mYes (asD (mCall f__law_pick [.rf 0, .vl (mVar 14)])) [14] [L s, D (mk m d), D (enc a), D (enc b), x4, x5, x6, x7, x8, x9, x10, x11, x12, x13, Z] = .ok (.lst (k.map .int)) [L s2, D (mk m d), D (enc a), D (enc b), x4, x5, x6, x7, x8, x9, x10, x11, x12, x13, Z] := by
      rw [ev_Lc, e3, Res.bind_ok]
      show (if true = true then calmR (loopC _ _ _ _ _ [] [L s1, D (mk m d), D (enc a), D (enc b), x4, x5, x6, x7, x8, x9, x10, x11, x12, x13, Z]) _ else _) = _
      rw [if_pos rfl, e2]
      rfl
    have e5 : keyM [L s, D (mk m d), D (enc a), D (enc b), x4, x5, x6, x7, x8, x9, x10, x11, x12, x13, Z] = .ok (.val (.tuple (k.map .int))) [L s2, D (mk m d), D (enc a), D (enc b), x4, x5, x6, x7, x8, x9, x10, x11, x12, x13, Z] := by
      unfold keyM
      rw [ev_mA, ev_Cons, ev_asD, e4]
      rfl
    rw [ev_sSet, e5]
    rfl
  · obtain ⟨r, hr, h⟩ := hk c hc
    exact hlx.rg r hr c h
abbrev bothM : Sm := sSet 11 (mAnd (m2 gIsNot (asD (mVar 4)) (asD (mC .none))) (mCall f_opens [.vl (mVar 1), .vl (mVar 4), .vl (mVar 10)]))
theorem tr9b {k : List Int} (hk : KeyOk m d k) (s : List PyData) {x5 x6 x7 x8 x9 x11 x12 x13 x14 : Option B} :
    bothM [L s, D (mk m d), D (enc a), D (enc b), D (bothR a b), x5, x6, x7, x8, x9, D (row k), x11, x12, x13, x14] = .nx [L s, D (mk m d), D (enc a), D (enc b), D (bothR a b), x5, x6, x7, x8, x9, D (row k), D (.bool (opL (bothL a b) k)), x12, x13, x14] := by
  obtain ⟨q1, q2⟩ := is_none_both hd ha hb
  cases he : (bothL a b).any List.isEmpty with
  | true =>
    rw [he] at q2
    have e := op_empty (bothL a b) k (by have := hk.len; have := bothL_len ha.len hb.len; omega) he
    simp [bothM, q2, e]
  | false =>
    have hu : bothR a b = enc (bothL a b) := by unfold bothR; rw [he]; rfl
    have e := e_opens hd (both_lock ha hb he) hk
    rw [he] at q2
    rw [hu] at q2 ⊢
    simp only [enc, row] at e q2 ⊢
    simp [bothM, q2, e]
abbrev chkM : Sm := sIf (tOrM (asT (m2 gNeS (asD (mAnd (mCall f_opens [.vl (mVar 1), .vl (mVar 2), .vl (mVar 10)]) (mCall f_opens [.vl (mVar 1), .vl (mVar 3), .vl (mVar 10)]))) (asD (mVar 11)))) (tAndM (asT (mIdxV 5 (asD (mC (.int 0))))) (tAndM (asT (mCall f_opens [.vl (mVar 1), .vl (mVar 2), .vl (mVar 10)])) (tNotM (asT (mCall f_opens [.vl (mVar 1), .vl (mVar 3), .vl (mVar 10)])))))) (sRet (mC (.bool false))) sNil
theorem tr9c {k : List Int} (hk : KeyOk m d k) (s : List PyData) {y : Bool} {x4 x6 x7 x8 x9 x12 x13 x14 : Option B} :
    chkM [L s, D (mk m d), D (enc a), D (enc b), x4, D (.list [.bool (inL a b), .bool y]), x6, x7, x8, x9, D (row k), D (.bool (opL (bothL a b) k)), x12, x13, x14] = .nx [L s, D (mk m d), D (enc a), D (enc b), x4, D (.list [.bool (inL a b), .bool y]), x6, x7, x8, x9, D (row k), D (.bool (opL (bothL a b) k)), x12, x13, x14] := by
  have e1 := e_opens hd ha hk
  have e2 := e_opens hd hb hk
  have lab : a.length = b.length := by have := ha.len; have := hb.len; omega
  have lk : k.length = a.length := by have := ha.len; have := hk.len; omega
  have hq := op_both a b k lab lk
  have hi := op_in a b k lab lk
  have i0 : gIdx (.list [.bool (inL a b), .bool y]) (.int 0) = some (.val (.bool (inL a b))) := rfl
  have ne : ∀ x : Bool, gNe (.bool x) (.bool x) = some (tf false) := fun x => by cases x <;> rfl
  rw [hq]
  simp only [enc, row] at e1 e2 ⊢
  cases h1 : opL a k <;> cases h2 : opL b k <;> cases h3 : inL a b <;> rw [h1] at e1 hi <;> rw [h2] at e2 hi <;> rw [h3] at hi i0 <;> first | (exact absurd (hi rfl rfl) (by decide)) | (simp [chkM, e1, e2, i0, ne])
theorem loop9 {y : Bool} {x6 x7 x8 x12 x13 : Option B} : ∀ (ts : List PyData) (n : Nat) (s : List PyData) (x9 x10 x11 : Option B), SrcOk n s → n + 6 * ts.length ≤ 1000000 → plainB x10 = true →
    ∃ s' y9 y10 y11, plainB y10 = true ∧ loopS (bName 9) (sSeq (sSet 10 keyM) (sSeq bothM chkM)) ts [L s, D (mk m d), D (enc a), D (enc b), D (bothR a b), D (.list [.bool (inL a b), .bool y]), x6, x7, x8, x9, x10, x11, x12, x13, Z] = .nx [L s', D (mk m d), D (enc a), D (enc b), D (bothR a b), D (.list [.bool (inL a b), .bool y]), x6, x7, x8, y9, y10, y11, x12, x13, Z] ∧ SrcOk (n + 6 * ts.length) s'
  | [], n, s, x9, x10, x11, hs, _, hp => ⟨s, x9, x10, x11, hp, rfl, hs⟩
  | t :: ts, n, s, x9, x10, x11, hs, hn, _ => by
    have hn' : n + 6 * (ts.length + 1) ≤ 1000000 := hn
    obtain ⟨k, s1, e1, hk, h1⟩ := e_key hd ha hb (x4 := D (bothR a b)) (x5 := D (.list [.bool (inL a b), .bool y])) (x6 := x6) (x7 := x7) (x8 := x8) (x9 := D t) (x10 := x10) (x11 := x11) (x12 := x12) (x13 := x13) hs (by omega)
    obtain ⟨s2, y9, y10, y11, hy, e2, h2⟩ := loop9 ts (n + 6) s1 (D t) (D (row k)) (D (.bool (opL (bothL a b) k))) h1 (by omega) rfl
    refine ⟨s2, y9, y10, y11, hy, ?_, h2.mono (by rw [List.length_cons]; omega)⟩
    rw [← e2]
    refine loopS_step (ρ1 := [L s, D (mk m d), D (enc a), D (enc b), D (bothR a b), D (.list [.bool (inL a b), .bool y]), x6, x7, x8, D t, x10, x11, x12, x13, Z]) rfl ?_
    rw [ev_sSeq, e1, SRes.seq_nx, ev_sSeq, tr9b hd ha hb hk, SRes.seq_nx, tr9c hd ha hb hk]
/-! ### counting -/
abbrev cntM : Sm := sIf (asT (m2 gLt (asD (mCall f_count_keys [.vl (mVar 1), .vl (mVar 2)])) (asD (mC (.int 200))))) (sSeq (sSet 12 (mLc (mIt (mCall f_keys_of [.vl (mVar 1), .vl (mVar 2)])) (bName 10) (tNotM (asT (mCall f__law_opens [.vl (mVar 3), .vl (mVar 10)]))) (asD (mVar 10)) [10]))
   (sIf (asT (m2 gNeS (asD (mLenV 12)) (asD (m2 gSub (asD (mCall f_count_keys [.vl (mVar 1), .vl (mVar 2)])) (asD (mIf (asT (m2 gIs (asD (mVar 4)) (asD (mC .none)))) (mC (.int 0)) (mCall f_count_keys [.vl (mVar 1), .vl (mVar 4)]))))))) (sRet (mC (.bool false))) sNil)) sNil
theorem tr10 (s : List PyData) {x5 x6 x7 x8 x9 x11 x12 x13 x14 : Option B} {x10 : Option B} (hp : plainB x10 = true) :
    ∃ y12, cntM [L s, D (mk m d), D (enc a), D (enc b), D (bothR a b), x5, x6, x7, x8, x9, x10, x11, x12, x13, x14] = .nx [L s, D (mk m d), D (enc a), D (enc b), D (bothR a b), x5, x6, x7, x8, x9, x10, x11, y12, x13, x14] := by
  have c1 := e_count hd ha
  have lab : a.length = b.length := by have := ha.len; have := hb.len; omega
  by_cases hc : cntI a < 200
  · refine ⟨L (((keysL a).filter fun k => !opL b k).map row), ?_⟩
    have e1 := e_keys hd ha (by omega)
    have hkl : (keysL a).length ≤ 200 := by
      rw [keysL_eq, keys_all]
      rw [cntI_eq] at hc
      omega
    have h5 := ha.l5 hd
    have lp := loopC_pure (bnd := bName 10) (mt := tNotM (asT (mCall f__law_opens [.vl (mVar 3), .vl (mVar 10)]))) (me := asD (mVar 10)) (vs := [10]) (ρ0 := [L s, D (mk m d), D (enc a), D (enc b), D (bothR a b), x5, x6, x7, x8, x9, Z, x11, x12, x13, x14]) (fun p => match p with | .tuple xs => !opL b ((intsOf xs).getD []) | _ => false) (fun p => p) ((keysL a).map row) [] (fun p hp => by
      obtain ⟨k, hk, rfl⟩ := List.mem_map.mp hp
      have hk2 : k.length ≤ 1000 := by
        rw [keysL_eq] at hk
        have := keys_len a k hk
        omega
      have q := e_law_opens b k hk2
      refine ⟨[L s, D (mk m d), D (enc a), D (enc b), D (bothR a b), x5, x6, x7, x8, x9, D (row k), x11, x12, x13, x14], rfl, [L s, D (mk m d), D (enc a), D (enc b), D (bothR a b), x5, x6, x7, x8, x9, D (row k), x11, x12, x13, x14], ?_, fun _ => ⟨[L s, D (mk m d), D (enc a), D (enc b), D (bothR a b), x5, x6, x7, x8, x9, D (row k), x11, x12, x13, x14], rfl, rfl⟩, fun _ => rfl⟩
      simp only [enc, row] at q ⊢
      simp [q, intsOf_map]) (by rw [List.length_map, List.length_nil]; omega)
    have hm : (((keysL a).map row).filter (fun p => match p with | .tuple xs => !opL b ((intsOf xs).getD []) | _ => false)).map (fun p => p) = ((keysL a).filter fun k => !opL b k).map row := by
      rw [List.map_id', List.filter_map]
      congr 1
      refine List.filter_congr fun k _ => ?_
      simp [intsOf_map]
    rw [hm, List.nil_append] at lp
    have e2 : mIt (mCall f_keys_of [.vl (mVar 1), .vl (mVar 2)]) [L s, D (mk m d), D (enc a), D (enc b), D (bothR a b), x5, x6, x7, x8, x9, x10, x11, x12, x13, x14] = .ok ((keysL a).map row) [L s, D (mk m d), D (enc a), D (enc b), D (bothR a b), x5, x6, x7, x8, x9, x10, x11, x12, x13, x14] := by
      simp only [enc] at e1 ⊢
      simp [e1, itList]
    have e3 : sSet 12 (mLc (mIt (mCall f_keys_of [.vl (mVar 1), .vl (mVar 2)])) (bName 10) (tNotM (asT (mCall f__law_opens [.vl (mVar 3), .vl (mVar 10)]))) (asD (mVar 10)) [10]) [L s, D (mk m d), D (enc a), D (enc b), D (bothR a b), x5, x6, x7, x8, x9, x10, x11, x12, x13, x14] = .nx [L s, D (mk m d), D (enc a), D (enc b), D (bothR a b), x5, x6, x7, x8, x9, x10, x11, L (((keysL a).filter fun k => !opL b k).map row), x13, x14] := by
      rw [ev_sSet, ev_Lc, e2, Res.bind_ok]
      have ho : ownPlain [10] [L s, D (mk m d), D (enc a), D (enc b), D (bothR a b), x5, x6, x7, x8, x9, x10, x11, x12, x13, x14] = true := by
        show (plainB x10 && true) = true
        rw [hp]
        rfl
      rw [if_pos ho]
      show (calmR (loopC _ _ _ _ _ [] [L s, D (mk m d), D (enc a), D (enc b), D (bothR a b), x5, x6, x7, x8, x9, Z, x11, x12, x13, x14]) _).go _ = _
      rw [lp]
      rfl
    have al := alone_count lab
    obtain ⟨q1, q2⟩ := is_none_both hd ha hb
    have lt : gLt (.int (cntI a)) (.int 200) = some (tf true) := by simp [gLt, vB, hc]
    have ln : gLen [.list (((keysL a).filter fun k => !opL b k).map row)] = some (.val (.int (cntI a - cntI (bothL a b)))) := by
      show some (B.val (.int _)) = _
      rw [List.length_map, al]
    have ne : ∀ x : Int, gNe (.int x) (.int x) = some (tf false) := fun x => by
      have h : SeqAt.shaped (.int x) = true := rfl
      simp only [gNe, h, and_self, if_true, PyData.eqv, beq_self_eq_true]
      rfl
    have cond : asT (m2 gLt (asD (mCall f_count_keys [.vl (mVar 1), .vl (mVar 2)])) (asD (mC (.int 200)))) [L s, D (mk m d), D (enc a), D (enc b), D (bothR a b), x5, x6, x7, x8, x9, x10, x11, x12, x13, x14] = .ok true [L s, D (mk m d), D (enc a), D (enc b), D (bothR a b), x5, x6, x7, x8, x9, x10, x11, x12, x13, x14] := by
      simp only [enc] at c1 ⊢
      simp [c1, lt]
    show sIf _ _ _ _ = _
    rw [ev_sIf, cond]
    show (sSeq _ _ _) = _
    rw [ev_sSeq, e3, SRes.seq_nx]
    cases he : (bothL a b).any List.isEmpty with
    | true =>
      rw [he] at q1
      have h0 : cntI (bothL a b) = 0 := by rw [cntI_eq, cnt_empty he]; rfl
      rw [h0, Int.sub_zero] at ln
      have ne0 := ne (cntI a)
      have sb : gSub (.int (cntI a)) (.int 0) = some (.val (.int (cntI a))) := by
        show vI (cntI a - 0) = _
        rw [Int.sub_zero]
        rfl
      simp only [enc] at c1 ⊢
      simp [c1, q1, ln, sb, ne0]
    | false =>
      have hu : bothR a b = enc (bothL a b) := by unfold bothR; rw [he]; rfl
      have c2 := e_count hd (both_lock ha hb he)
      have ne0 := ne (cntI a - cntI (bothL a b))
      have sb : gSub (.int (cntI a)) (.int (cntI (bothL a b))) = some (.val (.int (cntI a - cntI (bothL a b)))) := rfl
      rw [he] at q1
      rw [hu] at q1 ⊢
      simp only [enc] at c1 c2 q1 ⊢
      simp [c1, c2, q1, ln, sb, ne0]
  · refine ⟨x12, ?_⟩
    have lt : gLt (.int (cntI a)) (.int 200) = some (tf false) := by simp [gLt, vB]; omega
    simp only [enc] at c1 ⊢
    simp [cntM, c1, lt]
end
end K02
/-! # K02Y -/
set_option Elab.async false
set_option linter.all false
set_option maxRecDepth 100000
namespace K02
open PySem ML
theorem rf_set {m d : Int} (hd : MD m d) {a b : List (List Int)} (ha : LockOk m d a) (hb : LockOk m d b) {n : Nat} {s : List PyData} (h : SrcOk n s) (hn : n + 36 ≤ 1000000) {x4 x5 : Option B} :
    ∃ o cs s', sSet 6 (mCall f__law_turn [.rf 0, .vl (mVar 1)]) [L s, D (mk m d), D (enc a), D (enc b), x4, x5, Z, Z, Z, Z, Z, Z, Z, Z, Z] = .nx [L s', D (mk m d), D (enc a), D (enc b), x4, x5, D (turnD o cs), Z, Z, Z, Z, Z, Z, Z, Z] ∧ TurnOk m d o cs ∧ SrcOk (n + 36) s' := by
  obtain ⟨o, cs, s1, e1, p1, p2, p3, h1⟩ := e_turn hd h hn
  refine ⟨o, cs, s1, ?_, ⟨p1, p2, p3⟩, h1⟩
  simp only [turnD] at e1 ⊢
  simp [e1]
/-! ### what is refused -/
abbrev oddM : Sm := sIf (tOrM (tNotM (asT (mCall f__law_refused [.vl (mCall f__law_take [.rf 0, .vl (mC (.int 2))]), .vl (mVar 1), .vl (mVar 13), .vl (mVar 3)]))) (tNotM (asT (mCall f__law_refused [.vl (mCall f__law_take [.rf 0, .vl (mC (.int 2))]), .vl (mVar 1), .vl (mVar 2), .vl (mVar 13)])))) (sRet (mC (.bool false))) sNil
theorem odd_turn {m d : Int} (hd : MD m d) {a b : List (List Int)} (ha : LockOk m d a) (hb : LockOk m d b) {n : Nat} {s : List PyData} (h : SrcOk n s) (hn : n + 2 ≤ 1000000) {x : PyData} (hx : lockB m d x = false) {x4 x5 x6 x7 x8 x9 x10 x11 x12 x14 : Option B} :
    ∃ s', oddM [L s, D (mk m d), D (enc a), D (enc b), x4, x5, x6, x7, x8, x9, x10, x11, x12, D x, x14] = .nx [L s', D (mk m d), D (enc a), D (enc b), x4, x5, x6, x7, x8, x9, x10, x11, x12, D x, x14] ∧ SrcOk (n + 2) s' := by
  obtain ⟨r, s1, e1, _, _, h1⟩ := e_take h (by omega) (many := 2) (by omega) (by omega)
  obtain ⟨q, s2, e2, _, _, h2⟩ := e_take h1 (by omega) (many := 2) (by omega) (by omega)
  have f1 := e_refused hd (x := x) (y := enc b) (.inl hx) r
  have f2 := e_refused hd (x := enc a) (y := x) (.inr ⟨lock_enc ha hd, hx⟩) q
  refine ⟨s2, ?_, h2⟩
  simp only [enc] at f1 f2 ⊢
  simp [oddM, e1, e2, f1, f2]
theorem loop_odd {m d : Int} (hd : MD m d) {a b : List (List Int)} (ha : LockOk m d a) (hb : LockOk m d b) {x4 x5 x6 x7 x8 x9 x10 x11 x12 x14 : Option B} : ∀ (xs : List PyData) (n : Nat) (s : List PyData) (x13 : Option B), SrcOk n s → n + 2 * xs.length ≤ 1000000 → (∀ x ∈ xs, lockB m d x = false) →
    ∃ s' y, loopS (bName 13) oddM xs [L s, D (mk m d), D (enc a), D (enc b), x4, x5, x6, x7, x8, x9, x10, x11, x12, x13, x14] = .nx [L s', D (mk m d), D (enc a), D (enc b), x4, x5, x6, x7, x8, x9, x10, x11, x12, y, x14] ∧ SrcOk (n + 2 * xs.length) s'
  | [], n, s, x13, hs, _, _ => ⟨s, x13, rfl, hs⟩
  | x :: xs, n, s, x13, hs, hn, hx => by
    have hn' : n + 2 * (xs.length + 1) ≤ 1000000 := hn
    obtain ⟨s1, e1, h1⟩ := odd_turn hd ha hb (x4 := x4) (x5 := x5) (x6 := x6) (x7 := x7) (x8 := x8) (x9 := x9) (x10 := x10) (x11 := x11) (x12 := x12) (x14 := x14) hs (by omega) (hx x List.mem_cons_self)
    obtain ⟨s2, y, e2, h2⟩ := loop_odd hd ha hb (x4 := x4) (x5 := x5) (x6 := x6) (x7 := x7) (x8 := x8) (x9 := x9) (x10 := x10) (x11 := x11) (x12 := x12) (x14 := x14) xs (n + 2) s1 (D x) h1 (by omega) fun z hz => hx z (List.mem_cons_of_mem _ hz)
    refine ⟨s2, y, ?_, h2.mono (by rw [List.length_cons]; omega)⟩
    rw [← e2]
    exact loopS_step (ρ1 := [L s, D (mk m d), D (enc a), D (enc b), x4, x5, x6, x7, x8, x9, x10, x11, x12, D x, x14]) rfl e1
theorem cutL (x : PyData) (xs : List PyData) : (cutD (x :: xs) none (some (-1))).length = xs.length := by
  unfold cutD
  have e : HT.sIx (x :: xs).length (x :: xs).length (some (-1)) = xs.length := by
    simp only [HT.sIx, List.length_cons]
    split <;> omega
  rw [e]
  show (((x :: xs).drop 0).take (xs.length - 0)).length = _
  simp
abbrev oddsM : Mn (List PyData) := mIt (mLst (mCons (asD (mC .none)) (mCons (asD (mA gList (mCons (asD (mVar 2)) mNil))) (mCons (asD (mSl (asD (mVar 2)) (mO none) (mO (some (asD (m1 gNeg (asD (mC (.int 1))))))))) (mCons (asD (m2 gAdd (asD (mVar 2)) (asD (mTup (mCons (asD (mTup (mCons (asD (mC (.int 0))) mNil))) mNil))))) (mCons (asD (mCall f__law_put [.vl (mVar 2), .vl (mC (.int 0)), .vl (mTup mNil)])) (mCons (asD (mCall f__law_put [.vl (mVar 2), .vl (mC (.int 0)), .vl (mTup (mCons (asD (mIdxV 1 (asD (mC (.int 1))))) mNil))])) (mCons (asD (mCall f__law_put [.vl (mVar 2), .vl (mC (.int 0)), .vl (mTup (mCons (asD (mC (.int 0))) (mCons (asD (mC (.int 0))) mNil)))])) (mCons (asD (mCall f__law_put [.vl (mVar 2), .vl (mC (.int 0)), .vl (mLst (mCons (asD (mC (.int 0))) mNil))])) mNil)))))))))
def oddsL (d : Int) (x : PyData) (xs : List PyData) : List PyData := [.none, .list (x :: xs), .tuple (cutD (x :: xs) none (some (-1))), .tuple (x :: xs ++ [.tuple [.int 0]]), .tuple (.tuple [] :: xs), .tuple (.tuple [.int d] :: xs), .tuple (.tuple [.int 0, .int 0] :: xs), .tuple (.list [.int 0] :: xs)]
theorem odds_eq {m d : Int} {x : PyData} {xs : List PyData} (hl : xs.length ≤ 1000) {x0 x3 x4 x5 x6 x7 x8 x9 x10 x11 x12 x13 x14 : Option B} :
    oddsM [x0, D (mk m d), D (.tuple (x :: xs)), x3, x4, x5, x6, x7, x8, x9, x10, x11, x12, x13, x14] = .ok (oddsL d x xs) [x0, D (mk m d), D (.tuple (x :: xs)), x3, x4, x5, x6, x7, x8, x9, x10, x11, x12, x13, x14] := by
  have p1 := e_put (x := .tuple []) (y := x) hl
  have p2 := e_put (x := .tuple [.int d]) (y := x) hl
  have p3 := e_put (x := .tuple [.int 0, .int 0]) (y := x) hl
  have p4 := e_put (x := .list [.int 0]) (y := x) hl
  have a1 : gAdd (.tuple (x :: xs)) (.tuple [.tuple [.int 0]]) = some (.val (.tuple (x :: xs ++ [.tuple [.int 0]]))) := by
    have : xs.length + 1 + 1 ≤ 16777216 := by omega
    simp [gAdd, this]
  have s1 : gSl (.tuple (x :: xs)) none (some (-1)) = some (.val (.tuple (cutD (x :: xs) none (some (-1))))) := by
    have : xs.length + 1 ≤ 16777216 := by omega
    simp [gSl, this]
  have l1 : gList [.tuple (x :: xs)] = some (.lst (x :: xs)) := rfl
  have g1 : gNeg (.int 1) = some (.val (.int (-1))) := rfl
  simp [oddsM, oddsL, p1, p2, p3, p4, a1, s1, l1, g1, itList]
theorem tr11 {m d : Int} (hd : MD m d) {a b : List (List Int)} (ha : LockOk m d a) (hb : LockOk m d b) {n : Nat} {s : List PyData} (h : SrcOk n s) (hn : n + 16 ≤ 1000000) {x4 x5 x6 x7 x8 x9 x10 x11 x12 x13 x14 : Option B} :
    ∃ s' y, sFor oddsM (bName 13) oddM [L s, D (mk m d), D (enc a), D (enc b), x4, x5, x6, x7, x8, x9, x10, x11, x12, x13, x14] = .nx [L s', D (mk m d), D (enc a), D (enc b), x4, x5, x6, x7, x8, x9, x10, x11, x12, y, x14] ∧ SrcOk (n + 16) s' := by
  have h5 := ha.l5 hd
  have hm := hd.m1
  have hl := ha.len
  cases a with
  | nil => simp at hl; omega
  | cons r a =>
    have hl2 : ((a.map row).length : Int) + 1 = m := by rw [List.length_map]; simpa using hl
    have hc := cutL (row r) (a.map row)
    have e := odds_eq (m := m) (d := d) (x := row r) (xs := a.map row) (by rw [List.length_map]; rw [List.length_cons] at h5; omega) (x0 := L s) (x3 := D (enc b)) (x4 := x4) (x5 := x5) (x6 := x6) (x7 := x7) (x8 := x8) (x9 := x9) (x10 := x10) (x11 := x11) (x12 := x12) (x13 := x13) (x14 := x14)
    obtain ⟨s1, y, e2, h2⟩ := loop_odd hd ha hb (x4 := x4) (x5 := x5) (x6 := x6) (x7 := x7) (x8 := x8) (x9 := x9) (x10 := x10) (x11 := x11) (x12 := x12) (x14 := x14) (oddsL d (row r) (a.map row)) n s x13 h hn (by
      intro z hz
      simp only [oddsL, List.mem_cons, List.mem_nil_iff, or_false] at hz
      rcases hz with rfl | rfl | rfl | rfl | rfl | rfl | rfl | rfl
      · exact odd_none
      · exact odd_list _
      · exact odd_len (by omega)
      · exact odd_len (by rw [List.length_append, List.length_cons, List.length_singleton]; omega)
      · exact odd_head odd1
      · exact odd_head odd2
      · exact odd_head odd3
      · exact odd_head odd4)
    refine ⟨s1, y, ?_, h2⟩
    rw [← e2, ev_sFor]
    show (oddsM [L s, D (mk m d), D (.tuple (row r :: a.map row)), D (enc b), x4, x5, x6, x7, x8, x9, x10, x11, x12, x13, x14]).go _ = _
    rw [e]
    rfl
/-! ### two locks are right -/
theorem two_right {m d : Int} (hd : MD m d) {a b : List (List Int)} (ha : LockOk m d a) (hb : LockOk m d b) {n : Nat} {s : List PyData} (h : SrcOk n s) (hn : n + 76 ≤ 1000000) :
    ∃ s', f__law_two_right [L s, D (mk m d), D (enc a), D (enc b)] = .ok (tf true) [L s', D (mk m d), D (enc a), D (enc b)] ∧ SrcOk (n + 76) s' := by
  obtain ⟨o, cs, s1, e5, t, h1⟩ := rf_set hd ha hb h (by omega) (x4 := D (bothR a b)) (x5 := D (.list [.bool (inL a b), .bool (inL b a)]))
  obtain ⟨s2, y9, y10, y11, hy, e9, h2⟩ := loop9 hd ha hb (y := inL b a) (x6 := D (turnD o cs)) (x7 := D (enc (asL o cs a))) (x8 := D (enc (asL o cs b))) (x12 := Z) (x13 := Z) (rgD 0 4) (n + 36) s1 Z Z Z h1 (by show n + 36 + 24 ≤ _; omega) rfl
  have h2' : SrcOk (n + 60) s2 := h2
  obtain ⟨y12, e10⟩ := tr10 hd ha hb s2 (x5 := D (.list [.bool (inL a b), .bool (inL b a)])) (x6 := D (turnD o cs)) (x7 := D (enc (asL o cs a))) (x8 := D (enc (asL o cs b))) (x9 := y9) (x10 := y10) (x11 := y11) (x12 := Z) (x13 := Z) (x14 := Z) hy
  obtain ⟨s3, y13, e11, h3⟩ := tr11 hd ha hb h2' (by omega) (x4 := D (bothR a b)) (x5 := D (.list [.bool (inL a b), .bool (inL b a)])) (x6 := D (turnD o cs)) (x7 := D (enc (asL o cs a))) (x8 := D (enc (asL o cs b))) (x9 := y9) (x10 := y10) (x11 := y11) (x12 := y12) (x13 := Z) (x14 := Z)
  refine ⟨s3, ?_, h3⟩
  have e9' : sFor (mRg1 (mCons (asD (mC (.int 4))) mNil)) (bName 9) (sSeq (sSet 10 keyM) (sSeq bothM chkM)) [L s1, D (mk m d), D (enc a), D (enc b), D (bothR a b), D (.list [.bool (inL a b), .bool (inL b a)]), D (turnD o cs), D (enc (asL o cs a)), D (enc (asL o cs b)), Z, Z, Z, Z, Z, Z] = .nx [L s2, D (mk m d), D (enc a), D (enc b), D (bothR a b), D (.list [.bool (inL a b), .bool (inL b a)]), D (turnD o cs), D (enc (asL o cs a)), D (enc (asL o cs b)), y9, y10, y11, Z, Z, Z] := by
    have e0 : ∀ ρ : Env', mRg1 (mCons (asD (mC (.int 4))) mNil) ρ = .ok (rgD 0 4) ρ := fun ρ => rfl
    rw [ev_sFor, e0]
    exact e9
  unfold cntM at e10
  unfold oddsM oddM at e11
  unfold keyM bothM chkM at e9'
  unfold f__law_two_right
  refine def_rt (pr := [true, true, true, true]) (l := 15) (ρ0 := [L s, D (mk m d), D (enc a), D (enc b), Z, Z, Z, Z, Z, Z, Z, Z, Z, Z, Z]) (ρ' := [L s3, D (mk m d), D (enc a), D (enc b), D (bothR a b), D (.list [.bool (inL a b), .bool (inL b a)]), D (turnD o cs), D (enc (asL o cs a)), D (enc (asL o cs b)), y9, y10, y11, y12, y13, Z]) rfl ?_ rfl
  rw [ev_sSeq, tr1 hd ha hb, SRes.seq_nx, ev_sSeq, tr2 hd ha hb, SRes.seq_nx, ev_sSeq, tr3 hd ha hb, SRes.seq_nx, ev_sSeq, tr4 hd ha hb, SRes.seq_nx, ev_sSeq, e5, SRes.seq_nx, ev_sSeq, tr6 hd ha hb t, SRes.seq_nx, ev_sSeq, tr7 hd ha hb t, SRes.seq_nx, ev_sSeq, tr8 hd ha hb, SRes.seq_nx, ev_sSeq, e9', SRes.seq_nx, ev_sSeq, e10, SRes.seq_nx, ev_sSeq, e11, SRes.seq_nx]
  rfl
end K02
/-! # K02Z -/
set_option Elab.async false
set_option linter.all false
set_option maxRecDepth 100000
namespace K02
open PySem ML
/-! ## the law's turn -/
/-! ### the union of two locks -/
def uniL (a b : List (List Int)) : List (List Int) := (a.zip b).map fun p => sortU (p.1 ++ p.2)
theorem uni_ok {m d : Int} {a b : List (List Int)} (ha : LockOk m d a) (hb : LockOk m d b) : LockOk m d (uniL a b) := by
  refine ⟨?_, fun r hr => ?_, fun r hr c hc => ?_, fun r hr => ?_⟩
  · have h1 := ha.len
    have h2 := hb.len
    unfold uniL
    rw [List.length_map, List.length_zip]
    omega
  · obtain ⟨p, hp, rfl⟩ := List.mem_map.mp hr
    have h1 := ha.ne p.1 (List.of_mem_zip hp).1
    obtain ⟨c, hc⟩ := List.exists_mem_of_ne_nil _ h1
    exact List.ne_nil_of_mem (sortU_mem.mpr (List.mem_append_left p.2 hc))
  · obtain ⟨p, hp, rfl⟩ := List.mem_map.mp hr
    have hm := List.of_mem_zip hp
    rcases List.mem_append.mp (sortU_mem.mp hc) with h | h
    · exact ha.rg _ hm.1 c h
    · exact hb.rg _ hm.2 c h
  · obtain ⟨p, hp, rfl⟩ := List.mem_map.mp hr
    exact sortU_asc _
abbrev uniM : Mn B := mLc (mZip (mCons (asD (mVar 5)) (mCons (asD (mVar 6)) mNil))) (bTup 2 (bCons (bName 13) (bCons (bName 14) bNil))) mYes (asD (mA gTuple (mCons (asD (m1 gSortSet (asD (m2 gAdd (asD (mVar 13)) (asD (mVar 14)))))) mNil))) [13, 14]
theorem e_uni {m d : Int} (hd : MD m d) {a b : List (List Int)} (ha : LockOk m d a) (hb : LockOk m d b) {x0 x1 x2 x3 x4 x7 x8 x9 x10 x11 x12 : Option B} :
    uniM [x0, x1, x2, x3, x4, D (enc a), D (enc b), x7, x8, x9, x10, x11, x12, Z, Z] = .ok (.lst ((uniL a b).map row)) [x0, x1, x2, x3, x4, D (enc a), D (enc b), x7, x8, x9, x10, x11, x12, Z, Z] := by
  have hl5 := ha.l5 hd
  have hr5 := ha.r5 hd
  have hq5 := hb.r5 hd
  have iA : ∀ r q : List Int, intsOf (r.map PyData.int ++ q.map .int) = some (r ++ q) := fun r q => by rw [← List.map_append, intsOf_map]
  have lp := loopC_pure (bnd := bTup 2 (bCons (bName 13) (bCons (bName 14) bNil))) (mt := mYes) (me := asD (mA gTuple (mCons (asD (m1 gSortSet (asD (m2 gAdd (asD (mVar 13)) (asD (mVar 14)))))) mNil))) (vs := [13, 14]) (ρ0 := [x0, x1, x2, x3, x4, D (enc a), D (enc b), x7, x8, x9, x10, x11, x12, Z, Z]) (fun _ => true)
    (fun p => match p with | .tuple [.tuple xs, .tuple ys] => row (sortU ((intsOf (xs ++ ys)).getD [])) | _ => .none) (zipD (a.map row) (b.map row)) [] (fun p hp => by
    rw [zip_map] at hp
    obtain ⟨⟨r, q⟩, hm, rfl⟩ := List.mem_map.mp hp
    refine ⟨[x0, x1, x2, x3, x4, D (enc a), D (enc b), x7, x8, x9, x10, x11, x12, D (row r), D (row q)], rfl, _, rfl, fun _ => ⟨[x0, x1, x2, x3, x4, D (enc a), D (enc b), x7, x8, x9, x10, x11, x12, D (row r), D (row q)], ?_, rfl⟩, fun z => by cases z⟩
    have h1 := hr5 r (List.of_mem_zip hm).1
    have h2 := hq5 q (List.of_mem_zip hm).2
    have ga : gAdd (.tuple (r.map .int)) (.tuple (q.map .int)) = some (.val (.tuple (r.map .int ++ q.map .int))) := by
      have : r.length + q.length ≤ 16777216 := by omega
      simp [gAdd, this]
    have gs : gSortSet (.tuple (r.map .int ++ q.map .int)) = some (.lst ((sortU (r ++ q)).map .int)) := by
      have : r.length + q.length < 64 := by omega
      simp [gSortSet, iA, this]
    simp only [iA, row, Option.getD_some]
    simp [ga, gs, gTuple]) (by rw [zipD_len]; simp; omega)
  have hm : (zipD (a.map row) (b.map row)).map (fun p => match p with | .tuple [.tuple xs, .tuple ys] => row (sortU ((intsOf (xs ++ ys)).getD [])) | _ => .none) = (uniL a b).map row := by
    rw [zip_map, uniL, List.map_map, List.map_map]
    refine List.map_congr_left fun p _ => ?_
    show row (sortU ((intsOf (p.1.map PyData.int ++ p.2.map .int)).getD [])) = row (sortU (p.1 ++ p.2))
    rw [iA]
    rfl
  rw [filt_true, hm, List.nil_append] at lp
  have e1 : mZip (mCons (asD (mVar 5)) (mCons (asD (mVar 6)) mNil)) [x0, x1, x2, x3, x4, D (enc a), D (enc b), x7, x8, x9, x10, x11, x12, Z, Z] = .ok (zipD (a.map row) (b.map row)) [x0, x1, x2, x3, x4, D (enc a), D (enc b), x7, x8, x9, x10, x11, x12, Z, Z] := rfl
  unfold uniM
  rw [ev_Lc, e1, Res.bind_ok]
  show (if true = true then calmR (loopC _ _ _ _ _ [] [x0, x1, x2, x3, x4, D (enc a), D (enc b), x7, x8, x9, x10, x11, x12, Z, Z]) _ else _) = _
  rw [if_pos rfl, lp]
  rfl
/-! ### the full lock -/
def fullL (m d : Int) : List (List Int) := List.replicate m.toNat (rng d)
theorem full_ok {m d : Int} (hd : MD m d) : LockOk m d (fullL m d) := by
  have h1 := hd.m1
  have h2 := hd.d2
  refine ⟨?_, fun r hr => ?_, fun r hr c hc => ?_, fun r hr => ?_⟩
  · unfold fullL
    rw [List.length_replicate]
    omega
  · rw [List.eq_of_mem_replicate hr]
    intro e
    have := rng_len d
    rw [e, List.length_nil] at this
    omega
  · rw [List.eq_of_mem_replicate hr] at hc
    exact rng_mem.mp hc
  · rw [List.eq_of_mem_replicate hr]
    exact rng_asc d
theorem mul_full {m : Int} (h1 : 1 ≤ m) (h5 : m ≤ 5) (x : List Int) : gMulX (.tuple [row x]) (.int m) = some (.val (enc (List.replicate m.toNat x))) := by
  have h : m = 1 ∨ m = 2 ∨ m = 3 ∨ m = 4 ∨ m = 5 := by omega
  rcases h with rfl | rfl | rfl | rfl | rfl
  · rfl
  · simp [gMulX, gMul]
  · simp [gMulX, gMul]
  · simp [gMulX, gMul]
  · simp [gMulX, gMul]
/-! ### the steps -/
theorem eq0 (r : Int) : gEq (.int r) (.int 0) = some (tf (r == 0)) := rfl
section
variable {ns : List Int} {x1 x3 x4 x5 x6 x7 x8 x9 x10 x11 x12 : Option B}
abbrev S (ns : List Int) : Option B := some (.scr ns)
theorem st4 {n : Nat} {s : List PyData} (h : SrcOk n s) (hn : n + 2 ≤ 1000000) :
    ∃ m d s', sSet 4 (mCall f__law_make [.rf 2]) [S ns, x1, L s, x3, x4, x5, x6, x7, x8, x9, x10, x11, x12, Z, Z] = .nx [S ns, x1, L s', x3, D (mk m d), x5, x6, x7, x8, x9, x10, x11, x12, Z, Z] ∧ MD m d ∧ SrcOk (n + 2) s' := by
  obtain ⟨m, d, s1, e1, hd, h1⟩ := e_make h hn
  exact ⟨m, d, s1, by simp [e1], hd, h1⟩
variable {m d : Int} (hd : MD m d)
include hd
theorem st5 {n : Nat} {s : List PyData} (h : SrcOk n s) (hn : n + 90 ≤ 1000000) :
    ∃ a b c s', sPar3 5 6 7 (mCall f__law_lock [.rf 2, .vl (mVar 4)]) (mCall f__law_lock [.rf 2, .vl (mVar 4)]) (mCall f__law_lock [.rf 2, .vl (mVar 4)]) [S ns, x1, L s, x3, D (mk m d), x5, x6, x7, x8, x9, x10, x11, x12, Z, Z] = .nx [S ns, x1, L s', x3, D (mk m d), D (enc a), D (enc b), D (enc c), x8, x9, x10, x11, x12, Z, Z] ∧ LockOk m d a ∧ LockOk m d b ∧ LockOk m d c ∧ SrcOk (n + 90) s' := by
  obtain ⟨a, s1, e1, ha, h1⟩ := e_lock hd h (by omega)
  obtain ⟨b, s2, e2, hb, h2⟩ := e_lock hd h1 (by omega)
  obtain ⟨c, s3, e3, hc, h3⟩ := e_lock hd h2 (by omega)
  refine ⟨a, b, c, s3, ?_, ha, hb, hc, h3⟩
  simp only [enc] at e1 e2 e3 ⊢
  simp [e1, e2, e3]
theorem st6 {a b : List (List Int)} (ha : LockOk m d a) (hb : LockOk m d b) {n : Nat} {s : List PyData} (h : SrcOk n s) (hn : n + 1 ≤ 1000000) :
    ∃ b' s', sIf (asT (m2 gEqS (asD (mCall f__law_take [.rf 2, .vl (mC (.int 2))])) (asD (mC (.int 0))))) (sSet 6 (mA gTuple (mCons (asD uniM) mNil))) sNil [S ns, x1, L s, x3, D (mk m d), D (enc a), D (enc b), x7, x8, x9, x10, x11, x12, Z, Z] = .nx [S ns, x1, L s', x3, D (mk m d), D (enc a), D (enc b'), x7, x8, x9, x10, x11, x12, Z, Z] ∧ LockOk m d b' ∧ SrcOk (n + 1) s' := by
  obtain ⟨r, s1, e1, _, _, h1⟩ := e_take h (by omega) (many := 2) (by omega) (by omega)
  have ec : asT (m2 gEqS (asD (mCall f__law_take [.rf 2, .vl (mC (.int 2))])) (asD (mC (.int 0)))) [S ns, x1, L s, x3, D (mk m d), D (enc a), D (enc b), x7, x8, x9, x10, x11, x12, Z, Z] = .ok (r == 0) [S ns, x1, L s1, x3, D (mk m d), D (enc a), D (enc b), x7, x8, x9, x10, x11, x12, Z, Z] := by
    have e0 := eq0 r
    simp [e1, e0]
  rw [ev_sIf, ec]
  cases hr : r == 0 with
  | false => exact ⟨b, s1, rfl, hb, h1⟩
  | true =>
    refine ⟨uniL a b, s1, ?_, uni_ok ha hb, h1⟩
    show sSet 6 _ _ = _
    rw [ev_sSet, ev_mA, ev_Cons, ev_asD, e_uni hd ha hb]
    rfl
theorem st7 {n : Nat} {c : List (List Int)} (hc : LockOk m d c) {s : List PyData} (h : SrcOk n s) (hn : n + 1 ≤ 1000000) :
    ∃ c' s', sIf (asT (m2 gEqS (asD (mCall f__law_take [.rf 2, .vl (mC (.int 3))])) (asD (mC (.int 0))))) (sSet 7 (m2 gMulX (asD (mTup (mCons (asD (mTRg1 (asD (mIdxV 4 (asD (mC (.int 1))))))) mNil))) (asD (mIdxV 4 (asD (mC (.int 0))))))) sNil [S ns, x1, L s, x3, D (mk m d), x5, x6, D (enc c), x8, x9, x10, x11, x12, Z, Z] = .nx [S ns, x1, L s', x3, D (mk m d), x5, x6, D (enc c'), x8, x9, x10, x11, x12, Z, Z] ∧ LockOk m d c' ∧ SrcOk (n + 1) s' := by
  obtain ⟨r, s1, e1, _, _, h1⟩ := e_take h (by omega) (many := 3) (by omega) (by omega)
  have ec : asT (m2 gEqS (asD (mCall f__law_take [.rf 2, .vl (mC (.int 3))])) (asD (mC (.int 0)))) [S ns, x1, L s, x3, D (mk m d), x5, x6, D (enc c), x8, x9, x10, x11, x12, Z, Z] = .ok (r == 0) [S ns, x1, L s1, x3, D (mk m d), x5, x6, D (enc c), x8, x9, x10, x11, x12, Z, Z] := by
    have e0 := eq0 r
    simp [e1, e0]
  have d2 := hd.d2
  have d5 := hd.d5
  rw [ev_sIf, ec]
  cases hr : r == 0 with
  | false => exact ⟨c, s1, rfl, hc, h1⟩
  | true =>
    refine ⟨fullL m d, s1, ?_, full_ok hd, h1⟩
    have ro := rgOk5 (d := d) (by omega) d5
    have rg := rgI_rng d
    have mf := mul_full hd.m1 hd.m5 (rng d)
    have et : mTRg1 (asD (mIdxV 4 (asD (mC (.int 1))))) [S ns, x1, L s1, x3, D (mk m d), x5, x6, D (enc c), x8, x9, x10, x11, x12, Z, Z] = .ok (.val (row (rng d))) [S ns, x1, L s1, x3, D (mk m d), x5, x6, D (enc c), x8, x9, x10, x11, x12, Z, Z] := by
      have e0 : asD (mIdxV 4 (asD (mC (.int 1)))) [S ns, x1, L s1, x3, D (mk m d), x5, x6, D (enc c), x8, x9, x10, x11, x12, Z, Z] = .ok (.int d) [S ns, x1, L s1, x3, D (mk m d), x5, x6, D (enc c), x8, x9, x10, x11, x12, Z, Z] := rfl
      rw [ev_TRg1, e0]
      show (if rgOkB 0 d = true then Res.ok (B.val (.tuple (rgI 0 d))) _ else _) = _
      rw [if_pos ro, rg]
    have et2 : asD (mTup (mCons (asD (mTRg1 (asD (mIdxV 4 (asD (mC (.int 1))))))) mNil)) [S ns, x1, L s1, x3, D (mk m d), x5, x6, D (enc c), x8, x9, x10, x11, x12, Z, Z] = .ok (.tuple [row (rng d)]) [S ns, x1, L s1, x3, D (mk m d), x5, x6, D (enc c), x8, x9, x10, x11, x12, Z, Z] := by
      rw [ev_asD, ev_Tup, ev_Cons, ev_asD, et]
      rfl
    have e0 : asD (mIdxV 4 (asD (mC (.int 0)))) [S ns, x1, L s1, x3, D (mk m d), x5, x6, D (enc c), x8, x9, x10, x11, x12, Z, Z] = .ok (.int m) [S ns, x1, L s1, x3, D (mk m d), x5, x6, D (enc c), x8, x9, x10, x11, x12, Z, Z] := rfl
    show sSet 7 _ _ = _
    rw [ev_sSet, ev_m2, et2, Res.bind_ok, e0, Res.bind_ok, mf]
    rfl
end
end K02
/-! # K02ZB -/
set_option Elab.async false
set_option linter.all false
set_option maxRecDepth 100000
namespace K02
open PySem ML
section
variable {ns : List Int} {x1 x3 x4 x5 x6 x7 x8 x9 x10 x11 x12 : Option B} {m d : Int} (hd : MD m d)
include hd
abbrev trioM : Mn B := mA gRepr (mCons (asD (mTup (mCons (asD (mVar 5)) (mCons (asD (mVar 6)) (mCons (asD (mVar 7)) mNil))))) mNil)
abbrev pairB : Sm := sIf (tNotM (asT (mCall f__law_two_right [.rf 2, .vl (mVar 4), .vl (mVar 9), .vl (mVar 10)]))) (sRet (mC (.bool false))) sNil
theorem loop_pairs : ∀ (ps : List (List (List Int) × List (List Int))) (n : Nat) (s : List PyData) (x9 x10 : Option B), SrcOk n s → n + 76 * ps.length ≤ 1000000 → (∀ p ∈ ps, LockOk m d p.1 ∧ LockOk m d p.2) →
    ∃ s' y9 y10, loopS (bTup 2 (bCons (bName 9) (bCons (bName 10) bNil))) pairB (ps.map fun p => .tuple [enc p.1, enc p.2]) [S ns, x1, L s, x3, D (mk m d), x5, x6, x7, x8, x9, x10, x11, x12, Z, Z] = .nx [S ns, x1, L s', x3, D (mk m d), x5, x6, x7, x8, y9, y10, x11, x12, Z, Z] ∧ SrcOk (n + 76 * ps.length) s'
  | [], n, s, x9, x10, hs, _, _ => ⟨s, x9, x10, rfl, hs⟩
  | p :: ps, n, s, x9, x10, hs, hn, hp => by
    have hn' : n + 76 * (ps.length + 1) ≤ 1000000 := hn
    obtain ⟨h1, h2⟩ := hp p List.mem_cons_self
    obtain ⟨s1, e1, q1⟩ := two_right hd h1 h2 hs (by omega)
    obtain ⟨s2, y9, y10, e2, q2⟩ := loop_pairs ps (n + 76) s1 (D (enc p.1)) (D (enc p.2)) q1 (by omega) fun q hq => hp q (List.mem_cons_of_mem _ hq)
    refine ⟨s2, y9, y10, ?_, q2.mono (by rw [List.length_cons]; omega)⟩
    rw [← e2, List.map_cons]
    refine loopS_step (ρ1 := [S ns, x1, L s, x3, D (mk m d), x5, x6, x7, x8, D (enc p.1), D (enc p.2), x11, x12, Z, Z]) rfl ?_
    simp only [enc] at e1 ⊢
    simp [pairB, e1]
variable {a b c : List (List Int)} (ha : LockOk m d a) (hb : LockOk m d b) (hc : LockOk m d c)
include ha hb hc
theorem e_trio : trioM [x0, x1, x2, x3, x4, D (enc a), D (enc b), D (enc c), x8, x9, x10, x11, x12, Z, Z] = .ok (.val (.str (PyData.tuple [enc a, enc b, enc c]).shown)) [x0, x1, x2, x3, x4, D (enc a), D (enc b), D (enc c), x8, x9, x10, x11, x12, Z, Z] := by
  have n := (nice3t (sm_enc hd ha) (sm_enc hd hb) (sm_enc hd hc)).repr
  simp only [enc] at n ⊢
  simp [trioM, n]
theorem st8 {x0 x2 x4 : Option B} : sSet 8 trioM [x0, x1, x2, x3, x4, D (enc a), D (enc b), D (enc c), x8, x9, x10, x11, x12, Z, Z] = .nx [x0, x1, x2, x3, x4, D (enc a), D (enc b), D (enc c), D (.str (PyData.tuple [enc a, enc b, enc c]).shown), x9, x10, x11, x12, Z, Z] := by
  rw [ev_sSet, e_trio hd ha hb hc]
  rfl
theorem st14 {x0 x2 x4 : Option B} : sIf (asT (m2 gNeS (asD trioM) (asD (mVar 8)))) (sRet (mC (.bool false))) sNil [x0, x1, x2, x3, x4, D (enc a), D (enc b), D (enc c), D (.str (PyData.tuple [enc a, enc b, enc c]).shown), x9, x10, x11, x12, Z, Z] = .nx [x0, x1, x2, x3, x4, D (enc a), D (enc b), D (enc c), D (.str (PyData.tuple [enc a, enc b, enc c]).shown), x9, x10, x11, x12, Z, Z] := by
  have e := e_trio (x0 := x0) (x1 := x1) (x2 := x2) (x3 := x3) (x4 := x4) (x8 := D (.str (PyData.tuple [enc a, enc b, enc c]).shown)) (x9 := x9) (x10 := x10) (x11 := x11) (x12 := x12) hd ha hb hc
  have hs : ∀ t : Str, gNeS (.str t) (.str t) = some (tf false) := fun t => by
    show vB (!decide (t = t)) = _
    rw [decide_eq_true rfl]
    rfl
  rw [ev_sIf, ev_asT, ev_asD, ev_m2, ev_asD, e]
  show ((((Res.of (gNeS (.str _) (.str _)) _).bind _).bind _).go _) = _
  rw [hs]
  rfl
abbrev pairsM : Mn (List PyData) := mIt (mLst (mCons (asD (mTup (mCons (asD (mVar 5)) (mCons (asD (mVar 6)) mNil)))) (mCons (asD (mTup (mCons (asD (mVar 6)) (mCons (asD (mVar 7)) mNil)))) (mCons (asD (mTup (mCons (asD (mVar 7)) (mCons (asD (mVar 5)) mNil)))) mNil))))
theorem st9 {n : Nat} {s : List PyData} (h : SrcOk n s) (hn : n + 228 ≤ 1000000) :
    ∃ s' y9 y10, sFor pairsM (bTup 2 (bCons (bName 9) (bCons (bName 10) bNil))) pairB [S ns, x1, L s, x3, D (mk m d), D (enc a), D (enc b), D (enc c), x8, x9, x10, x11, x12, Z, Z] = .nx [S ns, x1, L s', x3, D (mk m d), D (enc a), D (enc b), D (enc c), x8, y9, y10, x11, x12, Z, Z] ∧ SrcOk (n + 228) s' := by
  obtain ⟨s1, y9, y10, e1, h1⟩ := loop_pairs hd (ns := ns) (x1 := x1) (x3 := x3) (x5 := D (enc a)) (x6 := D (enc b)) (x7 := D (enc c)) (x8 := x8) (x11 := x11) (x12 := x12) [(a, b), (b, c), (c, a)] n s x9 x10 h hn (by
    intro p hp
    simp only [List.mem_cons, List.mem_nil_iff, or_false] at hp
    rcases hp with rfl | rfl | rfl
    · exact ⟨ha, hb⟩
    · exact ⟨hb, hc⟩
    · exact ⟨hc, ha⟩)
  refine ⟨s1, y9, y10, ?_, h1⟩
  have e0 : pairsM [S ns, x1, L s, x3, D (mk m d), D (enc a), D (enc b), D (enc c), x8, x9, x10, x11, x12, Z, Z] = .ok [.tuple [enc a, enc b], .tuple [enc b, enc c], .tuple [enc c, enc a]] [S ns, x1, L s, x3, D (mk m d), D (enc a), D (enc b), D (enc c), x8, x9, x10, x11, x12, Z, Z] := rfl
  rw [ev_sFor, e0]
  exact e1
/-! ### three put together -/
abbrev tripR (a b c : List (List Int)) : PyData := bothR (bothL a b) c
theorem sm_trip : Small (tripR a b c) := by
  cases he : (bothL a b).any List.isEmpty with
  | true =>
    have h := empty_mono (bothL a b) c (by have := bothL_len ha.len hb.len; have := hc.len; omega) he
    unfold tripR bothR
    rw [if_pos h]
    exact sm_none
  | false => exact sm_both hd (both_lock ha hb he) hc
variable {s : List PyData}
theorem st10 : sPar2 11 12 (mCall f_both_locks [.vl (mVar 4), .vl (mVar 5), .vl (mVar 6)]) (mCall f_both_locks [.vl (mVar 4), .vl (mVar 6), .vl (mVar 7)]) [S ns, x1, L s, x3, D (mk m d), D (enc a), D (enc b), D (enc c), x8, x9, x10, x11, x12, Z, Z] = .nx [S ns, x1, L s, x3, D (mk m d), D (enc a), D (enc b), D (enc c), x8, x9, x10, D (bothR a b), D (bothR b c), Z, Z] := by
  have e1 := e_both hd ha hb
  have e2 := e_both hd hb hc
  simp only [enc] at e1 e2 ⊢
  simp [e1, e2]
theorem st11 : sSet 11 (mIf (asT (m2 gIs (asD (mVar 11)) (asD (mC .none)))) (mC .none) (mCall f_both_locks [.vl (mVar 4), .vl (mVar 11), .vl (mVar 7)])) [S ns, x1, L s, x3, D (mk m d), D (enc a), D (enc b), D (enc c), x8, x9, x10, D (bothR a b), D (bothR b c), Z, Z] = .nx [S ns, x1, L s, x3, D (mk m d), D (enc a), D (enc b), D (enc c), x8, x9, x10, D (tripR a b c), D (bothR b c), Z, Z] := by
  obtain ⟨q1, _⟩ := is_none_both hd ha hb
  cases he : (bothL a b).any List.isEmpty with
  | true =>
    have h := empty_mono (bothL a b) c (by have := bothL_len ha.len hb.len; have := hc.len; omega) he
    have hu : tripR a b c = .none := by unfold tripR bothR; rw [if_pos h]
    rw [he] at q1
    rw [hu]
    simp [q1]
  | false =>
    have hu : bothR a b = enc (bothL a b) := by unfold bothR; rw [he]; rfl
    have e1 := e_both hd (both_lock ha hb he) hc
    rw [he] at q1
    rw [hu] at q1 ⊢
    simp only [enc] at e1 q1 ⊢
    simp [e1, q1]
theorem st12 : sSet 12 (mIf (asT (m2 gIs (asD (mVar 12)) (asD (mC .none)))) (mC .none) (mCall f_both_locks [.vl (mVar 4), .vl (mVar 5), .vl (mVar 12)])) [S ns, x1, L s, x3, D (mk m d), D (enc a), D (enc b), D (enc c), x8, x9, x10, D (tripR a b c), D (bothR b c), Z, Z] = .nx [S ns, x1, L s, x3, D (mk m d), D (enc a), D (enc b), D (enc c), x8, x9, x10, D (tripR a b c), D (tripR a b c), Z, Z] := by
  obtain ⟨q1, _⟩ := is_none_both hd hb hc
  have has : tripR a b c = bothR a (bothL b c) := by unfold tripR bothR; rw [both_assoc]
  rw [has]
  cases he : (bothL b c).any List.isEmpty with
  | true =>
    have h := empty_mono2 a (bothL b c) (by have := bothL_len hb.len hc.len; have := ha.len; omega) he
    have hu : bothR a (bothL b c) = .none := by conv => lhs; unfold bothR; rw [if_pos h]
    rw [he] at q1
    rw [hu]
    simp [q1]
  | false =>
    have hu : bothR b c = enc (bothL b c) := by unfold bothR; rw [he]; rfl
    have e1 := e_both hd ha (both_lock hb hc he)
    rw [he] at q1
    rw [hu] at q1 ⊢
    simp only [enc] at e1 q1 ⊢
    simp [e1, q1]
theorem st13 : sIf (tOrM (tNotM (asT (mCall f__law_same [.vl (mVar 11), .vl (mVar 12)]))) (tAndM (asT (mCall f_is_within [.vl (mVar 4), .vl (mVar 5), .vl (mVar 6)])) (tAndM (asT (mCall f_is_within [.vl (mVar 4), .vl (mVar 6), .vl (mVar 7)])) (tNotM (asT (mCall f_is_within [.vl (mVar 4), .vl (mVar 5), .vl (mVar 7)])))))) (sRet (mC (.bool false))) sNil [S ns, x1, L s, x3, D (mk m d), D (enc a), D (enc b), D (enc c), x8, x9, x10, D (tripR a b c), D (tripR a b c), Z, Z] = .nx [S ns, x1, L s, x3, D (mk m d), D (enc a), D (enc b), D (enc c), x8, x9, x10, D (tripR a b c), D (tripR a b c), Z, Z] := by
  have n := e_same (nice_of (sm_trip hd ha hb hc))
  have e1 := e_within hd ha hb
  have e2 := e_within hd hb hc
  have e3 := e_within hd ha hc
  have tr := in_trans ha hb hc
  generalize tripR a b c = t at n ⊢
  cases h1 : inL a b <;> cases h2 : inL b c <;> rw [h1] at e1 <;> rw [h2] at e2
  · simp only [enc] at e1 e2 e3 ⊢
    simp [n, e1, e2]
  · simp only [enc] at e1 e2 e3 ⊢
    simp [n, e1, e2]
  · simp only [enc] at e1 e2 e3 ⊢
    simp [n, e1, e2]
  · rw [tr h1 h2] at e3
    simp only [enc] at e1 e2 e3 ⊢
    simp [n, e1, e2, e3]
end
/-! ### a turn -/
abbrev turnM : Sm := sSeq (sSet 4 (mCall f__law_make [.rf 2]))
    (sSeq (sPar3 5 6 7 (mCall f__law_lock [.rf 2, .vl (mVar 4)]) (mCall f__law_lock [.rf 2, .vl (mVar 4)]) (mCall f__law_lock [.rf 2, .vl (mVar 4)]))
    (sSeq (sIf (asT (m2 gEqS (asD (mCall f__law_take [.rf 2, .vl (mC (.int 2))])) (asD (mC (.int 0))))) (sSet 6 (mA gTuple (mCons (asD uniM) mNil))) sNil)
    (sSeq (sIf (asT (m2 gEqS (asD (mCall f__law_take [.rf 2, .vl (mC (.int 3))])) (asD (mC (.int 0))))) (sSet 7 (m2 gMulX (asD (mTup (mCons (asD (mTRg1 (asD (mIdxV 4 (asD (mC (.int 1))))))) mNil))) (asD (mIdxV 4 (asD (mC (.int 0))))))) sNil)
    (sSeq (sSet 8 trioM)
    (sSeq (sFor pairsM (bTup 2 (bCons (bName 9) (bCons (bName 10) bNil))) pairB)
    (sSeq (sPar2 11 12 (mCall f_both_locks [.vl (mVar 4), .vl (mVar 5), .vl (mVar 6)]) (mCall f_both_locks [.vl (mVar 4), .vl (mVar 6), .vl (mVar 7)]))
    (sSeq (sSet 11 (mIf (asT (m2 gIs (asD (mVar 11)) (asD (mC .none)))) (mC .none) (mCall f_both_locks [.vl (mVar 4), .vl (mVar 11), .vl (mVar 7)])))
    (sSeq (sSet 12 (mIf (asT (m2 gIs (asD (mVar 12)) (asD (mC .none)))) (mC .none) (mCall f_both_locks [.vl (mVar 4), .vl (mVar 5), .vl (mVar 12)])))
    (sSeq (sIf (tOrM (tNotM (asT (mCall f__law_same [.vl (mVar 11), .vl (mVar 12)]))) (tAndM (asT (mCall f_is_within [.vl (mVar 4), .vl (mVar 5), .vl (mVar 6)])) (tAndM (asT (mCall f_is_within [.vl (mVar 4), .vl (mVar 6), .vl (mVar 7)])) (tNotM (asT (mCall f_is_within [.vl (mVar 4), .vl (mVar 5), .vl (mVar 7)])))))) (sRet (mC (.bool false))) sNil)
    (sIf (asT (m2 gNeS (asD trioM) (asD (mVar 8)))) (sRet (mC (.bool false))) sNil))))))))))
theorem turn_ok {ns : List Int} {x1 x3 x4 x5 x6 x7 x8 x9 x10 x11 x12 : Option B} {n : Nat} {s : List PyData} (h : SrcOk n s) (hn : n + 400 ≤ 1000000) :
    ∃ s' y4 y5 y6 y7 y8 y9 y10 y11 y12, turnM [S ns, x1, L s, x3, x4, x5, x6, x7, x8, x9, x10, x11, x12, Z, Z] = .nx [S ns, x1, L s', x3, y4, y5, y6, y7, y8, y9, y10, y11, y12, Z, Z] ∧ SrcOk (n + 400) s' := by
  obtain ⟨m, d, s1, e4, hd, h1⟩ := st4 (ns := ns) (x1 := x1) (x3 := x3) (x4 := x4) (x5 := x5) (x6 := x6) (x7 := x7) (x8 := x8) (x9 := x9) (x10 := x10) (x11 := x11) (x12 := x12) h (by omega)
  obtain ⟨a, b, c, s2, e5, ha, hb, hc, h2⟩ := st5 (ns := ns) (x1 := x1) (x3 := x3) (x5 := x5) (x6 := x6) (x7 := x7) (x8 := x8) (x9 := x9) (x10 := x10) (x11 := x11) (x12 := x12) hd h1 (by omega)
  obtain ⟨b', s3, e6, hb', h3⟩ := st6 (ns := ns) (x1 := x1) (x3 := x3) (x7 := D (enc c)) (x8 := x8) (x9 := x9) (x10 := x10) (x11 := x11) (x12 := x12) hd ha hb h2 (by omega)
  obtain ⟨c', s4, e7, hc', h4⟩ := st7 (ns := ns) (x1 := x1) (x3 := x3) (x5 := D (enc a)) (x6 := D (enc b')) (x8 := x8) (x9 := x9) (x10 := x10) (x11 := x11) (x12 := x12) hd hc h3 (by omega)
  obtain ⟨s5, y9, y10, e9, h5⟩ := st9 (ns := ns) (x1 := x1) (x3 := x3) (x8 := D (.str (PyData.tuple [enc a, enc b', enc c']).shown)) (x9 := x9) (x10 := x10) (x11 := x11) (x12 := x12) hd ha hb' hc' h4 (by omega)
  refine ⟨s5, D (mk m d), D (enc a), D (enc b'), D (enc c'), D (.str (PyData.tuple [enc a, enc b', enc c']).shown), y9, y10, D (tripR a b' c'), D (tripR a b' c'), ?_, h5.mono (by omega)⟩
  unfold turnM
  rw [ev_sSeq, e4, SRes.seq_nx, ev_sSeq, e5, SRes.seq_nx, ev_sSeq, e6, SRes.seq_nx, ev_sSeq, e7, SRes.seq_nx, ev_sSeq, st8 hd ha hb' hc', SRes.seq_nx, ev_sSeq, e9, SRes.seq_nx, ev_sSeq, st10 hd ha hb' hc', SRes.seq_nx, ev_sSeq, st11 hd ha hb' hc', SRes.seq_nx, ev_sSeq, st12 hd ha hb' hc', SRes.seq_nx, ev_sSeq, st13 hd ha hb' hc', SRes.seq_nx, st14 hd ha hb' hc']
end K02
/-! # K02ZC -/
set_option Elab.async false
set_option linter.all false
set_option maxRecDepth 100000
namespace K02
open PySem ML
theorem loop_turns {ns : List Int} {x1 : Option B} : ∀ (ts : List PyData) (n : Nat) (s : List PyData) (x3 x4 x5 x6 x7 x8 x9 x10 x11 x12 : Option B), SrcOk n s → n + 400 * ts.length ≤ 1000000 →
    ∃ s' y3 y4 y5 y6 y7 y8 y9 y10 y11 y12, loopS (bName 3) turnM ts [S ns, x1, L s, x3, x4, x5, x6, x7, x8, x9, x10, x11, x12, Z, Z] = .nx [S ns, x1, L s', y3, y4, y5, y6, y7, y8, y9, y10, y11, y12, Z, Z]
  | [], n, s, x3, x4, x5, x6, x7, x8, x9, x10, x11, x12, hs, _ => ⟨s, x3, x4, x5, x6, x7, x8, x9, x10, x11, x12, rfl⟩
  | t :: ts, n, s, x3, x4, x5, x6, x7, x8, x9, x10, x11, x12, hs, hn => by
    have hn' : n + 400 * (ts.length + 1) ≤ 1000000 := hn
    obtain ⟨s1, z4, z5, z6, z7, z8, z9, z10, z11, z12, e1, h1⟩ := turn_ok (ns := ns) (x1 := x1) (x3 := D t) (x4 := x4) (x5 := x5) (x6 := x6) (x7 := x7) (x8 := x8) (x9 := x9) (x10 := x10) (x11 := x11) (x12 := x12) hs (by omega)
    obtain ⟨s2, y3, y4, y5, y6, y7, y8, y9, y10, y11, y12, e2⟩ := loop_turns (ns := ns) (x1 := x1) ts (n + 400) s1 (D t) z4 z5 z6 z7 z8 z9 z10 z11 z12 h1 (by omega)
    refine ⟨s2, y3, y4, y5, y6, y7, y8, y9, y10, y11, y12, ?_⟩
    rw [← e2]
    exact loopS_step (ρ1 := [S ns, x1, L s, D t, x4, x5, x6, x7, x8, x9, x10, x11, x12, Z, Z]) rfl e1
abbrev sideM : Sm := sSeq (sSet 2 (mCall f__law_source [.vl (mVar 0), .vl (mVar 1)])) (sFor (mRg1 (mCons (asD (mC (.int 3))) mNil)) (bName 3) turnM)
theorem side_ok {ns : List Int} {k : Int} (h0 : 0 ≤ k) (h3 : k < 3) {x2 x3 x4 x5 x6 x7 x8 x9 x10 x11 x12 : Option B} :
    ∃ y2 y3 y4 y5 y6 y7 y8 y9 y10 y11 y12, sideM [S ns, D (.int k), x2, x3, x4, x5, x6, x7, x8, x9, x10, x11, x12, Z, Z] = .nx [S ns, D (.int k), y2, y3, y4, y5, y6, y7, y8, y9, y10, y11, y12, Z, Z] := by
  obtain ⟨s, e1, h1⟩ := e_source ns h0 h3
  obtain ⟨s2, y3, y4, y5, y6, y7, y8, y9, y10, y11, y12, e2⟩ := loop_turns (ns := ns) (x1 := D (.int k)) (rgD 0 3) 0 s x3 x4 x5 x6 x7 x8 x9 x10 x11 x12 h1 (by show 0 + 400 * 3 ≤ _; omega)
  refine ⟨L s2, y3, y4, y5, y6, y7, y8, y9, y10, y11, y12, ?_⟩
  have e0 : sSet 2 (mCall f__law_source [.vl (mVar 0), .vl (mVar 1)]) [S ns, D (.int k), x2, x3, x4, x5, x6, x7, x8, x9, x10, x11, x12, Z, Z] = .nx [S ns, D (.int k), L s, x3, x4, x5, x6, x7, x8, x9, x10, x11, x12, Z, Z] := by
    simp [e1]
  have e3 : ∀ ρ : Env', mRg1 (mCons (asD (mC (.int 3))) mNil) ρ = .ok (rgD 0 3) ρ := fun ρ => rfl
  unfold sideM
  rw [ev_sSeq, e0, SRes.seq_nx, ev_sFor, e3]
  exact e2
theorem loop_sides {ns : List Int} : ∀ (ks : List Int) (x1 x2 x3 x4 x5 x6 x7 x8 x9 x10 x11 x12 : Option B), (∀ k ∈ ks, 0 ≤ k ∧ k < 3) →
    ∃ y1 y2 y3 y4 y5 y6 y7 y8 y9 y10 y11 y12, loopS (bName 1) sideM (ks.map .int) [S ns, x1, x2, x3, x4, x5, x6, x7, x8, x9, x10, x11, x12, Z, Z] = .nx [S ns, y1, y2, y3, y4, y5, y6, y7, y8, y9, y10, y11, y12, Z, Z]
  | [], x1, x2, x3, x4, x5, x6, x7, x8, x9, x10, x11, x12, _ => ⟨x1, x2, x3, x4, x5, x6, x7, x8, x9, x10, x11, x12, rfl⟩
  | k :: ks, x1, x2, x3, x4, x5, x6, x7, x8, x9, x10, x11, x12, hk => by
    obtain ⟨h0, h3⟩ := hk k List.mem_cons_self
    obtain ⟨z2, z3, z4, z5, z6, z7, z8, z9, z10, z11, z12, e1⟩ := side_ok (ns := ns) h0 h3 (x2 := x2) (x3 := x3) (x4 := x4) (x5 := x5) (x6 := x6) (x7 := x7) (x8 := x8) (x9 := x9) (x10 := x10) (x11 := x11) (x12 := x12)
    obtain ⟨y1, y2, y3, y4, y5, y6, y7, y8, y9, y10, y11, y12, e2⟩ := loop_sides (ns := ns) ks (D (.int k)) z2 z3 z4 z5 z6 z7 z8 z9 z10 z11 z12 fun q hq => hk q (List.mem_cons_of_mem _ hq)
    refine ⟨y1, y2, y3, y4, y5, y6, y7, y8, y9, y10, y11, y12, ?_⟩
    rw [← e2, List.map_cons]
    exact loopS_step (ρ1 := [S ns, D (.int k), x2, x3, x4, x5, x6, x7, x8, x9, x10, x11, x12, Z, Z]) rfl e1
abbrev manyM : Mn (List PyData) := mRg1 (mCons (asD (mA gMax2 (mCons (asD (mC (.int 1))) (mCons (asD (mA gMin2 (mCons (asD (mC (.int 3))) (mCons (asD (mLenV 0)) mNil)))) mNil)))) mNil)
theorem e_many {ns : List Int} {x1 x2 x3 x4 x5 x6 x7 x8 x9 x10 x11 x12 : Option B} : ∃ ks : List Int, manyM [S ns, x1, x2, x3, x4, x5, x6, x7, x8, x9, x10, x11, x12, Z, Z] = .ok (ks.map .int) [S ns, x1, x2, x3, x4, x5, x6, x7, x8, x9, x10, x11, x12, Z, Z] ∧ ∀ k ∈ ks, 0 ≤ k ∧ k < 3 := by
  obtain ⟨z, hz, z1, z3⟩ : ∃ z : Int, asD (mA gMax2 (mCons (asD (mC (.int 1))) (mCons (asD (mA gMin2 (mCons (asD (mC (.int 3))) (mCons (asD (mLenV 0)) mNil)))) mNil))) [S ns, x1, x2, x3, x4, x5, x6, x7, x8, x9, x10, x11, x12, Z, Z] = .ok (.int z) [S ns, x1, x2, x3, x4, x5, x6, x7, x8, x9, x10, x11, x12, Z, Z] ∧ 1 ≤ z ∧ z ≤ 3 := by
    refine ⟨if (if (ns.length : Int) < 3 then (ns.length : Int) else 3) > 1 then (if (ns.length : Int) < 3 then (ns.length : Int) else 3) else 1, rfl, ?_, ?_⟩
    · split <;> omega
    · split
      · split <;> omega
      · omega
  refine ⟨rng z, ?_, fun k hk => ?_⟩
  · unfold manyM
    rw [ev_Rg1, ev_Cons, hz]
    show (if -(2 ^ 62) ≤ z ∧ z < 2 ^ 62 then Res.ok (rgD 0 z.toNat) _ else .bad) = _
    rw [if_pos (by omega), rgD_rng]
  · have := rng_mem.mp hk
    omega
theorem law_ok (ns : List Int) : ∃ ρ, f_law [some (.scr ns)] = .ok (.val (.bool true)) ρ := by
  obtain ⟨ks, e1, hk⟩ := e_many (ns := ns) (x1 := Z) (x2 := Z) (x3 := Z) (x4 := Z) (x5 := Z) (x6 := Z) (x7 := Z) (x8 := Z) (x9 := Z) (x10 := Z) (x11 := Z) (x12 := Z)
  obtain ⟨y1, y2, y3, y4, y5, y6, y7, y8, y9, y10, y11, y12, e2⟩ := loop_sides (ns := ns) ks Z Z Z Z Z Z Z Z Z Z Z Z hk
  refine ⟨[S ns], ?_⟩
  unfold f_law
  refine def_rt (pr := [true]) (l := 15) (ρ0 := [S ns, Z, Z, Z, Z, Z, Z, Z, Z, Z, Z, Z, Z, Z, Z]) (ρ' := [S ns, y1, y2, y3, y4, y5, y6, y7, y8, y9, y10, y11, y12, Z, Z]) rfl ?_ rfl
  have e3 : sFor manyM (bName 1) sideM [S ns, Z, Z, Z, Z, Z, Z, Z, Z, Z, Z, Z, Z, Z, Z] = .nx [S ns, y1, y2, y3, y4, y5, y6, y7, y8, y9, y10, y11, y12, Z, Z] := by
    rw [ev_sFor, e1]
    exact e2
  show (sFor manyM (bName 1) sideM [S ns, Z, Z, Z, Z, Z, Z, Z, Z, Z, Z, Z, Z, Z, Z]).seq _ = _
  rw [e3]
  rfl
end K02
theorem PySem.Challenge.cw_keyedapart_k02_whole_locks_put_together_holds : PySem.Challenge.rw_keyedapart_k02_whole_locks_put_together.Holds := by
  exact K02.holds fun ns _ => K02.law_ok ns
