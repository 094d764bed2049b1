import PyProof.Rows.All
import Wide.All
import OpenK.AllK
import Wide.FinOn
import HandS.ForMost
import HandS.ForExc
import HandS.TupAny
import HandS.TupLe
import HandS.IsInst
import HandS.Flow
import HandS.Deep
import HandS.Rev
import HandS.RevRange
import HandS.Style
import HandS.RevTup
import KE.KDictList
import PySem.Challenge.RW_packetsheld_k05_whole_pieces_of_spans
set_option Elab.async false
set_option linter.all false
set_option maxRecDepth 100000
set_option maxHeartbeats 8000000
/-! DCore: values as data, footprints, the judgements of the data layer. -/
namespace DL
open PySem PySem.Spec PyProof.Rows L2

/-- data: lists and dicts bear a mark, true where this value alone owns the object -/
inductive D where
  | non
  | bl (b : Bool)
  | int (i : Int)
  | str (x : Str)
  | tup (xs : List D)
  | lst (own : Bool) (xs : List D)
  | scr (ns : List Int)
  | exc (c : Str)

abbrev Fp := List Addr
/-- a list of the written part -/
def Kw (K : PySem.W.Frag) (a : Addr) (xs : List V) : Prop := ∃ (o : Obj) (its : Array Value) (n : Nat), K.lookup a = some o ∧ o.cls = .type "list" ∧ o.dict = none ∧ o.data = .seq its n ∧ its.size ≤ sizeLine ∧ Vals xs its.toList
/-- a list that may be read, and is not another's own -/
def SqF (S : Addr → Prop) (H : Hp) (a : Addr) (vs : List V) : Prop := H a = some (.lst vs) ∧ S a
/-- the script -/
def Scr (K : PySem.W.Frag) (H : Hp) (a : Addr) (vs : List V) : Prop := (∃ o, H a = some (.frz o (.lst vs))) ∨ Kw K a vs
theorem SqF.read {K : PySem.W.Frag} {S : Addr → Prop} {H : Hp} {a : Addr} {vs : List V} (h : SqF S H a vs) : SqL K H a vs := .inl (.inl h.1)
theorem Scr.read {K : PySem.W.Frag} {H : Hp} {a : Addr} {vs : List V} (h : Scr K H a vs) : SqL K H a vs := by
  rcases h with ⟨o, h⟩ | h
  · exact .inl (.inr ⟨o, h⟩)
  · exact .inr h

mutual
def Rep (K : PySem.W.Frag) (S : Addr → Prop) (H : Hp) : D → V → Fp → Prop
  | .non, v, F => v = .non ∧ F = []
  | .bl b, v, F => v = .bl b ∧ F = []
  | .int i, v, F => v = .int i ∧ F = []
  | .str x, v, F => v = .str x ∧ F = []
  | .tup ds, v, F => ∃ a vs, v = .ref a ∧ SqT K H a vs ∧ RepL K S H ds vs F
  | .lst true ds, v, F => ∃ a vs G, v = .ref a ∧ H a = some (.lst vs) ∧ F = a :: G ∧ RepL K S H ds vs G
  | .lst false ds, v, F => F = [] ∧ ∃ a vs, v = .ref a ∧ SqF S H a vs ∧ RepL K S H ds vs []
  | .scr ns, v, F => F = [] ∧ ∃ a, v = .ref a ∧ Scr K H a (ns.map V.int)
  | .exc _, _, _ => False
def RepL (K : PySem.W.Frag) (S : Addr → Prop) (H : Hp) : List D → List V → Fp → Prop
  | [], vs, F => vs = [] ∧ F = []
  | d :: ds, vs, F => ∃ v r F1 F2, vs = v :: r ∧ F = F1 ++ F2 ∧ Rep K S H d v F1 ∧ RepL K S H ds r F2
end

/-- what may be another's own -/
def Mt : Option HO → Prop
  | some (.lst _) => True
  | some (.dK _) => True
  | some (.dT _) => True
  | some (.ins _ _ _) => True
  | some (.own _) => True
  | some (.ext _) => True
  | _ => False
theorem Mt.some {o : Option HO} (h : Mt o) : o ≠ none := by intro e; subst e; exact h

/-- a footprint -/
structure Ft (S : Addr → Prop) (H : Hp) (F : Fp) : Prop where
  nd : F.Nodup
  dj : ∀ a ∈ F, ¬ S a
  mu : ∀ a ∈ F, Mt (H a)
  sd : ∀ a, S a → H a ≠ none
/-- from a state with the footprint F to one with F' -/
structure Go (S : Addr → Prop) (H : Hp) (F : Fp) (S' : Addr → Prop) (H' : Hp) (F' : Fp) : Prop where
  sS : ∀ a, S a → S' a
  fr : ∀ a o, H a = some o → a ∉ F → H' a = some o
  dom : ∀ a, H a ≠ none → H' a ≠ none
  new : ∀ a ∈ F', a ∈ F ∨ H a = none
  newS : ∀ a, S' a → S a ∨ a ∈ F ∨ H a = none

section
variable {K : PySem.W.Frag} {S S' S1 S2 : Addr → Prop} {H H' H1 H2 : Hp} {F F' F1 F2 T G : Fp}
theorem Go.refl (S : Addr → Prop) (H : Hp) (F : Fp) : Go S H F S H F := ⟨fun _ h => h, fun _ _ h _ => h, fun _ h => h, fun _ h => .inl h, fun _ h => .inl h⟩
theorem Go.trans (a : Go S H F S1 H1 F1) (b : Go S1 H1 F1 S2 H2 F2) : Go S H F S2 H2 F2 := by
  have key : ∀ c, H1 c = none → H c = none := fun c e => by
    cases q : H c with
    | none => rfl
    | some o => exact absurd e (a.dom c (by rw [q]; simp))
  refine ⟨fun c h => b.sS c (a.sS c h), fun c o e n => ?_, fun c h => b.dom c (a.dom c h), fun c h => ?_, fun c h => ?_⟩
  · refine b.fr c o (a.fr c o e n) fun z => ?_
    rcases a.new c z with z | z
    · exact n z
    · rw [e] at z; cases z
  · rcases b.new c h with z | z
    · exact a.new c z
    · exact .inr (key c z)
  · rcases b.newS c h with z | z | z
    · exact a.newS c z
    · exact (a.new c z).elim (fun z => .inr (.inl z)) fun z => .inr (.inr z)
    · exact .inr (.inr (key c z))
theorem Go.sub (a : Go S H F S1 H1 F1) (h : ∀ c ∈ F2, c ∈ F1) : Go S H F S1 H1 F2 := ⟨a.sS, a.fr, a.dom, fun c z => a.new c (h c z), a.newS⟩
/-- less may be changed than is said -/
theorem Go.wide (a : Go S H F S1 H1 F1) (h : ∀ c ∈ F, c ∈ F2) : Go S H F2 S1 H1 F1 := ⟨a.sS, fun c o e n => a.fr c o e fun z => n (h c z), a.dom, fun c z => (a.new c z).imp (h c) id, fun c z => (a.newS c z).imp id fun z => z.imp (h c) id⟩
theorem Go.frame (a : Go S H F S1 H1 F1) (T : Fp) : Go S H (T ++ F) S1 H1 (T ++ F1) := by
  refine ⟨a.sS, fun c o e n => a.fr c o e fun z => n (List.mem_append_right _ z), a.dom, fun c z => ?_, fun c z => ?_⟩
  · rcases List.mem_append.mp z with z | z
    · exact .inl (List.mem_append_left _ z)
    · exact (a.new c z).imp (fun z => List.mem_append_right _ z) id
  · rcases a.newS c z with z | z | z
    · exact .inl z
    · exact .inr (.inl (List.mem_append_right _ z))
    · exact .inr (.inr z)
theorem Go.frameR (a : Go S H F S1 H1 F1) (T : Fp) : Go S H (F ++ T) S1 H1 (F1 ++ T) := ((a.frame T).sub (F2 := F1 ++ T) (fun c z => by simp only [List.mem_append] at z ⊢; exact z.symm)).wide (fun c z => by simp only [List.mem_append] at z ⊢; exact z.symm)
theorem Ft.nil (h : ∀ a, S a → H a ≠ none) : Ft S H [] := ⟨.nil, (fun _ z => by cases z), (fun _ z => by cases z), h⟩
theorem Ft.left (h : Ft S H (T ++ F)) : Ft S H T := ⟨(List.nodup_append.mp h.nd).1, fun a z => h.dj a (List.mem_append_left _ z), fun a z => h.mu a (List.mem_append_left _ z), h.sd⟩
theorem Ft.right (h : Ft S H (T ++ F)) : Ft S H F := ⟨(List.nodup_append.mp h.nd).2.1, fun a z => h.dj a (List.mem_append_right _ z), fun a z => h.mu a (List.mem_append_right _ z), h.sd⟩
theorem Ft.perm (h : Ft S H F) (p : F.Perm F') : Ft S H F' := ⟨p.nodup_iff.mp h.nd, fun a z => h.dj a (p.mem_iff.mpr z), fun a z => h.mu a (p.mem_iff.mpr z), h.sd⟩
theorem Ft.comm (h : Ft S H (T ++ F)) : Ft S H (F ++ T) := h.perm List.perm_append_comm
theorem Ft.apart (h : Ft S H (T ++ F)) : ∀ a ∈ T, a ∉ F := fun a x y => (List.nodup_append.mp h.nd).2.2 a x a y rfl
theorem Ft.apart' (h : Ft S H (T ++ F)) : ∀ a ∈ F, a ∉ T := fun a x y => h.apart a y x
/-- a footprint beside, over a step -/
theorem Ft.frame (h : Ft S H (T ++ F)) (g : Go S H F S' H' G) (h' : Ft S' H' G) : Ft S' H' (T ++ G) := by
  refine ⟨List.nodup_append.mpr ⟨h.left.nd, h'.nd, fun a x b y e => ?_⟩, fun a z => ?_, fun a z => ?_, h'.sd⟩
  · subst e
    rcases g.new a y with z | z
    · exact h.apart a x z
    · exact (h.left.mu a x).some z
  · rcases List.mem_append.mp z with z | z
    · intro q
      rcases g.newS a q with y | y | y
      · exact h.left.dj a z y
      · exact h.apart a z y
      · exact (h.left.mu a z).some y
    · exact h'.dj a z
  · rcases List.mem_append.mp z with z | z
    · have m := h.left.mu a z
      cases q : H a with
      | none => exact absurd q m.some
      | some o => rw [g.fr a o q (h.apart a z), ← q]; exact m
    · exact h'.mu a z
theorem SqT.go (g : Go S H F S' H' F') (f : ∀ a ∈ F, Mt (H a)) {a : Addr} {vs : List V} (h : SqT K H a vs) : SqT K H' a vs := by
  rcases h with (h | ⟨o, h⟩) | h
  · exact .inl (.inl (g.fr _ _ h fun z => by have := f a z; rw [h] at this; exact this))
  · exact .inl (.inr ⟨o, g.fr _ _ h fun z => by have := f a z; rw [h] at this; exact this⟩)
  · exact .inr h
theorem SqF.go (g : Go S H F S' H' F') (f : Ft S H F) {a : Addr} {vs : List V} (h : SqF S H a vs) : SqF S' H' a vs := ⟨g.fr _ _ h.1 fun z => f.dj a z h.2, g.sS a h.2⟩
theorem Scr.go (g : Go S H F S' H' F') (f : Ft S H F) {a : Addr} {vs : List V} (h : Scr K H a vs) : Scr K H' a vs := by
  rcases h with ⟨o, h⟩ | h
  · exact .inl ⟨o, g.fr _ _ h fun z => by have := f.mu a z; rw [h] at this; exact this⟩
  · exact .inr h
mutual
theorem Rep.go (g : Go S H F S' H' F') (f : Ft S H F) : ∀ (d : D) (v : V) (T : Fp), (∀ a ∈ T, a ∉ F) → Rep K S H d v T → Rep K S' H' d v T
  | .non, v, T, _, h => h
  | .bl _, v, T, _, h => h
  | .int _, v, T, _, h => h
  | .str _, v, T, _, h => h
  | .tup ds, v, T, n, h => by
    obtain ⟨a, vs, e, q, r⟩ := h
    exact ⟨a, vs, e, SqT.go g f.mu q, RepL.go g f ds vs T n r⟩
  | .lst true ds, v, T, n, h => by
    obtain ⟨a, vs, G, e, q, e2, r⟩ := h
    subst e2
    exact ⟨a, vs, G, e, g.fr _ _ q (n a (by simp)), rfl, RepL.go g f ds vs G (fun b hb => n b (by simp [hb])) r⟩
  | .lst false ds, v, T, n, h => by
    obtain ⟨e0, a, vs, e, q, r⟩ := h
    exact ⟨e0, a, vs, e, SqF.go g f q, RepL.go g f ds vs [] (fun b hb => nomatch hb) r⟩
  | .scr ns, v, T, _, h => by obtain ⟨e0, a, e, q⟩ := h; exact ⟨e0, a, e, Scr.go g f q⟩
  | .exc _, v, T, _, h => h
theorem RepL.go (g : Go S H F S' H' F') (f : Ft S H F) : ∀ (ds : List D) (vs : List V) (T : Fp), (∀ a ∈ T, a ∉ F) → RepL K S H ds vs T → RepL K S' H' ds vs T
  | [], vs, T, _, h => h
  | d :: ds, vs, T, n, h => by
    obtain ⟨v, r, F1, F2, e1, e2, h1, h2⟩ := h
    subst e2
    exact ⟨v, r, F1, F2, e1, rfl, Rep.go g f d v F1 (fun b hb => n b (by simp [hb])) h1, RepL.go g f ds r F2 (fun b hb => n b (by simp [hb])) h2⟩
end
end

/-! ### shared data -/
mutual
def D.sh : D → Bool
  | .tup ds => D.shL ds
  | .lst o ds => !o && D.shL ds
  | .exc _ => false
  | _ => true
def D.shL : List D → Bool
  | [] => true
  | d :: ds => D.sh d && D.shL ds
end
section
variable {K : PySem.W.Frag} {S S' S1 S2 : Addr → Prop} {H H' H1 H2 : Hp} {F F' F1 F2 T G : Fp}
mutual
theorem Rep.sh : ∀ (d : D) (v : V) (F : Fp), d.sh = true → Rep K S H d v F → F = []
  | .non, _, _, _, h => h.2
  | .bl _, _, _, _, h => h.2
  | .int _, _, _, _, h => h.2
  | .str _, _, _, _, h => h.2
  | .tup ds, v, F, q, h => by
    obtain ⟨a, vs, e, _, r⟩ := h
    exact RepL.sh ds vs F (by simpa [D.sh] using q) r
  | .lst true ds, v, F, q, h => by simp [D.sh] at q
  | .lst false ds, v, F, q, h => h.1
  | .scr _, v, F, q, h => h.1
  | .exc _, _, _, _, h => h.elim
theorem RepL.sh : ∀ (ds : List D) (vs : List V) (F : Fp), D.shL ds = true → RepL K S H ds vs F → F = []
  | [], _, _, _, h => h.2
  | d :: ds, vs, F, q, h => by
    obtain ⟨v, r, F1, F2, e1, e2, h1, h2⟩ := h
    simp only [D.shL, Bool.and_eq_true] at q
    rw [e2, Rep.sh d v F1 q.1 h1, RepL.sh ds r F2 q.2 h2]
    rfl
end
theorem RepL.len : ∀ {ds : List D} {vs : List V} {F : Fp}, RepL K S H ds vs F → ds.length = vs.length
  | [], _, _, h => by rw [h.1]; rfl
  | d :: ds, vs, F, h => by
    obtain ⟨v, r, F1, F2, e1, e2, h1, h2⟩ := h
    subst e1
    rw [List.length_cons, List.length_cons, RepL.len h2]
theorem RepL.append : ∀ {ds es : List D} {vs ws : List V} {F G : Fp}, RepL K S H ds vs F → RepL K S H es ws G → RepL K S H (ds ++ es) (vs ++ ws) (F ++ G)
  | [], es, vs, ws, F, G, h, h' => by obtain ⟨rfl, rfl⟩ := h; exact h'
  | d :: ds, es, vs, ws, F, G, h, h' => by
    obtain ⟨v, r, F1, F2, e1, e2, h1, h2⟩ := h
    subst e1 e2
    exact ⟨v, r ++ ws, F1, F2 ++ G, rfl, by rw [List.append_assoc], h1, RepL.append h2 h'⟩
theorem RepL.one {d : D} {v : V} (h : Rep K S H d v F) : RepL K S H [d] [v] F := ⟨v, [], F, [], rfl, by simp, h, rfl, rfl⟩
theorem RepL.get : ∀ {ds : List D} {vs : List V} {F : Fp} {i : Nat} {d : D}, RepL K S H ds vs F → ds[i]? = some d → ∃ v G, vs[i]? = some v ∧ Rep K S H d v G ∧ ∀ a ∈ G, a ∈ F
  | [], _, _, _, _, _, e => by simp at e
  | d :: ds, vs, F, 0, d', h, e => by
    obtain ⟨v, r, F1, F2, e1, e2, h1, h2⟩ := h
    simp at e; subst e1 e2 e
    exact ⟨v, F1, rfl, h1, fun a z => List.mem_append_left _ z⟩
  | d :: ds, vs, F, i + 1, d', h, e => by
    obtain ⟨v, r, F1, F2, e1, e2, h1, h2⟩ := h
    subst e1 e2
    obtain ⟨w, G, h3, h4, h5⟩ := RepL.get (i := i) h2 (by simpa using e)
    exact ⟨w, G, by simpa using h3, h4, fun a z => List.mem_append_right _ (h5 a z)⟩
/-- all that is shared: each item stands by itself -/
theorem RepL.items : ∀ {ds : List D} {vs : List V}, RepL K S H ds vs [] → ∀ {i : Nat} {d : D}, ds[i]? = some d → ∃ v, vs[i]? = some v ∧ Rep K S H d v [] := fun h i d e => by
  obtain ⟨v, G, h1, h2, h3⟩ := RepL.get h e
  have : G = [] := List.eq_nil_iff_forall_not_mem.mpr fun a z => nomatch h3 a z
  subst this
  exact ⟨v, h1, h2⟩
end

/-! ### the names -/
abbrev Env := List (Option D)
inductive Res (α : Type) where
  | ok (a : α) (r : Env)
  | exc (c : Str) (r : Env)
  | stk
inductive PR (α : Type) where
  | ok (a : α)
  | exc (c : Str)
  | stk
inductive SR where
  | nx (r : Env)
  | rt (d : D) (r : Env)
  | bk (r : Env)
  | ct (r : Env)
  | exc (c : Str) (r : Env)
  | stk

def RepE (K : PySem.W.Frag) (S : Addr → Prop) (H : Hp) : Env → L2.St → Fp → Prop
  | [], σ, F => σ = [] ∧ F = []
  | none :: r, σ, F => ∃ x t, σ = x :: t ∧ RepE K S H r t F
  | some d :: r, σ, F => ∃ v t F1 F2, σ = some v :: t ∧ F = F1 ++ F2 ∧ Rep K S H d v F1 ∧ RepE K S H r t F2
structure At (K : PySem.W.Frag) (S : Addr → Prop) (H : Hp) (r : Env) (σ : L2.St) (F : Fp) : Prop where
  ft : Ft S H F
  env : RepE K S H r σ F

section
variable {K : PySem.W.Frag} {S S' S1 S2 : Addr → Prop} {H H' H1 H2 : Hp} {F F' F1 F2 T G : Fp} {r : Env} {σ : L2.St}
theorem RepE.len : ∀ {r : Env} {σ : L2.St} {F : Fp}, RepE K S H r σ F → r.length = σ.length
  | [], _, _, h => by rw [h.1]; rfl
  | none :: r, σ, F, h => by obtain ⟨x, t, e, h⟩ := h; subst e; rw [List.length_cons, List.length_cons, RepE.len h]
  | some d :: r, σ, F, h => by obtain ⟨v, t, F1, F2, e, _, _, h⟩ := h; subst e; rw [List.length_cons, List.length_cons, RepE.len h]
theorem RepE.go (g : Go S H F S' H' F') (f : Ft S H F) : ∀ {r : Env} {σ : L2.St} {T : Fp}, (∀ a ∈ T, a ∉ F) → RepE K S H r σ T → RepE K S' H' r σ T
  | [], _, _, _, h => h
  | none :: r, σ, T, n, h => by obtain ⟨x, t, e, h⟩ := h; exact ⟨x, t, e, RepE.go g f n h⟩
  | some d :: r, σ, T, n, h => by
    obtain ⟨v, t, F1, F2, e, e2, h1, h⟩ := h
    subst e2
    exact ⟨v, t, F1, F2, e, rfl, Rep.go g f d v F1 (fun b hb => n b (by simp [hb])) h1, RepE.go g f (fun b hb => n b (by simp [hb])) h⟩
/-- one slot, and what stands there put in place of it -/
theorem RepE.slot : ∀ {r : Env} {σ : L2.St} {F : Fp} {i : Nat}, RepE K S H r σ F → i < r.length → ∃ (A G B : Fp), F = A ++ (G ++ B) ∧ (∀ d, r[i]? = some (some d) → ∃ v, σ[i]? = some (some v) ∧ Rep K S H d v G) ∧
    (∀ d v T, Rep K S H d v T → RepE K S H (r.set i (some d)) (σ.set i (some v)) (A ++ (T ++ B))) ∧ (∀ x, RepE K S H (r.set i none) (σ.set i x) (A ++ B)) ∧ RepE K S H (r.set i none) σ (A ++ B) ∧
    (∀ d v T, σ[i]? = some (some v) → Rep K S H d v T → RepE K S H (r.set i (some d)) σ (A ++ (T ++ B)))
  | [], _, _, _, _, h => absurd h (by simp)
  | none :: r, σ, F, 0, h, _ => by
    obtain ⟨x, t, e, h⟩ := h
    subst e
    refine ⟨[], [], F, rfl, fun d e => by simp at e, fun d v T q => ⟨v, t, T, F, rfl, rfl, q, h⟩, fun y => ⟨y, t, rfl, h⟩, ⟨x, t, rfl, h⟩, fun d v T e q => ?_⟩
    simp at e; subst e
    exact ⟨v, t, T, F, rfl, rfl, q, h⟩
  | some d0 :: r, σ, F, 0, h, _ => by
    obtain ⟨v0, t, F1, F2, e, e2, h1, h⟩ := h
    subst e e2
    refine ⟨[], F1, F2, rfl, fun d e => ⟨v0, rfl, by simp at e; subst e; exact h1⟩, fun d v T q => ⟨v, t, T, F2, rfl, rfl, q, h⟩, fun y => ⟨y, t, rfl, h⟩, ⟨some v0, t, rfl, h⟩, fun d v T e q => ?_⟩
    simp at e; subst e
    exact ⟨v0, t, T, F2, rfl, rfl, q, h⟩
  | none :: r, σ, F, i + 1, h, l => by
    obtain ⟨x, t, e, h⟩ := h
    subst e
    obtain ⟨A, G, B, e1, h1, h2, h3, h4, h5⟩ := RepE.slot (i := i) h (by simpa using l)
    exact ⟨A, G, B, e1, fun d e => by simpa using h1 d (by simpa using e), fun d v T q => ⟨x, t.set i (some v), rfl, h2 d v T q⟩, fun y => ⟨x, t.set i y, rfl, h3 y⟩, ⟨x, t, rfl, h4⟩, fun d v T e q => ⟨x, t, rfl, h5 d v T (by simpa using e) q⟩⟩
  | some d0 :: r, σ, F, i + 1, h, l => by
    obtain ⟨v0, t, F1, F2, e, e2, h0, h⟩ := h
    subst e e2
    obtain ⟨A, G, B, e1, h1, h2, h3, h4, h5⟩ := RepE.slot (i := i) h (by simpa using l)
    subst e1
    exact ⟨F1 ++ A, G, B, by simp [List.append_assoc], fun d e => by simpa using h1 d (by simpa using e), fun d v T q => ⟨v0, t.set i (some v), F1, _, rfl, by simp [List.append_assoc], h0, h2 d v T q⟩,
      fun y => ⟨v0, t.set i y, F1, _, rfl, by simp [List.append_assoc], h0, h3 y⟩, ⟨v0, t, F1, _, rfl, by simp [List.append_assoc], h0, h4⟩, fun d v T e q => ⟨v0, t, F1, _, rfl, by simp [List.append_assoc], h0, h5 d v T (by simpa using e) q⟩⟩
theorem At.get (a : At K S H r σ F) {i : Nat} {d : D} (e : r[i]? = some (some d)) : ∃ v T, σ[i]? = some (some v) ∧ Rep K S H d v T ∧ ∀ b ∈ T, b ∈ F := by
  have l : i < r.length := (List.getElem?_eq_some_iff.mp e).1
  obtain ⟨A, G, B, e1, h1, _⟩ := a.env.slot l
  obtain ⟨v, h2, h3⟩ := h1 d e
  exact ⟨v, G, h2, h3, fun b z => by rw [e1]; simp [z]⟩
/-- a value is stored -/
theorem At.put (a : At K S H r σ F) {i : Nat} {d : D} {v : V} (l : i < r.length) (h : Rep K S H d v T) (f : Ft S H (T ++ F)) : ∃ F', At K S H (r.set i (some d)) (σ.set i (some v)) F' ∧ ∀ b ∈ F', b ∈ T ++ F := by
  obtain ⟨A, G, B, e1, _, h2, _⟩ := a.env.slot l
  subst e1
  have p : (T ++ (A ++ (G ++ B))).Perm (G ++ (A ++ (T ++ B))) := by
    refine (List.Perm.append_left T (List.perm_append_comm_assoc A G B)).trans ?_
    refine (List.perm_append_comm_assoc T G (A ++ B)).trans (List.Perm.append_left G ?_)
    exact List.perm_append_comm_assoc T A B
  exact ⟨_, ⟨(f.perm p).right, h2 d v T h⟩, fun b z => by simp only [List.mem_append] at z ⊢; rcases z with z | z | z <;> simp [z]⟩
/-- a value is taken out -/
theorem At.take (a : At K S H r σ F) {i : Nat} {d : D} (e : r[i]? = some (some d)) : ∃ v T F', σ[i]? = some (some v) ∧ Rep K S H d v T ∧ At K S H (r.set i none) σ F' ∧ Ft S H (T ++ F') ∧ ∀ b, b ∈ T ++ F' ↔ b ∈ F := by
  have l : i < r.length := (List.getElem?_eq_some_iff.mp e).1
  obtain ⟨A, G, B, e1, h1, _, _, h4, _⟩ := a.env.slot l
  obtain ⟨v, h2, h3⟩ := h1 d e
  subst e1
  have f := a.ft.perm (List.perm_append_comm_assoc A G B)
  exact ⟨v, G, A ++ B, h2, h3, ⟨f.right, h4⟩, f, fun b => by simp only [List.mem_append]; constructor <;> (intro z; rcases z with z | z | z <;> simp [z])⟩
/-- .. and put back, another now -/
theorem At.back (a : At K S H r σ F) {i : Nat} {d : D} {v : V} (l : i < r.length) (e : σ[i]? = some (some v)) (h : Rep K S H d v T) (f : Ft S H (T ++ F)) : ∃ F', At K S H (r.set i (some d)) σ F' ∧ ∀ b ∈ F', b ∈ T ++ F := by
  obtain ⟨A, G, B, e1, _, _, _, _, h5⟩ := a.env.slot l
  subst e1
  have p : (T ++ (A ++ (G ++ B))).Perm (G ++ (A ++ (T ++ B))) := by
    refine (List.Perm.append_left T (List.perm_append_comm_assoc A G B)).trans ?_
    refine (List.perm_append_comm_assoc T G (A ++ B)).trans (List.Perm.append_left G ?_)
    exact List.perm_append_comm_assoc T A B
  exact ⟨_, ⟨(f.perm p).right, h5 d v T e h⟩, fun b z => by simp only [List.mem_append] at z ⊢; rcases z with z | z | z <;> simp [z]⟩
theorem At.go (a : At K S H r σ T) (g : Go S H F S' H' F') (f : Ft S H F) (n : ∀ b ∈ T, b ∉ F) (f' : Ft S' H' T) : At K S' H' r σ T := ⟨f', RepE.go g f n a.env⟩
/-- nothing that stood is changed -/
theorem At.ext (a : At K S H r σ F) (g : Go S H [] S' H' G) (f : Ft S' H' G) : At K S' H' r σ F := ⟨(Ft.frame (T := F) (F := []) (by simpa using a.ft) g f).left, RepE.go g (Ft.nil a.ft.sd) (fun _ _ z => nomatch z) a.env⟩
end
end DL

/-! DJudge: what an expression, a test, a statement does to the data. -/
namespace DL
open PySem PySem.Spec PyProof.Rows L2

/-- the class of a name -/
abbrev clsV (mg : Str → Option Value) (c : Str) : Value := (mg c).getD .none
/-- how a's are borne -/
abbrev RR (α β : Type) := (Addr → Prop) → Hp → α → β → Fp → Prop
abbrev RB : RR Bool Bool := fun _ _ a b T => a = b ∧ T = []

/-- what is asked behind an expression that owns what it gives -/
def EP1 {α β : Type} (R : RR α β) (X : Cx) (W : WX) (S : Addr → Prop) (H : Hp) (F : Fp) (σ : L2.St) (Q : β → Hp → Prop) : Res α → Prop
  | .ok a r => ∀ b S' H' F' T, Go S H F S' H' (T ++ F') → At X.K S' H' r σ F' → R S' H' a b T → Ft S' H' (T ++ F') → Q b H'
  | .exc c r => ∀ S' H' F', Go S H F S' H' F' → At X.K S' H' r σ F' → W (clsV X.mg c) none σ H'
  | .stk => False
/-- .. that may give what is another's: to be read at once -/
def RP1 {α β : Type} (R : RR α β) (X : Cx) (W : WX) (S : Addr → Prop) (H : Hp) (F : Fp) (σ : L2.St) (Q : β → Hp → Prop) : Res α → Prop
  | .ok a r => ∀ b S' H' F' T, Go S H F S' H' F' → At X.K S' H' r σ F' → R S' H' a b T → Q b H'
  | .exc c r => ∀ S' H' F', Go S H F S' H' F' → At X.K S' H' r σ F' → W (clsV X.mg c) none σ H'
  | .stk => False
/-- .. and changes nothing that stood -/
def PP1 {α β : Type} (R : RR α β) (X : Cx) (W : WX) (S : Addr → Prop) (H : Hp) (σ : L2.St) (Q : β → Hp → Prop) : PR α → Prop
  | .ok a => ∀ b S' H' T, Go S H [] S' H' [] → Ft S' H' [] → R S' H' a b T → Q b H'
  | .exc c => ∀ S' H', Go S H [] S' H' [] → Ft S' H' [] → W (clsV X.mg c) none σ H'
  | .stk => False

def DE (X : Cx) (W : WX) (e : Expr) (E : Env → Res D) : Prop := ∃ t, PE X e t ∧ ∀ S H r σ F Q, At X.K S H r σ F → EP1 (Rep X.K) X W S H F σ Q (E r) → t σ H Q
def DR (X : Cx) (W : WX) (e : Expr) (E : Env → Res D) : Prop := ∃ t, PE X e t ∧ ∀ S H r σ F Q, At X.K S H r σ F → RP1 (Rep X.K) X W S H F σ Q (E r) → t σ H Q
def DP (X : Cx) (W : WX) (e : Expr) (P : Env → PR D) : Prop := ∃ t, PE X e t ∧ ∀ S H r σ F Q, At X.K S H r σ F → PP1 (Rep X.K) X W S H σ Q (P r) → t σ H Q
def DA (X : Cx) (W : WX) (es : List Expr) (E : Env → Res (List D)) : Prop := ∃ t, PA X es t ∧ ∀ S H r σ F Q, At X.K S H r σ F → EP1 (RepL X.K) X W S H F σ Q (E r) → t σ H Q
def DPA (X : Cx) (W : WX) (es : List Expr) (P : Env → PR (List D)) : Prop := ∃ t, PA X es t ∧ ∀ S H r σ F Q, At X.K S H r σ F → PP1 (RepL X.K) X W S H σ Q (P r) → t σ H Q
def DT (X : Cx) (W : WX) (e : Expr) (E : Env → Res Bool) : Prop := ∃ t, PT X e t ∧ ∀ S H r σ F Q, At X.K S H r σ F → EP1 RB X W S H F σ Q (E r) → t σ H Q

def Res.bind {α β : Type} : Res α → (α → Env → Res β) → Res β
  | .ok a r, f => f a r
  | .exc c r, _ => .exc c r
  | .stk, _ => .stk
def PR.bind {α β : Type} : PR α → (α → PR β) → PR β
  | .ok a, f => f a
  | .exc c, _ => .exc c
  | .stk, _ => .stk
/-- a pure one as any -/
def PR.up {α : Type} (p : PR α) (r : Env) : Res α := match p with
  | .ok a => .ok a r
  | .exc c => .exc c r
  | .stk => .stk
def ofO {α : Type} : Option α → PR α
  | some a => .ok a
  | none => .stk

section
variable {X : Cx} {W : WX} {e a b c : Expr} {es : List Expr} {S S' S1 : Addr → Prop} {H H' H1 : Hp} {F F' F1 T : Fp} {σ : L2.St} {r : Env}
/-- behind a first step -/
theorem EP1.step {α β : Type} {R : RR α β} {Q : β → Hp → Prop} (g : Go S H F S1 H1 F1) : ∀ {x : Res α}, EP1 R X W S H F σ Q x → EP1 R X W S1 H1 F1 σ Q x
  | .ok a r, h => fun b S' H' F' T g' x y z => h b S' H' F' T (g.trans g') x y z
  | .exc c r, h => fun S' H' F' g' x => h S' H' F' (g.trans g') x
  | .stk, h => h
theorem RP1.step {α β : Type} {R : RR α β} {Q : β → Hp → Prop} (g : Go S H F S1 H1 F1) : ∀ {x : Res α}, RP1 R X W S H F σ Q x → RP1 R X W S1 H1 F1 σ Q x
  | .ok a r, h => fun b S' H' F' T g' x y => h b S' H' F' T (g.trans g') x y
  | .exc c r, h => fun S' H' F' g' x => h S' H' F' (g.trans g') x
  | .stk, h => h
theorem PP1.step {α β : Type} {R : RR α β} {Q : β → Hp → Prop} (g : Go S H [] S1 H1 []) : ∀ {x : PR α}, PP1 R X W S H σ Q x → PP1 R X W S1 H1 σ Q x
  | .ok a, h => fun b S' H' T g' x y => h b S' H' T (g.trans g') x y
  | .exc c, h => fun S' H' g' x => h S' H' (g.trans g') x
  | .stk, h => h
/-- the whole footprint beside what is changed -/
theorem go_side (g : Go S H [] S' H' []) (F : Fp) : Go S H F S' H' F := by
  have := g.frame F
  simpa using this
theorem At.ext0 (x : At X.K S H r σ F) (g : Go S H [] S' H' []) (f : Ft S' H' []) : At X.K S' H' r σ F := x.ext g f


/-! ### one behind another -/
theorem EP1.bind {α β α' β' : Type} {R : RR α β} {R' : RR α' β'} {Q : β' → Hp → Prop} {Q1 : β → Hp → Prop} {x : Res α} {f : α → Env → Res α'} (g : Go S H F S1 H1 F1) (y : EP1 R' X W S H F σ Q (x.bind f))
    (k : ∀ a r b S2 H2 F2 T2, Go S1 H1 F1 S2 H2 (T2 ++ F2) → At X.K S2 H2 r σ F2 → R S2 H2 a b T2 → Ft S2 H2 (T2 ++ F2) → EP1 R' X W S H F σ Q (f a r) → Q1 b H2) : EP1 R X W S1 H1 F1 σ Q1 x := by
  cases x with
  | ok a r => exact fun b S' H' F' T g' x z t => k a r b S' H' F' T g' x z t y
  | exc c r => exact fun S' H' F' g' x => y S' H' F' (g.trans g') x
  | stk => exact y
theorem EP1.bindR {α β α' β' : Type} {R : RR α β} {R' : RR α' β'} {Q : β' → Hp → Prop} {Q1 : β → Hp → Prop} {x : Res α} {f : α → Env → Res α'} (g : Go S H F S1 H1 F1) (y : EP1 R' X W S H F σ Q (x.bind f))
    (k : ∀ a r b S2 H2 F2 T2, Go S1 H1 F1 S2 H2 F2 → At X.K S2 H2 r σ F2 → R S2 H2 a b T2 → EP1 R' X W S H F σ Q (f a r) → Q1 b H2) : RP1 R X W S1 H1 F1 σ Q1 x := by
  cases x with
  | ok a r => exact fun b S' H' F' T g' x z => k a r b S' H' F' T g' x z y
  | exc c r => exact fun S' H' F' g' x => y S' H' F' (g.trans g') x
  | stk => exact y
theorem EP1.bindP {α β α' β' : Type} {R : RR α β} {R' : RR α' β'} {Q : β' → Hp → Prop} {Q1 : β → Hp → Prop} {x : PR α} {f : α → Env → Res α'} (g : Go S H F S1 H1 F1) (z : At X.K S1 H1 r σ F1) (y : EP1 R' X W S H F σ Q ((x.up r).bind f))
    (k : ∀ a b S2 H2 T2, Go S1 H1 [] S2 H2 [] → Ft S2 H2 [] → R S2 H2 a b T2 → EP1 R' X W S H F σ Q (f a r) → Q1 b H2) : PP1 R X W S1 H1 σ Q1 x := by
  cases x with
  | ok a => exact fun b S' H' T g' x z => k a b S' H' T g' x z y
  | exc c => exact fun S' H' g' x => y S' H' F1 (g.trans (go_side g' F1)) (z.ext0 g' x)
  | stk => exact y
theorem PP1.bind {α β α' β' : Type} {R : RR α β} {R' : RR α' β'} {Q : β' → Hp → Prop} {Q1 : β → Hp → Prop} {x : PR α} {f : α → PR α'} (g : Go S H [] S1 H1 []) (y : PP1 R' X W S H σ Q (x.bind f))
    (k : ∀ a b S2 H2 T2, Go S1 H1 [] S2 H2 [] → Ft S2 H2 [] → R S2 H2 a b T2 → PP1 R' X W S H σ Q (f a) → Q1 b H2) : PP1 R X W S1 H1 σ Q1 x := by
  cases x with
  | ok a => exact fun b S' H' T g' x z => k a b S' H' T g' x z y
  | exc c => exact fun S' H' g' x => y S' H' (g.trans g') x
  | stk => exact y

/-! ### from one to the other -/
theorem EP1.read {α β : Type} {R : RR α β} {Q : β → Hp → Prop} : ∀ {x : Res α}, RP1 R X W S H F σ Q x → EP1 R X W S H F σ Q x
  | .ok a r, h => fun b S' H' F' T g x y _ => h b S' H' F' T (g.sub fun c z => List.mem_append_right _ z) x y
  | .exc c r, h => h
  | .stk, h => h
theorem PP1.read {α β : Type} {R : RR α β} {Q : β → Hp → Prop} (x : At X.K S H r σ F) : ∀ {p : PR α}, RP1 R X W S H F σ Q (p.up r) → PP1 R X W S H σ Q p
  | .ok a, h => fun b S' H' T g f y => h b S' H' F T (go_side g F) (x.ext0 g f) y
  | .exc c, h => fun S' H' g f => h S' H' F (go_side g F) (x.ext0 g f)
  | .stk, h => h
theorem dr_of_de {E : Env → Res D} (h : DE X W e E) : DR X W e E := by
  obtain ⟨t, p, q⟩ := h
  exact ⟨t, p, fun S H r σ F Q x y => q S H r σ F Q x (EP1.read y)⟩
theorem dr_of_dp {P : Env → PR D} (h : DP X W e P) : DR X W e (fun r => (P r).up r) := by
  obtain ⟨t, p, q⟩ := h
  exact ⟨t, p, fun S H r σ F Q x y => q S H r σ F Q x (PP1.read x y)⟩
/-- data that is shared may go anywhere -/
def shO (d : D) (r : Env) : Res D := if d.sh = true then .ok d r else .stk
theorem de_of_dp {P : Env → PR D} (h : DP X W e P) : DE X W e (fun r => ((P r).up r).bind shO) := by
  obtain ⟨t, p, q⟩ := h
  refine ⟨t, p, fun S H r σ F Q x y => q S H r σ F Q x (EP1.bindP (Go.refl _ _ _) x y fun d v S2 H2 T2 g2 f2 h2 y2 => ?_)⟩
  unfold shO at y2
  by_cases hs : d.sh = true
  · rw [if_pos hs] at y2
    have eT : T2 = [] := Rep.sh d v T2 hs h2
    subst eT
    have x' := x.ext0 g2 f2
    exact y2 v S2 H2 F [] (go_side g2 F) x' h2 x'.ft
  · rw [if_neg hs] at y2
    exact y2.elim

/-! ### names, constants -/
def getP (i : Nat) (r : Env) : PR D := match r[i]? with
  | some (some d) => .ok d
  | _ => .stk
theorem dp_var (i : Nat) {x : Str} {pos : Pos} (hN : X.N[i]? = some x := by rfl) (hv : Vis X.env.scope x := by first | exact Or.inl rfl | exact Or.inr (Or.inl rfl) | exact Or.inr (Or.inr rfl)) (hd : (x == ("__debug__" : Str)) = false := by decide)
    (hcd : (x == ("__classdict__" : Str)) = false := by decide) : DP X W (.Name x pos) (getP i) := by
  refine ⟨_, pe_var hN hv hd hcd, fun S H r σ F Q x y => ?_⟩
  unfold getP at y
  split at y
  · rename_i d e
    obtain ⟨v, T, h1, h2, _⟩ := x.get e
    exact ⟨v, h1, y v S H T (.refl _ _ _) (Ft.nil x.ft.sd) h2⟩
  · exact y.elim
/-- a name's value, taken: the name is without a value from then on -/
def takeE (i : Nat) (r : Env) : Res D := match r[i]? with
  | some (some d) => .ok d (r.set i none)
  | _ => .stk
theorem de_mv (i : Nat) {x : Str} {pos : Pos} (hN : X.N[i]? = some x := by rfl) (hv : Vis X.env.scope x := by first | exact Or.inl rfl | exact Or.inr (Or.inl rfl) | exact Or.inr (Or.inr rfl)) (hd : (x == ("__debug__" : Str)) = false := by decide)
    (hcd : (x == ("__classdict__" : Str)) = false := by decide) : DE X W (.Name x pos) (takeE i) := by
  refine ⟨_, pe_var hN hv hd hcd, fun S H r σ F Q x y => ?_⟩
  unfold takeE at y
  split at y
  · rename_i d e
    obtain ⟨v, T, F', h1, h2, h3, h4, h5⟩ := x.take e
    exact ⟨v, h1, y v S H F' T ((Go.refl S H F).sub fun c z => (h5 c).mp z) h3 h2 h4⟩
  · exact y.elim
theorem dp_int {i j pos} : DP X W (.Constant (.int i) j pos) (fun _ => .ok (.int i)) := ⟨_, pe_int, fun S H r σ F Q x y => y _ S H [] (.refl _ _ _) (Ft.nil x.ft.sd) ⟨rfl, rfl⟩⟩
theorem dp_bl {b j pos} : DP X W (.Constant (.bool b) j pos) (fun _ => .ok (.bl b)) := ⟨_, pe_bl, fun S H r σ F Q x y => y _ S H [] (.refl _ _ _) (Ft.nil x.ft.sd) ⟨rfl, rfl⟩⟩
theorem dp_non {j pos} : DP X W (.Constant .none j pos) (fun _ => .ok .non) := ⟨_, pe_non, fun S H r σ F Q x y => y _ S H [] (.refl _ _ _) (Ft.nil x.ft.sd) ⟨rfl, rfl⟩⟩
theorem dp_str {z j pos} : DP X W (.Constant (.str z) j pos) (fun _ => .ok (.str z)) := ⟨_, pe_str, fun S H r σ F Q x y => y _ S H [] (.refl _ _ _) (Ft.nil x.ft.sd) ⟨rfl, rfl⟩⟩

/-! ### arguments -/
theorem da_nil : DA X W [] (fun r => .ok [] r) := ⟨_, pa_nil, fun S H r σ F Q x y => y [] S H F [] (.refl _ _ _) x ⟨rfl, rfl⟩ x.ft⟩
theorem da_cons {E : Env → Res D} {G : Env → Res (List D)} (ha : DE X W e E) (hb : DA X W es G) (hs : starEach (e :: es) X.env = (false, eval e X.env) :: starEach es X.env := by rfl) :
    DA X W (e :: es) (fun r => (E r).bind fun d r1 => (G r1).bind fun ds r2 => .ok (d :: ds) r2) := by
  obtain ⟨t, p, q⟩ := ha
  obtain ⟨t', p', q'⟩ := hb
  refine ⟨_, pa_cons p p' hs, fun S H r σ F Q x y => q S H r σ F _ x (EP1.bind (Go.refl _ _ _) y fun d r1 v S1 H1 F1 T1 g1 x1 h1 f1 y1 => ?_)⟩
  refine q' S1 H1 r1 σ F1 _ x1 (EP1.bind (g1.sub fun c z => List.mem_append_right _ z) y1 fun ds r2 vs S2 H2 F2 T2 g2 x2 h2 f2 y2 => ?_)
  refine y2 (v :: vs) S2 H2 F2 (T1 ++ T2) ?_ x2 ⟨v, vs, T1, T2, rfl, rfl, Rep.go g2 x1.ft d v T1 f1.apart h1, h2⟩ ?_
  · rw [List.append_assoc]
    exact g1.trans (g2.frame T1)
  · rw [List.append_assoc]
    exact f1.frame g2 f2
theorem dpa_nil : DPA X W [] (fun _ => .ok []) := ⟨_, pa_nil, fun S H r σ F Q x y => y [] S H [] (.refl _ _ _) (Ft.nil x.ft.sd) ⟨rfl, rfl⟩⟩
theorem dpa_cons {E : Env → PR D} {G : Env → PR (List D)} (ha : DP X W e E) (hb : DPA X W es G) (hs : starEach (e :: es) X.env = (false, eval e X.env) :: starEach es X.env := by rfl) :
    DPA X W (e :: es) (fun r => (E r).bind fun d => (G r).bind fun ds => .ok (d :: ds)) := by
  obtain ⟨t, p, q⟩ := ha
  obtain ⟨t', p', q'⟩ := hb
  refine ⟨_, pa_cons p p' hs, fun S H r σ F Q x y => q S H r σ F _ x (PP1.bind (Go.refl _ _ _) y fun d v S1 H1 T1 g1 f1 h1 y1 => ?_)⟩
  refine q' S1 H1 r σ F _ (x.ext0 g1 f1) (PP1.bind g1 y1 fun ds vs S2 H2 T2 g2 f2 h2 y2 => ?_)
  exact y2 (v :: vs) S2 H2 (T1 ++ T2) (g1.trans g2) f2 ⟨v, vs, T1, T2, rfl, rfl, Rep.go g2 f1 d v T1 (fun _ _ z => nomatch z) h1, h2⟩
end
end DL

/-! DOps: operators, comparisons, subscripts, calls of builtins, tests, displays. -/
namespace DL
open PySem PySem.Spec PyProof.Rows L2

/-! ### readings apart from the syntax -/
def RdE (X : Cx) (W : WX) (t : TE) (E : Env → Res D) : Prop := ∀ S H r σ F Q, At X.K S H r σ F → EP1 (Rep X.K) X W S H F σ Q (E r) → t σ H Q
def RdR (X : Cx) (W : WX) (t : TE) (E : Env → Res D) : Prop := ∀ S H r σ F Q, At X.K S H r σ F → RP1 (Rep X.K) X W S H F σ Q (E r) → t σ H Q
def RdP (X : Cx) (W : WX) (t : TE) (P : Env → PR D) : Prop := ∀ S H r σ F Q, At X.K S H r σ F → PP1 (Rep X.K) X W S H σ Q (P r) → t σ H Q
def RdT (X : Cx) (W : WX) (t : TT) (E : Env → Res Bool) : Prop := ∀ S H r σ F Q, At X.K S H r σ F → EP1 RB X W S H F σ Q (E r) → t σ H Q

def opE {α β : Type} (g : α → Option β) (a : α) (r : Env) : Res β := match g a with
  | some b => .ok b r
  | none => .stk
def opP {α β : Type} (g : α → Option β) (a : α) : PR β := match g a with
  | some b => .ok b
  | none => .stk

/-- an operator by values that makes something new, or something shared -/
def V2 (K : PySem.W.Frag) (q : R2) (g : D → D → Option D) : Prop := ∀ (S : Addr → Prop) (H : Hp) (d1 d2 : D) (v1 v2 : V) (T1 T2 : Fp) (Q : VK), (∀ a, S a → H a ≠ none) → Rep K S H d1 v1 T1 → Rep K S H d2 v2 T2 →
  (∃ d, g d1 d2 = some d ∧ ∀ v S' H' T', Go S H [] S' H' T' → Rep K S' H' d v T' → Ft S' H' T' → Q v H') → q v1 v2 H Q
def V1 (K : PySem.W.Frag) (q : V → Hp → VK → Prop) (g : D → Option D) : Prop := ∀ (S : Addr → Prop) (H : Hp) (d1 : D) (v1 : V) (T1 : Fp) (Q : VK), (∀ a, S a → H a ≠ none) → Rep K S H d1 v1 T1 →
  (∃ d, g d1 = some d ∧ ∀ v S' H' T', Go S H [] S' H' T' → Rep K S' H' d v T' → Ft S' H' T' → Q v H') → q v1 H Q
/-- .. on a list of arguments -/
def VL (K : PySem.W.Frag) (q : List V → Hp → VK → Prop) (g : List D → Option D) : Prop := ∀ (S : Addr → Prop) (H : Hp) (ds : List D) (vs : List V) (T1 : Fp) (Q : VK), (∀ a, S a → H a ≠ none) → RepL K S H ds vs T1 →
  (∃ d, g ds = some d ∧ ∀ v S' H' T', Go S H [] S' H' T' → Rep K S' H' d v T' → Ft S' H' T' → Q v H') → q vs H Q
/-- a part of what is there -/
def VB2 (K : PySem.W.Frag) (q : R2) (g : D → D → Option D) : Prop := ∀ (S : Addr → Prop) (H : Hp) (d1 d2 : D) (v1 v2 : V) (T1 T2 : Fp) (Q : VK), (∀ a, S a → H a ≠ none) → Rep K S H d1 v1 T1 → Rep K S H d2 v2 T2 →
  (∃ d, g d1 d2 = some d ∧ ∀ v T', Rep K S H d v T' → (∀ a ∈ T', a ∈ T1) → Q v H) → q v1 v2 H Q

section
variable {X : Cx} {W : WX} {S S' S1 : Addr → Prop} {H H' H1 : Hp} {F F' F1 T : Fp} {σ : L2.St} {r : Env}
theorem opE_some {α β : Type} {R : RR β V} {g : α → Option β} {a : α} {Q : VK} (y : EP1 R X W S H F σ Q (opE g a r)) : ∃ b, g a = some b ∧ EP1 R X W S H F σ Q (.ok b r) := by
  unfold opE at y
  split at y
  · rename_i b e; exact ⟨b, e, y⟩
  · exact y.elim
theorem opP_some {α β : Type} {R : RR β V} {g : α → Option β} {a : α} {Q : VK} (y : PP1 R X W S H σ Q (opP g a)) : ∃ b, g a = some b ∧ PP1 R X W S H σ Q (.ok b) := by
  unfold opP at y
  split at y
  · rename_i b e; exact ⟨b, e, y⟩
  · exact y.elim
/-- the end of an operator on what is owned: T1 goes, T' comes -/
theorem own_end {S2 : Addr → Prop} {H2 : Hp} {T1 T' : Fp} (g : Go S H F S1 H1 (T1 ++ F1)) (x1 : At X.K S1 H1 r σ F1) (g2 : Go S1 H1 [] S2 H2 T') (f2 : Ft S2 H2 T') :
    Go S H F S2 H2 (T' ++ F1) ∧ At X.K S2 H2 r σ F1 ∧ Ft S2 H2 (T' ++ F1) := by
  have g3 : Go S1 H1 F1 S2 H2 (F1 ++ T') := by simpa using g2.frame F1
  have f3 : Ft S2 H2 (F1 ++ T') := (Ft.frame (T := F1) (F := []) (by simpa using x1.ft) g2 f2)
  refine ⟨((g.sub fun c z => List.mem_append_right _ z).trans g3).sub fun c z => ?_, x1.ext g2 f2, f3.comm⟩
  simp only [List.mem_append] at z ⊢
  exact z.symm
theorem RdE.op {q : R2} {g : D → D → Option D} {ta tb : TE} {A B : Env → Res D} (v : V2 X.K q g) (ha : RdE X W ta A) (hb : RdE X W tb B) :
    RdE X W (tOp q ta tb) (fun r => (A r).bind fun x r1 => (B r1).bind fun y r2 => opE (g x) y r2) := by
  intro S H r σ F Q x y
  refine ha S H r σ F _ x (EP1.bind (Go.refl _ _ _) y fun d1 r1 v1 S1 H1 F1 T1 g1 x1 h1 f1 y1 => ?_)
  refine hb S1 H1 r1 σ F1 _ x1 (EP1.bind (g1.sub fun c z => List.mem_append_right _ z) y1 fun d2 r2 v2 S2 H2 F2 T2 g2 x2 h2 f2 y2 => ?_)
  obtain ⟨d, e, y3⟩ := opE_some y2
  refine v S2 H2 d1 d2 v1 v2 T1 T2 Q x2.ft.sd (Rep.go g2 x1.ft d1 v1 T1 f1.apart h1) h2 ⟨d, e, fun w S3 H3 T3 g3 h3 f3 => ?_⟩
  have g12 : Go S H F S2 H2 (T2 ++ F2) := (g1.sub (F2 := F1) fun c z => List.mem_append_right _ z).trans g2
  obtain ⟨a1, a2, a3⟩ := own_end (T1 := T2) g12 x2 g3 f3
  exact y3 w S3 H3 F2 T3 a1 a2 h3 a3
theorem RdE.opP {q : R2} {g : D → D → Option D} {ta tb : TE} {A B : Env → PR D} (v : V2 X.K q g) (ha : RdP X W ta A) (hb : RdP X W tb B) :
    RdE X W (tOp q ta tb) (fun r => (((A r).bind fun x => (B r).bind fun y => DL.opP (g x) y).up r)) := by
  intro S H r σ F Q x y
  have y : EP1 (Rep X.K) X W S H F σ Q (((A r).bind fun x => (B r).bind fun y => DL.opP (g x) y).up r) := y
  refine ha S H r σ F _ x ?_
  cases eA : A r with
  | stk => rw [eA] at y; exact y
  | exc c =>
    rw [eA] at y
    exact fun S' H' g' f' => y S' H' F (go_side g' F) (x.ext0 g' f')
  | ok d1 =>
    rw [eA] at y
    intro v1 S1 H1 T1 g1 f1 h1
    refine hb S1 H1 r σ F _ (x.ext0 g1 f1) ?_
    have y : EP1 (Rep X.K) X W S H F σ Q (((B r).bind fun y => DL.opP (g d1) y).up r) := y
    cases eB : B r with
    | stk => rw [eB] at y; exact y
    | exc c =>
      rw [eB] at y
      exact fun S' H' g' f' => y S' H' F (go_side (g1.trans g') F) ((x.ext0 g1 f1).ext0 g' f')
    | ok d2 =>
      rw [eB] at y
      intro v2 S2 H2 T2 g2 f2 h2
      have y : EP1 (Rep X.K) X W S H F σ Q ((DL.opP (g d1) d2).up r) := y
      unfold DL.opP at y
      split at y
      · rename_i d e
        refine v S2 H2 d1 d2 v1 v2 T1 T2 Q f2.sd (Rep.go g2 f1 d1 v1 T1 (fun _ _ z => nomatch z) h1) h2 ⟨d, e, fun w S3 H3 T3 g3 h3 f3 => ?_⟩
        have x2 := (x.ext0 g1 f1).ext0 g2 f2
        obtain ⟨a1, a2, a3⟩ := own_end (T1 := []) (go_side (g1.trans g2) F) x2 g3 f3
        exact y w S3 H3 F T3 a1 a2 h3 a3
      · exact y.elim
theorem RdP.op {q : R2} {g : D → D → Option D} {ta tb : TE} {A B : Env → PR D} (v : V2 X.K q g) (ha : RdP X W ta A) (hb : RdP X W tb B) :
    RdP X W (tOp q ta tb) (fun r => (A r).bind fun x => (B r).bind fun y => DL.opP (g x) y) := by
  intro S H r σ F Q x y
  refine ha S H r σ F _ x (PP1.bind (Go.refl _ _ _) y fun d1 v1 S1 H1 T1 g1 f1 h1 y1 => ?_)
  refine hb S1 H1 r σ F _ (x.ext0 g1 f1) (PP1.bind g1 y1 fun d2 v2 S2 H2 T2 g2 f2 h2 y2 => ?_)
  obtain ⟨d, e, y3⟩ := opP_some y2
  refine v S2 H2 d1 d2 v1 v2 T1 T2 Q f2.sd (Rep.go g2 f1 d1 v1 T1 (fun _ _ z => nomatch z) h1) h2 ⟨d, e, fun w S3 H3 T3 g3 h3 f3 => ?_⟩
  have f3' : Ft S3 H3 [] := Ft.nil f3.sd
  exact y3 w S3 H3 T3 ((g1.trans g2).trans (g3.sub fun _ z => nomatch z)) f3' h3

theorem RdR.ofE {t : TE} {E : Env → Res D} (h : RdE X W t E) : RdR X W t E := fun S H r σ F Q x y => h S H r σ F Q x (EP1.read y)
theorem RdR.ofP {t : TE} {P : Env → PR D} (h : RdP X W t P) : RdR X W t (fun r => (P r).up r) := fun S H r σ F Q x y => h S H r σ F Q x (PP1.read x y)
/-- a unary operator on what is read at once -/
theorem RdE.un {q : V → Hp → VK → Prop} {g : D → Option D} {ta : TE} {A : Env → Res D} (v : V1 X.K q g) (ha : RdR X W ta A) : RdE X W (tUn q ta) (fun r => (A r).bind (opE g)) := by
  intro S H r σ F Q x y
  refine ha S H r σ F _ x (EP1.bindR (Go.refl _ _ _) y fun d1 r1 v1 S1 H1 F1 T1 g1 x1 h1 y1 => ?_)
  obtain ⟨d, e, y3⟩ := opE_some y1
  refine v S1 H1 d1 v1 T1 Q x1.ft.sd h1 ⟨d, e, fun w S3 H3 T3 g3 h3 f3 => ?_⟩
  obtain ⟨a1, a2, a3⟩ := own_end (T1 := []) (by simpa using g1) x1 g3 f3
  exact y3 w S3 H3 F1 T3 a1 a2 h3 a3
theorem RdP.un {q : V → Hp → VK → Prop} {g : D → Option D} {ta : TE} {A : Env → PR D} (v : V1 X.K q g) (ha : RdP X W ta A) : RdP X W (tUn q ta) (fun r => (A r).bind (DL.opP g)) := by
  intro S H r σ F Q x y
  refine ha S H r σ F _ x (PP1.bind (Go.refl _ _ _) y fun d1 v1 S1 H1 T1 g1 f1 h1 y1 => ?_)
  obtain ⟨d, e, y3⟩ := opP_some y1
  refine v S1 H1 d1 v1 T1 Q f1.sd h1 ⟨d, e, fun w S3 H3 T3 g3 h3 f3 => ?_⟩
  exact y3 w S3 H3 T3 (g1.trans (g3.sub fun _ z => nomatch z)) (Ft.nil f3.sd) h3
/-- a part of a thing: by a pure index, pure; shared where it goes on -/
theorem RdP.part {q : R2} {g : D → D → Option D} {ta tb : TE} {A B : Env → PR D} (v : VB2 X.K q g) (ha : RdP X W ta A) (hb : RdP X W tb B) :
    RdP X W (tOp q ta tb) (fun r => (A r).bind fun x => (B r).bind fun y => DL.opP (g x) y) := by
  intro S H r σ F Q x y
  refine ha S H r σ F _ x (PP1.bind (Go.refl _ _ _) y fun d1 v1 S1 H1 T1 g1 f1 h1 y1 => ?_)
  refine hb S1 H1 r σ F _ (x.ext0 g1 f1) (PP1.bind g1 y1 fun d2 v2 S2 H2 T2 g2 f2 h2 y2 => ?_)
  obtain ⟨d, e, y3⟩ := opP_some y2
  exact v S2 H2 d1 d2 v1 v2 T1 T2 Q f2.sd (Rep.go g2 f1 d1 v1 T1 (fun _ _ z => nomatch z) h1) h2 ⟨d, e, fun w T3 h3 _ => y3 w S2 H2 T3 (g1.trans g2) f2 h3⟩
/-- .. of something just made, the index any -/
theorem RdE.part {q : R2} {g : D → D → Option D} {ta tb : TE} {A B : Env → Res D} (v : VB2 X.K q g) (ha : RdE X W ta A) (hb : RdE X W tb B) :
    RdE X W (tOp q ta tb) (fun r => (A r).bind fun x r1 => (B r1).bind fun y r2 => (opE (g x) y r2).bind shO) := by
  intro S H r σ F Q x y
  refine ha S H r σ F _ x (EP1.bind (Go.refl _ _ _) y fun d1 r1 v1 S1 H1 F1 T1 g1 x1 h1 f1 y1 => ?_)
  refine hb S1 H1 r1 σ F1 _ x1 (EP1.bind (g1.sub fun c z => List.mem_append_right _ z) y1 fun d2 r2 v2 S2 H2 F2 T2 g2 x2 h2 f2 y2 => ?_)
  unfold opE at y2
  split at y2
  · rename_i d e
    have y2 : EP1 (Rep X.K) X W S H F σ Q (shO d r2) := y2
    unfold shO at y2
    by_cases hs : d.sh = true
    · rw [if_pos hs] at y2
      refine v S2 H2 d1 d2 v1 v2 T1 T2 Q x2.ft.sd (Rep.go g2 x1.ft d1 v1 T1 f1.apart h1) h2 ⟨d, e, fun w T3 h3 _ => ?_⟩
      have eT : T3 = [] := Rep.sh d w T3 hs h3
      subst eT
      exact y2 w S2 H2 F2 [] ((g1.sub (F2 := F1) fun c z => List.mem_append_right _ z).trans (g2.sub fun c z => List.mem_append_right _ z)) x2 h3 x2.ft
    · rw [if_neg hs] at y2
      exact y2.elim
  · exact y2.elim
/-- a bool as a test -/
def asB (d : D) (r : Env) : Res Bool := match d with
  | .bl b => .ok b r
  | _ => .stk
theorem RdT.of {t : TE} {E : Env → Res D} (h : RdR X W t E) : RdT X W (tTest t) (fun r => (E r).bind asB) := by
  intro S H r σ F Q x y
  refine h S H r σ F _ x (EP1.bindR (Go.refl _ _ _) y fun d r1 v S1 H1 F1 T1 g1 x1 h1 y1 => ?_)
  cases d with
  | bl b => exact ⟨b, h1.1, y1 b S1 H1 F1 [] (by simpa using g1) x1 ⟨rfl, rfl⟩ (by simpa using x1.ft)⟩
  | _ => exact False.elim y1
end

/-! ### the operators -/
section
variable {X : Cx} {W : WX} {K : PySem.W.Frag} {S : Addr → Prop} {H : Hp} {T : Fp}
theorem Rep.int_of {i : Int} {v : V} (h : Rep K S H (.int i) v T) : v = .int i := h.1
theorem v2_int {C : Int → Int → Prop} [∀ i j, Decidable (C i j)] {g : Int → Int → Int} : V2 K (rI C fun i j => .int (g i j)) (fun a b => match a, b with | .int i, .int j => if C i j then some (.int (g i j)) else none | _, _ => none) := by
  intro S H d1 d2 v1 v2 T1 T2 Q sd h1 h2 ⟨d, e, k⟩
  cases d1 <;> first | (cases e; done) | skip
  cases d2 <;> first | (cases e; done) | skip
  rename_i i j
  dsimp only at e
  by_cases c : C i j
  · rw [if_pos c] at e
    cases e
    exact ⟨i, j, h1.1, h2.1, c, k (.int (g i j)) S H [] (.refl _ _ _) ⟨rfl, rfl⟩ (Ft.nil sd)⟩
  · rw [if_neg c] at e
    cases e
theorem v2_int0 {g : Int → Int → Int} : V2 K (rI0 fun i j => .int (g i j)) (fun a b => match a, b with | .int i, .int j => some (.int (g i j)) | _, _ => none) := by
  intro S H d1 d2 v1 v2 T1 T2 Q sd h1 h2 ⟨d, e, k⟩
  cases d1 <;> first | (cases e; done) | skip
  cases d2 <;> first | (cases e; done) | skip
  rename_i i j
  cases e
  exact ⟨i, j, h1.1, h2.1, k (.int (g i j)) S H [] (.refl _ _ _) ⟨rfl, rfl⟩ (Ft.nil sd)⟩
theorem v2_cmp0 {g : Int → Int → Bool} : V2 K (rI0 fun i j => .bl (g i j)) (fun a b => match a, b with | .int i, .int j => some (.bl (g i j)) | _, _ => none) := by
  intro S H d1 d2 v1 v2 T1 T2 Q sd h1 h2 ⟨d, e, k⟩
  cases d1 <;> first | (cases e; done) | skip
  cases d2 <;> first | (cases e; done) | skip
  rename_i i j
  cases e
  exact ⟨i, j, h1.1, h2.1, k (.bl (g i j)) S H [] (.refl _ _ _) ⟨rfl, rfl⟩ (Ft.nil sd)⟩
theorem V2.or {q q' : R2} {g : D → D → Option D} {g' : D → D → Option D} (h : V2 K q g) (h' : V2 K q' g') : V2 K (fun x y H Q => q x y H Q ∨ q' x y H Q) (fun a b => (g a b).or (g' a b)) := by
  intro S H d1 d2 v1 v2 T1 T2 Q sd h1 h2 ⟨d, e, k⟩
  dsimp only at e
  cases eg : g d1 d2 with
  | some z => rw [eg] at e; cases e; exact .inl (h S H d1 d2 v1 v2 T1 T2 Q sd h1 h2 ⟨_, eg, k⟩)
  | none => rw [eg] at e; exact .inr (h' S H d1 d2 v1 v2 T1 T2 Q sd h1 h2 ⟨d, e, k⟩)
/-- .. or any function that agrees -/
theorem V2.imp {q : R2} {g g' : D → D → Option D} (h : V2 K q g) (a : ∀ x y d, g' x y = some d → g x y = some d) : V2 K q g' := fun S H d1 d2 v1 v2 T1 T2 Q sd h1 h2 ⟨d, e, k⟩ => h S H d1 d2 v1 v2 T1 T2 Q sd h1 h2 ⟨d, a _ _ _ e, k⟩

instance : ∀ i j, Decidable (CMul i j) := fun i j => by unfold CMul; infer_instance
instance : ∀ i j, Decidable (CDiv i j) := fun i j => by unfold CDiv; infer_instance
instance : ∀ i j, Decidable (CPow i j) := fun i j => by unfold CPow; infer_instance

/-- new objects -/
theorem go_new {H : Hp} {p : Addr} {o : HO} (sd : ∀ a, S a → H a ≠ none) (h : H p = none) (F' : Fp) (hF : ∀ a ∈ F', a = p) : Go S H [] S (upd H p o) F' := by
  refine ⟨fun _ h => h, fun a u e _ => ?_, fun a e => ?_, fun a z => ?_, fun a z => .inl z⟩
  · rw [upd_ne (ne_of_none e h)]; exact e
  · by_cases z : a = p
    · subst z; exact absurd h e
    · rw [upd_ne z]; exact e
  · rw [hF a z]; exact .inr h
theorem sd_new {H : Hp} {p : Addr} {o : HO} (sd : ∀ a, S a → H a ≠ none) : ∀ a, S a → (upd H p o) a ≠ none := fun a z => by
  by_cases e : a = p
  · subst e; rw [upd_same]; simp
  · rw [upd_ne e]; exact sd a z
theorem ft_new {H : Hp} {p : Addr} {xs : List V} (sd : ∀ a, S a → H a ≠ none) (h : H p = none) : Ft S (upd H p (.lst xs)) [p] := by
  refine ⟨by simp, fun a z q => ?_, fun a z => ?_, sd_new sd⟩
  · have : a = p := by simpa using z
    subst this
    exact sd a q h
  · have : a = p := by simpa using z
    subst this
    rw [upd_same]; trivial
/-- a new tuple of shared things -/
theorem rep_tup {H : Hp} {p : Addr} {ds : List D} {vs : List V} {T : Fp} (sd : ∀ a, S a → H a ≠ none) (h : H p = none) (r : RepL K S H ds vs T) : Rep K S (upd H p (.tup vs)) (.tup ds) (.ref p) T :=
  ⟨p, vs, rfl, .inl (.inl upd_same), RepL.go (go_new (F' := []) sd h (fun _ z => nomatch z)) (Ft.nil sd) ds vs T (fun _ _ z => nomatch z) r⟩
theorem rep_lst {H : Hp} {p : Addr} {ds : List D} {vs : List V} {T : Fp} (sd : ∀ a, S a → H a ≠ none) (h : H p = none) (r : RepL K S H ds vs T) : Rep K S (upd H p (.lst vs)) (.lst true ds) (.ref p) (p :: T) :=
  ⟨p, vs, T, rfl, upd_same, rfl, RepL.go (go_new (F' := []) sd h (fun _ z => nomatch z)) (Ft.nil sd) ds vs T (fun _ _ z => nomatch z) r⟩
/-- + -/
def dAdd : D → D → Option D
  | .int i, .int j => some (.int (i + j))
  | .str x, .str y => if x.length + y.length ≤ sizeLine then some (.str (x ++ y)) else none
  | .tup xs, .tup ys => if D.shL xs = true ∧ D.shL ys = true ∧ xs.length + ys.length ≤ sizeLine then some (.tup (xs ++ ys)) else none
  | .lst _ xs, .lst _ ys => if D.shL xs = true ∧ D.shL ys = true ∧ xs.length + ys.length ≤ sizeLine then some (.lst true (xs ++ ys)) else none
  | _, _ => none
theorem Rep.lst_at {o : Bool} {ds : List D} {v : V} {T : Fp} (h : Rep K S H (.lst o ds) v T) (hs : D.shL ds = true) : ∃ a vs, v = .ref a ∧ H a = some (.lst vs) ∧ RepL K S H ds vs [] := by
  cases o with
  | true =>
    obtain ⟨a, vs, G, e1, e2, e3, r⟩ := h
    have : G = [] := RepL.sh ds vs G hs r
    subst this
    exact ⟨a, vs, e1, e2, r⟩
  | false =>
    obtain ⟨_, a, vs, e1, e2, r⟩ := h
    exact ⟨a, vs, e1, e2.1, r⟩
theorem Rep.tup_at {ds : List D} {v : V} {T : Fp} (h : Rep K S H (.tup ds) v T) (hs : D.shL ds = true) : ∃ a vs, v = .ref a ∧ SqT K H a vs ∧ RepL K S H ds vs [] := by
  obtain ⟨a, vs, e1, e2, r⟩ := h
  have : T = [] := RepL.sh ds vs T hs r
  subst this
  exact ⟨a, vs, e1, e2, r⟩
def rAddA (K : PySem.W.Frag) : R2 := fun x y H Q => ((rI0 fun i j => .int (i + j)) x y H Q ∨ (∃ i j, x = V.str i ∧ y = V.str j ∧ i.length + j.length ≤ sizeLine ∧ Q (.str (i ++ j)) H)) ∨ (rCatA K x y H Q ∨ rCat x y H Q)
theorem op_addA : OpR X (binaryOp .Add) (rAddA X.K) := (op_add.or op_add_str).or (op_catA.or op_cat)
theorem v2_add : V2 K (rAddA K) dAdd := by
  intro S H d1 d2 v1 v2 T1 T2 Q sd h1 h2 ⟨d, e, k⟩
  unfold dAdd at e
  split at e
  · rename_i i j
    cases e
    exact .inl (.inl ⟨i, j, h1.1, h2.1, k _ S H [] (.refl _ _ _) ⟨rfl, rfl⟩ (Ft.nil sd)⟩)
  · rename_i i j
    split at e
    · rename_i c
      cases e
      exact .inl (.inr ⟨i, j, h1.1, h2.1, c, k _ S H [] (.refl _ _ _) ⟨rfl, rfl⟩ (Ft.nil sd)⟩)
    · cases e
  · rename_i xs ys
    split at e
    · rename_i c
      cases e
      obtain ⟨c1, c2, c3⟩ := c
      obtain ⟨a, vs, rfl, q1, r1⟩ := h1.tup_at c1
      obtain ⟨b, ws, rfl, q2, r2⟩ := h2.tup_at c2
      refine .inr (.inl ⟨a, b, vs, ws, rfl, rfl, q1, q2, ?_, fun e => ?_, fun _ e => ?_, fun _ _ p hp => ?_⟩)
      · rw [← r1.len, ← r2.len]; exact c3
      · subst e
        have e1 : xs = [] := List.eq_nil_of_length_eq_zero (by have := r1.len; simpa using this)
        subst e1
        exact k _ S H [] (.refl _ _ _) ⟨b, ws, rfl, q2, by simpa using r2⟩ (Ft.nil sd)
      · subst e
        have e1 : ys = [] := List.eq_nil_of_length_eq_zero (by have := r2.len; simpa using this)
        subst e1
        exact k _ S H [] (.refl _ _ _) ⟨a, vs, rfl, q1, by simpa using r1⟩ (Ft.nil sd)
      · exact k _ S _ [] (go_new sd hp [] (fun _ z => nomatch z)) (rep_tup sd hp (r1.append r2)) (Ft.nil (sd_new sd))
    · cases e
  · rename_i o1 xs o2 ys
    split at e
    · rename_i c
      cases e
      obtain ⟨c1, c2, c3⟩ := c
      obtain ⟨a, vs, rfl, q1, r1⟩ := h1.lst_at c1
      obtain ⟨b, ws, rfl, q2, r2⟩ := h2.lst_at c2
      refine .inr (.inr ⟨a, b, vs, ws, rfl, rfl, q1, q2, ?_, fun p hp => ?_⟩)
      · rw [← r1.len, ← r2.len]; exact c3
      · exact k _ S _ [p] (go_new sd hp [p] (fun a z => by simpa using z)) (rep_lst sd hp (r1.append r2)) (ft_new sd hp)
    · cases e
  · cases e
def dSub : D → D → Option D
  | .int i, .int j => some (.int (i - j))
  | _, _ => none
theorem v2_sub : V2 K (rI0 fun i j => .int (i - j)) dSub := v2_int0.imp fun x y d e => by cases x <;> cases y <;> first | exact e | cases e
def dMul : D → D → Option D
  | .int i, .int j => if CMul i j then some (.int (i * j)) else none
  | _, _ => none
theorem v2_mul : V2 K (rI CMul fun i j => .int (i * j)) dMul := v2_int.imp fun x y d e => by cases x <;> cases y <;> first | exact e | cases e
def dFdiv : D → D → Option D
  | .int i, .int j => if CDiv i j then some (.int (i / j)) else none
  | _, _ => none
theorem v2_fdiv : V2 K (rI CDiv fun i j => .int (i / j)) dFdiv := v2_int.imp fun x y d e => by cases x <;> cases y <;> first | exact e | cases e
def dMod : D → D → Option D
  | .int i, .int j => if 0 < j then some (.int (i % j)) else none
  | _, _ => none
theorem v2_mod : V2 K (rI (fun _ j => 0 < j) fun i j => .int (i % j)) dMod := v2_int.imp fun x y d e => by cases x <;> cases y <;> first | exact e | cases e
def dPow : D → D → Option D
  | .int i, .int j => if CPow i j then some (.int (i ^ j.toNat)) else none
  | _, _ => none
theorem v2_pow : V2 K (rI CPow fun i j => .int (i ^ j.toNat)) dPow := v2_int.imp fun x y d e => by cases x <;> cases y <;> first | exact e | cases e
def dShl : D → D → Option D
  | .int i, .int j => if CPow i j then some (.int (i * 2 ^ j.toNat)) else none
  | _, _ => none
theorem v2_shl : V2 K (rI CPow fun i j => .int (i * 2 ^ j.toNat)) dShl := v2_int.imp fun x y d e => by cases x <;> cases y <;> first | exact e | cases e
def dShr : D → D → Option D
  | .int i, .int j => if 0 ≤ j then some (.int (i / 2 ^ j.toNat)) else none
  | _, _ => none
theorem v2_shr : V2 K (rI (fun _ j => 0 ≤ j) fun i j => .int (i / 2 ^ j.toNat)) dShr := v2_int.imp fun x y d e => by cases x <;> cases y <;> first | exact e | cases e
def dLt : D → D → Option D
  | .int i, .int j => some (.bl (decide (i < j)))
  | _, _ => none
theorem v2_lt : V2 K (rI0 fun i j => .bl (decide (i < j))) dLt := v2_cmp0.imp fun x y d e => by cases x <;> cases y <;> first | exact e | cases e
def dLe : D → D → Option D
  | .int i, .int j => some (.bl (decide (i ≤ j)))
  | _, _ => none
theorem v2_le : V2 K (rI0 fun i j => .bl (decide (i ≤ j))) dLe := v2_cmp0.imp fun x y d e => by cases x <;> cases y <;> first | exact e | cases e
def dGt : D → D → Option D
  | .int i, .int j => some (.bl (decide (j < i)))
  | _, _ => none
theorem v2_gt : V2 K (rI0 fun i j => .bl (decide (j < i))) dGt := v2_cmp0.imp fun x y d e => by cases x <;> cases y <;> first | exact e | cases e
def dGe : D → D → Option D
  | .int i, .int j => some (.bl (decide (j ≤ i)))
  | _, _ => none
theorem v2_ge : V2 K (rI0 fun i j => .bl (decide (j ≤ i))) dGe := v2_cmp0.imp fun x y d e => by cases x <;> cases y <;> first | exact e | cases e
def dNeg : D → Option D
  | .int i => some (.int (-i))
  | _ => none
theorem v1_neg : V1 K (rU fun i => .int (-i)) dNeg := by
  intro S H d1 v1 T1 Q sd h1 ⟨d, e, k⟩
  cases d1 <;> first | (cases e; done) | skip
  rename_i i
  cases e
  exact ⟨i, h1.1, k (.int (-i)) S H [] (.refl _ _ _) ⟨rfl, rfl⟩ (Ft.nil sd)⟩
end
end DL

/-! DEq: ==, !=, in, is None; subscripts, len and its like. -/
namespace DL
open PySem PySem.Spec PyProof.Rows L2
/-! ### == by worth -/
mutual
def D.eqv : D → D → Bool
  | .non, .non => true
  | .bl a, .bl b => a == b
  | .bl a, .int j => (if a then 1 else 0) == j
  | .int i, .bl b => i == (if b then 1 else 0)
  | .int i, .int j => i == j
  | .str x, .str y => x == y
  | .lst _ xs, .lst _ ys => D.eqvL xs ys
  | .tup xs, .tup ys => D.eqvL xs ys
  | _, _ => false
def D.eqvL : List D → List D → Bool
  | [], [] => true
  | x :: xs, y :: ys => D.eqv x y && D.eqvL xs ys
  | _, _ => false
end
mutual
/-- how deep; no script, no exception within -/
def D.dep : D → Nat
  | .tup ds => D.depL ds + 1
  | .lst _ ds => D.depL ds + 1
  | .scr _ => 100
  | .exc _ => 100
  | .str x => if PyData.strOk x = true then 0 else 100
  | _ => 0
def D.depL : List D → Nat
  | [] => 0
  | d :: ds => max (D.dep d) (D.depL ds)
end
mutual
def D.py : D → PyData
  | .non => .none
  | .bl b => .bool b
  | .int i => .int i
  | .str x => .str x
  | .tup ds => .tuple (D.pyL ds)
  | .lst _ ds => .list (D.pyL ds)
  | .scr _ => .none
  | .exc _ => .none
def D.pyL : List D → List PyData
  | [] => []
  | d :: ds => D.py d :: D.pyL ds
end
section
variable {K : PySem.W.Frag} {S : Addr → Prop} {H : Hp} {T : Fp}
theorem D.dep_str {x : Str} (h : (D.str x).dep < 100) : PyData.strOk x = true ∧ (D.str x).dep = 0 := by
  unfold D.dep at h ⊢
  by_cases c : PyData.strOk x = true
  · rw [if_pos c]; exact ⟨c, rfl⟩
  · rw [if_neg c] at h; omega
mutual
theorem D.dep_py : ∀ d : D, d.dep < 100 → d.py.depth = d.dep
  | .non, _ => rfl
  | .bl _, _ => rfl
  | .int _, _ => rfl
  | .str _, h => by rw [(D.dep_str h).2]; rfl
  | .tup ds, h => by simp only [D.py, D.dep, PyData.depth] at h ⊢; rw [D.depL_py ds (by omega)]
  | .lst _ ds, h => by simp only [D.py, D.dep, PyData.depth] at h ⊢; rw [D.depL_py ds (by omega)]
  | .scr _, h => by simp [D.dep] at h
  | .exc _, h => by simp [D.dep] at h
theorem D.depL_py : ∀ ds : List D, D.depL ds < 100 → PyData.depthAll (D.pyL ds) = D.depL ds
  | [], _ => rfl
  | d :: ds, h => by simp only [D.pyL, D.depL, PyData.depthAll] at h ⊢; rw [D.dep_py d (by omega), D.depL_py ds (by omega)]
end
mutual
theorem D.lay_py : ∀ d : D, d.dep < 100 → d.py.canLay0 = true
  | .non, _ => rfl
  | .bl _, _ => rfl
  | .int _, _ => rfl
  | .str _, h => (D.dep_str h).1
  | .tup ds, h => by simp only [D.py, PyData.canLay0]; exact D.layL_py ds (by simp only [D.dep] at h; omega)
  | .lst _ ds, h => by simp only [D.py, PyData.canLay0]; exact D.layL_py ds (by simp only [D.dep] at h; omega)
  | .scr _, _ => rfl
  | .exc _, _ => rfl
theorem D.layL_py : ∀ ds : List D, D.depL ds < 100 → PyData.canLayAll0 (D.pyL ds) = true
  | [], _ => rfl
  | d :: ds, h => by simp only [D.depL] at h; simp only [D.pyL, PyData.canLayAll0, D.lay_py d (by omega), D.layL_py ds (by omega), Bool.and_self]
end
mutual
theorem D.eqv_py : ∀ a b : D, a.dep < 100 → b.dep < 100 → PyData.eqv a.py b.py = D.eqv a b
  | .tup xs, b, h, h' => by
    cases b <;> first | (simp only [D.py, PyData.eqv, D.eqv]; done) | skip
    · rename_i ys
      simp only [D.dep] at h h'
      simp only [D.py, PyData.eqv, D.eqv]
      exact D.eqvL_py xs ys (by omega) (by omega)
    all_goals simp [D.dep] at h'
  | .lst o xs, b, h, h' => by
    cases b <;> first | (simp only [D.py, PyData.eqv, D.eqv]; done) | skip
    · rename_i o' ys
      simp only [D.dep] at h h'
      simp only [D.py, PyData.eqv, D.eqv]
      exact D.eqvL_py xs ys (by omega) (by omega)
    all_goals simp [D.dep] at h'
  | .scr _, b, h, _ => by simp [D.dep] at h
  | .exc _, b, h, _ => by simp [D.dep] at h
  | .non, b, _, h' => by cases b <;> first | (simp only [D.py, PyData.eqv, D.eqv]; done) | simp [D.dep] at h'
  | .bl x, b, _, h' => by cases b <;> first | (simp only [D.py, PyData.eqv, D.eqv]; done) | simp [D.dep] at h'
  | .int x, b, _, h' => by cases b <;> first | (simp only [D.py, PyData.eqv, D.eqv]; done) | simp [D.dep] at h'
  | .str x, b, _, h' => by cases b <;> first | (simp only [D.py, PyData.eqv, D.eqv]; done) | simp [D.dep] at h'
theorem D.eqvL_py : ∀ xs ys : List D, D.depL xs < 100 → D.depL ys < 100 → PyData.eqvAll (D.pyL xs) (D.pyL ys) = D.eqvL xs ys
  | [], [], _, _ => rfl
  | [], _ :: _, _, _ => rfl
  | _ :: _, [], _, _ => rfl
  | x :: xs, y :: ys, h, h' => by
    simp only [D.depL] at h h'
    simp only [D.pyL, PyData.eqvAll, D.eqvL]
    rw [D.eqv_py x y (by omega) (by omega), D.eqvL_py xs ys (by omega) (by omega)]
end
mutual
theorem Rep.dp : ∀ (d : D) (v : V) (T : Fp), d.dep < 100 → Rep K S H d v T → Dp K H v d.py
  | .non, _, _, _, h => by rw [h.1]; exact .non
  | .bl b, _, _, _, h => by rw [h.1]; exact .bl b
  | .int i, _, _, _, h => by rw [h.1]; exact .int i
  | .str x, _, _, _, h => by rw [h.1]; exact .str x
  | .tup ds, v, T, n, h => by
    obtain ⟨a, vs, e, q, r⟩ := h
    subst e
    simp only [D.dep] at n
    exact .tup q (RepL.dp ds vs T (by omega) r)
  | .lst true ds, v, T, n, h => by
    obtain ⟨a, vs, G, e, q, e2, r⟩ := h
    subst e
    simp only [D.dep] at n
    exact .lst (.inl (.inl q)) (RepL.dp ds vs G (by omega) r)
  | .lst false ds, v, T, n, h => by
    obtain ⟨_, a, vs, e, q, r⟩ := h
    subst e
    simp only [D.dep] at n
    exact .lst q.read (RepL.dp ds vs [] (by omega) r)
  | .scr _, _, _, n, _ => by simp [D.dep] at n
  | .exc _, _, _, n, _ => by simp [D.dep] at n
theorem RepL.dp : ∀ (ds : List D) (vs : List V) (T : Fp), D.depL ds < 100 → RepL K S H ds vs T → DpAll K H vs (D.pyL ds)
  | [], _, _, _, h => by rw [h.1]; exact .nil
  | d :: ds, vs, T, n, h => by
    obtain ⟨v, r, F1, F2, e1, e2, h1, h2⟩ := h
    subst e1
    simp only [D.depL] at n
    exact .cons (Rep.dp d v F1 (by omega) h1) (RepL.dp ds r F2 (by omega) h2)
end
theorem shaped_py {d : D} (h : d.dep ≤ 64) : SeqAt.shaped d.py = true := by
  show (d.py.canLay0 && decide (d.py.depth ≤ 64)) = true
  rw [D.lay_py d (by omega), D.dep_py d (by omega), decide_eq_true h]
  rfl
/-- plain ones are asked at once -/
def D.pl : D → D → Bool
  | .str _, .str _ => true
  | .str _, .int _ => true
  | .str _, .non => true
  | .str _, .bl _ => true
  | .int _, .str _ => true
  | .non, .str _ => true
  | .bl _, .str _ => true
  | _, _ => false
def dEq (a b : D) : Option D := if D.pl a b = true ∨ (a.dep ≤ 64 ∧ b.dep ≤ 64) then some (.bl (D.eqv a b)) else none
def dNe (a b : D) : Option D := if D.pl a b = true ∨ (a.dep ≤ 64 ∧ b.dep ≤ 64) then some (.bl (!D.eqv a b)) else none
def rEqA (K : PySem.W.Frag) : R2 := fun x y H Q => rEq x y H Q ∨ rEqD K x y H Q
def rNeA (K : PySem.W.Frag) : R2 := fun x y H Q => rNe x y H Q ∨ rNeD K x y H Q
theorem op_eqA {X : Cx} (hu : X.A.units + 64 < cLine) : OpR X (compareOp .Eq) (rEqA X.K) := op_eq.or (op_eqD hu)
theorem op_neA {X : Cx} (hu : X.A.units + 64 < cLine) : OpR X (compareOp .NotEq) (rNeA X.K) := op_ne.or (op_neD hu)
theorem pl_scal {a b : D} {v w : V} {T1 T2 : Fp} (c : D.pl a b = true) (h1 : Rep K S H a v T1) (h2 : Rep K S H b w T2) : scal v w = true ∧ decide (v = w) = D.eqv a b := by
  cases a <;> cases b <;> first | (cases c; done) | skip
  all_goals (rw [h1.1, h2.1]; refine ⟨rfl, ?_⟩)
  all_goals first
    | (simp only [D.eqv]; exact decide_eq_false (fun e => nomatch e))
    | (simp only [D.eqv]; exact dec_str)
theorem v2_eq : V2 K (rEqA K) dEq := by
  intro S H d1 d2 v1 v2 T1 T2 Q sd h1 h2 ⟨d, e, k⟩
  unfold dEq at e
  split at e
  · rename_i c
    cases e
    rcases c with c | c
    · obtain ⟨q1, q2⟩ := pl_scal c h1 h2
      refine .inl ⟨q1, ?_⟩
      rw [q2]
      exact k _ S H [] (.refl _ _ _) ⟨rfl, rfl⟩ (Ft.nil sd)
    · refine .inr ⟨d1.py, d2.py, Rep.dp d1 v1 T1 (by omega) h1, Rep.dp d2 v2 T2 (by omega) h2, shaped_py c.1, shaped_py c.2, ?_⟩
      rw [D.eqv_py d1 d2 (by omega) (by omega)]
      exact k _ S H [] (.refl _ _ _) ⟨rfl, rfl⟩ (Ft.nil sd)
  · cases e
theorem v2_ne : V2 K (rNeA K) dNe := by
  intro S H d1 d2 v1 v2 T1 T2 Q sd h1 h2 ⟨d, e, k⟩
  unfold dNe at e
  split at e
  · rename_i c
    cases e
    rcases c with c | c
    · obtain ⟨q1, q2⟩ := pl_scal c h1 h2
      refine .inl ⟨q1, ?_⟩
      rw [q2]
      exact k _ S H [] (.refl _ _ _) ⟨rfl, rfl⟩ (Ft.nil sd)
    · refine .inr ⟨d1.py, d2.py, Rep.dp d1 v1 T1 (by omega) h1, Rep.dp d2 v2 T2 (by omega) h2, shaped_py c.1, shaped_py c.2, ?_⟩
      rw [D.eqv_py d1 d2 (by omega) (by omega)]
      exact k _ S H [] (.refl _ _ _) ⟨rfl, rfl⟩ (Ft.nil sd)
  · cases e
/-- is None, is not None -/
def dIsN : D → D → Option D
  | .non, .non => some (.bl true)
  | .exc _, _ => none
  | _, .non => some (.bl false)
  | _, _ => none
def dIsNot : D → D → Option D
  | .non, .non => some (.bl false)
  | .exc _, _ => none
  | _, .non => some (.bl true)
  | _, _ => none
theorem Rep.ne_non {d : D} {v : V} (h : Rep K S H d v T) (n : d ≠ .non) : decide (v = V.non) = false := by
  refine decide_eq_false fun e => ?_
  subst e
  cases d with
  | non => exact n rfl
  | bl b => exact nomatch h.1
  | int b => exact nomatch h.1
  | str b => exact nomatch h.1
  | tup ds => obtain ⟨a, vs, e, _⟩ := h; cases e
  | lst o ds => cases o with
    | true => obtain ⟨a, vs, G, e, _⟩ := h; cases e
    | false => obtain ⟨_, a, vs, e, _⟩ := h; cases e
  | scr ns => obtain ⟨_, a, e, _⟩ := h; cases e
  | exc c => exact h
theorem v2_isN : V2 K (fun x y H Q => y = .non ∧ Q (.bl (decide (x = .non))) H) dIsN := by
  intro S H d1 d2 v1 v2 T1 T2 Q sd h1 h2 ⟨d, e, k⟩
  have key : d2 = .non ∧ ((d1 = .non ∧ d = .bl true) ∨ (d1 ≠ .non ∧ d = .bl false)) := by
    cases d1 <;> cases d2 <;> first | (cases e; done) | (cases e; exact ⟨rfl, .inl ⟨rfl, rfl⟩⟩) | (cases e; exact ⟨rfl, .inr ⟨(fun z => nomatch z), rfl⟩⟩)
  obtain ⟨rfl, ⟨rfl, rfl⟩ | ⟨n, rfl⟩⟩ := key
  · refine ⟨h2.1, ?_⟩
    rw [h1.1]
    exact k _ S H [] (.refl _ _ _) ⟨rfl, rfl⟩ (Ft.nil sd)
  · refine ⟨h2.1, ?_⟩
    rw [h1.ne_non n]
    exact k _ S H [] (.refl _ _ _) ⟨rfl, rfl⟩ (Ft.nil sd)
theorem v2_isNot : V2 K (fun x y H Q => y = .non ∧ Q (.bl (!decide (x = .non))) H) dIsNot := by
  intro S H d1 d2 v1 v2 T1 T2 Q sd h1 h2 ⟨d, e, k⟩
  have key : d2 = .non ∧ ((d1 = .non ∧ d = .bl false) ∨ (d1 ≠ .non ∧ d = .bl true)) := by
    cases d1 <;> cases d2 <;> first | (cases e; done) | (cases e; exact ⟨rfl, .inl ⟨rfl, rfl⟩⟩) | (cases e; exact ⟨rfl, .inr ⟨(fun z => nomatch z), rfl⟩⟩)
  obtain ⟨rfl, ⟨rfl, rfl⟩ | ⟨n, rfl⟩⟩ := key
  · refine ⟨h2.1, ?_⟩
    rw [h1.1]
    exact k _ S H [] (.refl _ _ _) ⟨rfl, rfl⟩ (Ft.nil sd)
  · refine ⟨h2.1, ?_⟩
    rw [h1.ne_non n]
    exact k _ S H [] (.refl _ _ _) ⟨rfl, rfl⟩ (Ft.nil sd)

/-! ### subscripts -/
def dIx : D → D → Option D
  | .lst _ ds, .int i => atI ds i
  | .tup ds, .int i => atI ds i
  | .scr ns, .int i => (atI ns i).map .int
  | .str z, .int i => if z.length ≤ sizeLine then (atI z.cps.toList i).map fun c => .str ⟨#[c]⟩ else none
  | _, _ => none
theorem RepL.atI {ds : List D} {vs : List V} {i : Int} {d : D} (h : RepL K S H ds vs T) (e : L2.atI ds i = some d) : ∃ v G, L2.atI vs i = some v ∧ Rep K S H d v G ∧ ∀ a ∈ G, a ∈ T := by
  unfold L2.atI at e ⊢
  rw [← h.len]
  cases q : ixN ds.length i with
  | none => rw [q] at e; cases e
  | some j =>
    rw [q] at e
    obtain ⟨v, G, h1, h2, h3⟩ := h.get (i := j) e
    exact ⟨v, G, h1, h2, h3⟩
theorem vb_ix : VB2 K (rIx K) dIx := by
  intro S H d1 d2 v1 v2 T1 T2 Q sd h1 h2 ⟨d, e, k⟩
  unfold dIx at e
  split at e
  · rename_i o ds i
    cases o with
    | true =>
      obtain ⟨a, vs, G, e1, e2, e3, r⟩ := h1
      obtain ⟨v, G', q1, q2, q3⟩ := r.atI e
      exact .inl ⟨a, vs, i, v, e1, h2.1, .inl (.inl e2), q1, k v G' q2 fun b z => by rw [e3]; exact List.mem_cons_of_mem _ (q3 b z)⟩
    | false =>
      obtain ⟨e0, a, vs, e1, e2, r⟩ := h1
      obtain ⟨v, G', q1, q2, q3⟩ := r.atI e
      exact .inl ⟨a, vs, i, v, e1, h2.1, e2.read, q1, k v G' q2 fun b z => nomatch q3 b z⟩
  · rename_i ds i
    obtain ⟨a, vs, e1, e2, r⟩ := h1
    obtain ⟨v, G', q1, q2, q3⟩ := r.atI e
    exact .inr (.inl ⟨a, vs, i, v, e1, h2.1, e2, q1, k v G' q2 q3⟩)
  · rename_i ns i
    obtain ⟨e0, a, e1, e2⟩ := h1
    cases q : atI ns i with
    | none => rw [q] at e; cases e
    | some n =>
      rw [q] at e; cases e
      refine .inl ⟨a, ns.map V.int, i, .int n, e1, h2.1, e2.read, ?_, k (.int n) [] ⟨rfl, rfl⟩ fun b z => nomatch z⟩
      unfold atI at q ⊢
      rw [List.length_map]
      cases q2 : ixN ns.length i with
      | none => rw [q2] at q; cases q
      | some j =>
        rw [q2] at q
        show (ns.map V.int)[j]? = some (.int n)
        have q : ns[j]? = some n := q
        rw [List.getElem?_map, q]
        rfl
  · rename_i z i
    split at e
    · rename_i c
      cases q : atI z.cps.toList i with
      | none => rw [q] at e; cases e
      | some n =>
        rw [q] at e; cases e
        exact .inr (.inr ⟨z, i, n, h1.1, h2.1, c, q, k _ [] ⟨rfl, rfl⟩ fun b z => nomatch z⟩)
    · cases e
  · cases e

/-! ### builtins by their arguments -/
def dLen : List D → Option D
  | [.lst _ ds] => some (.int ds.length)
  | [.tup ds] => some (.int ds.length)
  | [.scr ns] => some (.int ns.length)
  | [.str z] => if z.length ≤ sizeLine then some (.int z.length) else none
  | _ => none
theorem vl_len : VL K (fun xs H Q => ∃ x n, xs = [x] ∧ LenV K x H n ∧ Q (.int n) H) dLen := by
  intro S H ds vs T1 Q sd h ⟨d, e, k⟩
  have fin : ∀ n : Nat, d = .int n → Q (.int n) H := fun n e => by subst e; exact k _ S H [] (.refl _ _ _) ⟨rfl, rfl⟩ (Ft.nil sd)
  unfold dLen at e
  split at e
  · rename_i o ds
    obtain ⟨v, r, F1, F2, e1, e2, h1, h2, _⟩ := h
    subst h2 e1
    refine ⟨v, ds.length, rfl, ?_, fin _ (by cases e; rfl)⟩
    cases o with
    | true => obtain ⟨a, vs, G, rfl, q, _, r⟩ := h1; exact .inl ⟨vs, .inl (.inl q), r.len⟩
    | false => obtain ⟨_, a, vs, rfl, q, r⟩ := h1; exact .inl ⟨vs, q.read, r.len⟩
  · rename_i ds
    obtain ⟨v, r, F1, F2, e1, e2, h1, h2, _⟩ := h
    subst h2 e1
    obtain ⟨a, vs, rfl, q, r⟩ := h1
    exact ⟨.ref a, ds.length, rfl, .inr ⟨vs, q, r.len⟩, fin _ (by cases e; rfl)⟩
  · rename_i ns
    obtain ⟨v, r, F1, F2, e1, e2, h1, h2, _⟩ := h
    subst h2 e1
    obtain ⟨_, a, rfl, q⟩ := h1
    exact ⟨.ref a, ns.length, rfl, .inl ⟨_, q.read, by simp⟩, fin _ (by cases e; rfl)⟩
  · rename_i z
    split at e
    · rename_i c
      obtain ⟨v, r, F1, F2, e1, e2, h1, h2, _⟩ := h
      subst h2 e1
      exact ⟨v, z.length, rfl, by rw [h1.1]; exact ⟨c, rfl⟩, fin _ (by cases e; rfl)⟩
    · cases e
  · cases e
def dAbs : List D → Option D
  | [.int i] => some (.int (if i < 0 then -i else i))
  | _ => none
theorem vl_abs : VL K (fun xs H Q => ∃ i, xs = [.int i] ∧ Q (.int (if i < 0 then -i else i)) H) dAbs := by
  intro S H ds vs T1 Q sd h ⟨d, e, k⟩
  unfold dAbs at e
  split at e
  · rename_i i
    cases e
    obtain ⟨v, r, F1, F2, e1, e2, h1, h2, _⟩ := h
    subst h2 e1
    rw [h1.1]
    exact ⟨i, rfl, k _ S H [] (.refl _ _ _) ⟨rfl, rfl⟩ (Ft.nil sd)⟩
  · cases e
def dInt : List D → Option D
  | [.int i] => some (.int i)
  | [.bl b] => some (.int (if b then 1 else 0))
  | _ => none
theorem vl_int : VL K (fun xs H Q => (∃ i, xs = [.int i] ∧ Q (.int i) H) ∨ ∃ k, xs = [.bl k] ∧ Q (.int (if k then 1 else 0)) H) dInt := by
  intro S H ds vs T1 Q sd h ⟨d, e, k⟩
  unfold dInt at e
  split at e
  · rename_i i
    cases e
    obtain ⟨v, r, F1, F2, e1, e2, h1, h2, _⟩ := h
    subst h2 e1
    rw [h1.1]
    exact .inl ⟨i, rfl, k _ S H [] (.refl _ _ _) ⟨rfl, rfl⟩ (Ft.nil sd)⟩
  · rename_i b
    cases e
    obtain ⟨v, r, F1, F2, e1, e2, h1, h2, _⟩ := h
    subst h2 e1
    rw [h1.1]
    exact .inr ⟨b, rfl, k _ S H [] (.refl _ _ _) ⟨rfl, rfl⟩ (Ft.nil sd)⟩
  · cases e
def dMax2 : List D → Option D
  | [.int i, .int j] => some (.int (if j > i then j else i))
  | _ => none
theorem vl_max2 : VL K (fun xs H Q => ∃ i j, xs = [.int i, .int j] ∧ Q (.int (if j > i then j else i)) H) dMax2 := by
  intro S H ds vs T1 Q sd h ⟨d, e, k⟩
  unfold dMax2 at e
  split at e
  · rename_i i j
    cases e
    obtain ⟨v, r, F1, F2, e1, e2, h1, v', r', F1', F2', e1', e2', h1', h2, _⟩ := h
    subst h2 e1' e1
    rw [h1.1, h1'.1]
    exact ⟨i, j, rfl, k _ S H [] (.refl _ _ _) ⟨rfl, rfl⟩ (Ft.nil sd)⟩
  · cases e
def dMin2 : List D → Option D
  | [.int i, .int j] => some (.int (if j < i then j else i))
  | _ => none
theorem vl_min2 : VL K (fun xs H Q => ∃ i j, xs = [.int i, .int j] ∧ Q (.int (if j < i then j else i)) H) dMin2 := by
  intro S H ds vs T1 Q sd h ⟨d, e, k⟩
  unfold dMin2 at e
  split at e
  · rename_i i j
    cases e
    obtain ⟨v, r, F1, F2, e1, e2, h1, v', r', F1', F2', e1', e2', h1', h2, _⟩ := h
    subst h2 e1' e1
    rw [h1.1, h1'.1]
    exact ⟨i, j, rfl, k _ S H [] (.refl _ _ _) ⟨rfl, rfl⟩ (Ft.nil sd)⟩
  · cases e
/-- tuple(x), list(x) -/
def dTuple : List D → Option D
  | [.lst _ ds] => if D.shL ds = true then some (.tup ds) else none
  | [.tup ds] => if D.shL ds = true then some (.tup ds) else none
  | _ => none
theorem vl_tuple : VL K (fun xs H Q => ∃ p ys, xs = [.ref p] ∧ ((SqL K H p ys ∧ ∀ l, H l = none → Q (.ref l) (upd H l (.tup ys))) ∨ (SqT K H p ys ∧ Q (.ref p) H))) dTuple := by
  intro S H ds vs T1 Q sd h ⟨d, e, k⟩
  unfold dTuple at e
  split at e
  · rename_i o ds
    split at e
    · rename_i c
      cases e
      obtain ⟨v, r, F1, F2, e1, e2, h1, h2, _⟩ := h
      subst h2 e1
      obtain ⟨a, vs, rfl, q, r⟩ := h1.lst_at c
      exact ⟨a, vs, rfl, .inl ⟨.inl (.inl q), fun p hp => k _ S _ [] (go_new sd hp [] (fun _ z => nomatch z)) (rep_tup sd hp r) (Ft.nil (sd_new sd))⟩⟩
    · cases e
  · rename_i ds
    split at e
    · rename_i c
      cases e
      obtain ⟨v, r, F1, F2, e1, e2, h1, h2, _⟩ := h
      subst h2 e1
      obtain ⟨a, vs, rfl, q, r⟩ := h1.tup_at c
      exact ⟨a, vs, rfl, .inr ⟨q, k _ S H [] (.refl _ _ _) ⟨a, vs, rfl, q, r⟩ (Ft.nil sd)⟩⟩
    · cases e
  · cases e
def dList : List D → Option D
  | [.lst _ ds] => if D.shL ds = true then some (.lst true ds) else none
  | [.tup ds] => if D.shL ds = true then some (.lst true ds) else none
  | _ => none
theorem vl_list : VL K (fun xs H Q => ∃ p ys, xs = [.ref p] ∧ (SqL K H p ys ∨ SqT K H p ys) ∧ ∀ l, H l = none → Q (.ref l) (upd H l (.lst ys))) dList := by
  intro S H ds vs T1 Q sd h ⟨d, e, k⟩
  unfold dList at e
  split at e
  · rename_i o ds
    split at e
    · rename_i c
      cases e
      obtain ⟨v, r, F1, F2, e1, e2, h1, h2, _⟩ := h
      subst h2 e1
      obtain ⟨a, vs, rfl, q, r⟩ := h1.lst_at c
      exact ⟨a, vs, rfl, .inl (.inl (.inl q)), fun p hp => k _ S _ [p] (go_new sd hp [p] (fun _ z => by simpa using z)) (rep_lst sd hp r) (ft_new sd hp)⟩
    · cases e
  · rename_i ds
    split at e
    · rename_i c
      cases e
      obtain ⟨v, r, F1, F2, e1, e2, h1, h2, _⟩ := h
      subst h2 e1
      obtain ⟨a, vs, rfl, q, r⟩ := h1.tup_at c
      exact ⟨a, vs, rfl, .inr q, fun p hp => k _ S _ [p] (go_new sd hp [p] (fun _ z => by simpa using z)) (rep_lst sd hp r) (ft_new sd hp)⟩
    · cases e
  · cases e
end
end DL

/-! DCall: expressions put together: operators, tests, builtins, isinstance, displays, calls of defs. -/
namespace DL
open PySem PySem.Spec PyProof.Rows L2
def DTp (X : Cx) (W : WX) (e : Expr) (P : Env → PR Bool) : Prop := ∃ t, PT X e t ∧ ∀ S H r σ F Q, At X.K S H r σ F → PP1 RB X W S H σ Q (P r) → t σ H Q
def DW (X : Cx) (W : WX) (e : Expr) (E : Env → Res Bool) : Prop := ∃ t, PW X e t ∧ ∀ S H r σ F Q, At X.K S H r σ F → EP1 RB X W S H F σ Q (E r) → t σ H Q
def DWp (X : Cx) (W : WX) (e : Expr) (P : Env → PR Bool) : Prop := ∃ t, PW X e t ∧ ∀ S H r σ F Q, At X.K S H r σ F → PP1 RB X W S H σ Q (P r) → t σ H Q
section
variable {X : Cx} {W : WX} {e a b c : Expr} {es : List Expr} {S S' S1 : Addr → Prop} {H H' H1 : Hp} {F F' F1 T : Fp} {σ : L2.St} {r : Env} {pos : Pos}
/-! ### operators -/
theorem de_op {op : Operator} {q : R2} {g : D → D → Option D} {A B : Env → Res D} (ho : OpR X (binaryOp op) q) (v : V2 X.K q g) (ha : DE X W a A) (hb : DE X W b B) :
    DE X W (.BinOp a op b pos) (fun r => (A r).bind fun x r1 => (B r1).bind fun y r2 => opE (g x) y r2) := by
  obtain ⟨t, p, h⟩ := ha; obtain ⟨t', p', h'⟩ := hb
  exact ⟨_, pe_op ho p p', RdE.op v h h'⟩
theorem dp_op {op : Operator} {q : R2} {g : D → D → Option D} {A B : Env → PR D} (ho : OpR X (binaryOp op) q) (v : V2 X.K q g) (ha : DP X W a A) (hb : DP X W b B) :
    DP X W (.BinOp a op b pos) (fun r => (A r).bind fun x => (B r).bind fun y => opP (g x) y) := by
  obtain ⟨t, p, h⟩ := ha; obtain ⟨t', p', h'⟩ := hb
  exact ⟨_, pe_op ho p p', RdP.op v h h'⟩
theorem dpe_op {op : Operator} {q : R2} {g : D → D → Option D} {A B : Env → PR D} (ho : OpR X (binaryOp op) q) (v : V2 X.K q g) (ha : DP X W a A) (hb : DP X W b B) :
    DE X W (.BinOp a op b pos) (fun r => ((A r).bind fun x => (B r).bind fun y => opP (g x) y).up r) := by
  obtain ⟨t, p, h⟩ := ha; obtain ⟨t', p', h'⟩ := hb
  exact ⟨_, pe_op ho p p', RdE.opP v h h'⟩
theorem de_un {op : UnaryOp} {q : V → Hp → VK → Prop} {g : D → Option D} {A : Env → Res D} (ho : UnR X (unaryOp op) q) (v : V1 X.K q g) (ha : DR X W a A) : DE X W (.UnaryOp op a pos) (fun r => (A r).bind (opE g)) := by
  obtain ⟨t, p, h⟩ := ha
  exact ⟨_, pe_un ho p, RdE.un v h⟩
theorem dp_un {op : UnaryOp} {q : V → Hp → VK → Prop} {g : D → Option D} {A : Env → PR D} (ho : UnR X (unaryOp op) q) (v : V1 X.K q g) (ha : DP X W a A) : DP X W (.UnaryOp op a pos) (fun r => (A r).bind (opP g)) := by
  obtain ⟨t, p, h⟩ := ha
  exact ⟨_, pe_un ho p, RdP.un v h⟩
theorem de_cmp {op : CmpOp} {q : R2} {g : D → D → Option D} {A B : Env → Res D} (ho : OpR X (compareOp op) q) (v : V2 X.K q g) (hm : behindInMarks op b = false) (ha : DE X W a A) (hb : DE X W b B) :
    DE X W (.Compare a [op] [b] pos) (fun r => (A r).bind fun x r1 => (B r1).bind fun y r2 => opE (g x) y r2) := by
  obtain ⟨t, p, h⟩ := ha; obtain ⟨t', p', h'⟩ := hb
  exact ⟨_, pe_cmpR ho p p' hm, RdE.op v h h'⟩
theorem dp_cmp {op : CmpOp} {q : R2} {g : D → D → Option D} {A B : Env → PR D} (ho : OpR X (compareOp op) q) (v : V2 X.K q g) (hm : behindInMarks op b = false) (ha : DP X W a A) (hb : DP X W b B) :
    DP X W (.Compare a [op] [b] pos) (fun r => (A r).bind fun x => (B r).bind fun y => opP (g x) y) := by
  obtain ⟨t, p, h⟩ := ha; obtain ⟨t', p', h'⟩ := hb
  exact ⟨_, pe_cmpR ho p p' hm, RdP.op v h h'⟩
def asBp (d : D) : PR Bool := match d with
  | .bl b => .ok b
  | _ => .stk
theorem RdTp.of {t : TE} {P : Env → PR D} (h : RdP X W t P) : ∀ S H r σ F Q, At X.K S H r σ F → PP1 RB X W S H σ Q ((P r).bind asBp) → tTest t σ H Q := by
  intro S H r σ F Q x y
  refine h S H r σ F _ x (PP1.bind (Go.refl _ _ _) y fun d v S1 H1 T1 g1 f1 h1 y1 => ?_)
  cases d with
  | bl b => exact ⟨b, h1.1, y1 b S1 H1 [] g1 f1 ⟨rfl, rfl⟩⟩
  | _ => exact False.elim y1
theorem dt_cmp {op : CmpOp} {q : R2} {g : D → D → Option D} {A B : Env → Res D} (ho : OpR X (compareOp op) q) (v : V2 X.K q g) (hm : behindInMarks op b = false) (ha : DE X W a A) (hb : DE X W b B) :
    DT X W (.Compare a [op] [b] pos) (fun r => ((A r).bind fun x r1 => (B r1).bind fun y r2 => opE (g x) y r2).bind asB) := by
  obtain ⟨t, p, h⟩ := ha; obtain ⟨t', p', h'⟩ := hb
  exact ⟨_, pt_cmpR ho p p' hm, RdT.of (RdR.ofE (RdE.op v h h'))⟩
theorem dtp_cmp {op : CmpOp} {q : R2} {g : D → D → Option D} {A B : Env → PR D} (ho : OpR X (compareOp op) q) (v : V2 X.K q g) (hm : behindInMarks op b = false) (ha : DP X W a A) (hb : DP X W b B) :
    DTp X W (.Compare a [op] [b] pos) (fun r => ((A r).bind fun x => (B r).bind fun y => opP (g x) y).bind asBp) := by
  obtain ⟨t, p, h⟩ := ha; obtain ⟨t', p', h'⟩ := hb
  exact ⟨_, pt_cmpR ho p p' hm, RdTp.of (RdP.op v h h')⟩
/-! ### a op b op c -/
def chP (g g' : D → D → Option D) (A B C : Env → PR D) (r : Env) : PR D := (A r).bind fun x => (B r).bind fun y => (opP (g x) y).bind fun z => (asBp z).bind fun k => if k = true then (C r).bind fun w => opP (g' y) w else .ok (.bl false)
theorem RdP.chain {q q' : R2} {g g' : D → D → Option D} {ta tb tc : TE} {A B C : Env → PR D} (v : V2 X.K q g) (v' : V2 X.K q' g') (ha : RdP X W ta A) (hb : RdP X W tb B) (hc : RdP X W tc C) : RdP X W (tChain q q' ta tb tc) (chP g g' A B C) := by
  intro S H r σ F Q x y
  refine ha S H r σ F _ x (PP1.bind (Go.refl _ _ _) y fun d1 v1 S1 H1 T1 g1 f1 h1 y1 => ?_)
  refine hb S1 H1 r σ F _ (x.ext0 g1 f1) (PP1.bind g1 y1 fun d2 v2 S2 H2 T2 g2 f2 h2 y2 => ?_)
  unfold opP at y2
  split at y2
  · rename_i d e
    refine v S2 H2 d1 d2 v1 v2 T1 T2 _ f2.sd (Rep.go g2 f1 d1 v1 T1 (fun _ _ z => nomatch z) h1) h2 ⟨d, e, fun w S3 H3 T3 g3 h3 f3 => ?_⟩
    have f3' : Ft S3 H3 [] := Ft.nil f3.sd
    have g3' : Go S2 H2 [] S3 H3 [] := g3.sub fun _ z => nomatch z
    cases d with
    | bl k =>
      refine ⟨k, h3.1, ?_⟩
      cases k with
      | false => exact y2 (.bl false) S3 H3 [] ((g1.trans g2).trans g3') f3' ⟨rfl, rfl⟩
      | true =>
        have x3 := ((x.ext0 g1 f1).ext0 g2 f2).ext0 g3' f3'
        refine hc S3 H3 r σ F _ x3 (PP1.bind ((g1.trans g2).trans g3') y2 fun d3 v3 S4 H4 T4 g4 f4 h4 y4 => ?_)
        obtain ⟨d, e, y5⟩ := opP_some y4
        have h2' := Rep.go g4 f3' d2 v2 T2 (fun _ _ z => nomatch z) (Rep.go g3' f2 d2 v2 T2 (fun _ _ z => nomatch z) h2)
        refine v' S4 H4 d2 d3 v2 v3 T2 T4 Q f4.sd h2' h4 ⟨d, e, fun w S5 H5 T5 g5 h5 f5 => ?_⟩
        exact y5 w S5 H5 T5 ((((g1.trans g2).trans g3').trans g4).trans (g5.sub fun _ z => nomatch z)) (Ft.nil f5.sd) h5
    | _ => exact False.elim y2
  · exact False.elim y2
theorem dp_chain {op op' : CmpOp} {q q' : R2} {g g' : D → D → Option D} {A B C : Env → PR D} (ho : OpR X (compareOp op) q) (ho' : OpR X (compareOp op') q') (v : V2 X.K q g) (v' : V2 X.K q' g') (ha : DP X W a A) (hb : DP X W b B) (hc : DP X W c C)
    (hm : lastMarks [op, op'] [b, c] = false := by with_unfolding_all rfl) : DP X W (.Compare a [op, op'] [b, c] pos) (chP g g' A B C) := by
  obtain ⟨t, p, h⟩ := ha; obtain ⟨t', p', h'⟩ := hb; obtain ⟨t2, p2, h2⟩ := hc
  exact ⟨_, pe_chain ho ho' p p' p2 hm, RdP.chain v v' h h' h2⟩
theorem dtp_chain {op op' : CmpOp} {q q' : R2} {g g' : D → D → Option D} {A B C : Env → PR D} (ho : OpR X (compareOp op) q) (ho' : OpR X (compareOp op') q') (v : V2 X.K q g) (v' : V2 X.K q' g') (ha : DP X W a A) (hb : DP X W b B) (hc : DP X W c C)
    (hm : lastMarks [op, op'] [b, c] = false := by with_unfolding_all rfl) : DTp X W (.Compare a [op, op'] [b, c] pos) (fun r => (chP g g' A B C r).bind asBp) := by
  obtain ⟨t, p, h⟩ := ha; obtain ⟨t', p', h'⟩ := hb; obtain ⟨t2, p2, h2⟩ := hc
  exact ⟨_, pt_chain ho ho' p p' p2 hm, RdTp.of (RdP.chain v v' h h' h2)⟩
/-! ### tests -/
theorem dt_of_dtp {P : Env → PR Bool} (h : DTp X W e P) : DT X W e (fun r => (P r).up r) := by
  obtain ⟨t, p, q⟩ := h
  refine ⟨t, p, fun S H r σ F Q x y => q S H r σ F Q x ?_⟩
  have y : EP1 RB X W S H F σ Q ((P r).up r) := y
  cases e1 : P r with
  | stk => rw [e1] at y; exact y
  | exc c => rw [e1] at y; exact fun S' H' g f => y S' H' F (go_side g F) (x.ext0 g f)
  | ok d =>
    rw [e1] at y
    intro k S' H' T g f z
    obtain ⟨z1, z2⟩ := z
    subst z2
    exact y k S' H' F [] (go_side g F) (x.ext0 g f) ⟨z1, rfl⟩ (x.ext0 g f).ft
/-- a bool-valued expression (a call, a name, a subscript) -/
theorem dt_val {E : Env → Res D} (h : DR X W e E) (he : ∀ whole, isTrue e X.env whole = (do let v ← whole; standAt e.pos; holding [v] (truthy v)) := by intro _; rfl) : DT X W e (fun r => (E r).bind asB) := by
  obtain ⟨t, p, q⟩ := h
  exact ⟨_, pt_val p he, RdT.of q⟩
theorem dtp_val {P : Env → PR D} (h : DP X W e P) (he : ∀ whole, isTrue e X.env whole = (do let v ← whole; standAt e.pos; holding [v] (truthy v)) := by intro _; rfl) : DTp X W e (fun r => (P r).bind asBp) := by
  obtain ⟨t, p, q⟩ := h
  exact ⟨_, pt_val p he, RdTp.of q⟩
theorem dt_not {E : Env → Res Bool} (h : DT X W a E) : DT X W (.UnaryOp .Not a pos) (fun r => (E r).bind fun k r1 => .ok (!k) r1) := by
  obtain ⟨t, p, q⟩ := h
  refine ⟨_, pt_not p, fun S H r σ F Q x y => q S H r σ F _ x (EP1.bind (Go.refl _ _ _) y fun k r1 k' S1 H1 F1 T1 g1 x1 h1 f1 y1 => ?_)⟩
  obtain ⟨rfl, rfl⟩ := h1
  exact y1 (!k) S1 H1 F1 [] g1 x1 ⟨rfl, rfl⟩ f1
theorem dtp_not {E : Env → PR Bool} (h : DTp X W a E) : DTp X W (.UnaryOp .Not a pos) (fun r => (E r).bind fun k => .ok (!k)) := by
  obtain ⟨t, p, q⟩ := h
  refine ⟨_, pt_not p, fun S H r σ F Q x y => q S H r σ F _ x (PP1.bind (Go.refl _ _ _) y fun k k' S1 H1 T1 g1 f1 h1 y1 => ?_)⟩
  obtain ⟨rfl, rfl⟩ := h1
  exact y1 (!k) S1 H1 [] g1 f1 ⟨rfl, rfl⟩
theorem dt_of_dw {E : Env → Res Bool} (h : DW X W e E) : DT X W e E := by
  obtain ⟨t, p, q⟩ := h
  exact ⟨t, p.pt, q⟩
theorem dtp_of_dw {E : Env → PR Bool} (h : DWp X W e E) : DTp X W e E := by
  obtain ⟨t, p, q⟩ := h
  exact ⟨t, p.pt, q⟩
theorem dw_and1 {E : Env → Res Bool} (h : DT X W a E) : DW X W (.BoolOp .And [a] pos) E := by obtain ⟨t, p, q⟩ := h; exact ⟨t, pw_and1 p, q⟩
theorem dw_or1 {E : Env → Res Bool} (h : DT X W a E) : DW X W (.BoolOp .Or [a] pos) E := by obtain ⟨t, p, q⟩ := h; exact ⟨t, pw_or1 p, q⟩
theorem dwp_and1 {E : Env → PR Bool} (h : DTp X W a E) : DWp X W (.BoolOp .And [a] pos) E := by obtain ⟨t, p, q⟩ := h; exact ⟨t, pw_and1 p, q⟩
theorem dwp_or1 {E : Env → PR Bool} (h : DTp X W a E) : DWp X W (.BoolOp .Or [a] pos) E := by obtain ⟨t, p, q⟩ := h; exact ⟨t, pw_or1 p, q⟩
theorem dw_and {rest : List Expr} {E G : Env → Res Bool} (h : DT X W a E) (h' : DW X W (.BoolOp .And (b :: rest) pos) G) : DW X W (.BoolOp .And (a :: b :: rest) pos) (fun r => (E r).bind fun k r1 => if k = true then G r1 else .ok false r1) := by
  obtain ⟨t, p, q⟩ := h; obtain ⟨t', p', q'⟩ := h'
  refine ⟨_, pw_and p p', fun S H r σ F Q x y => q S H r σ F _ x (EP1.bind (Go.refl _ _ _) y fun k r1 k' S1 H1 F1 T1 g1 x1 h1 f1 y1 => ?_)⟩
  obtain ⟨rfl, rfl⟩ := h1
  cases k with
  | true => exact q' S1 H1 r1 σ F1 Q x1 (EP1.step g1 y1)
  | false => exact y1 false S1 H1 F1 [] g1 x1 ⟨rfl, rfl⟩ f1
theorem dw_or {rest : List Expr} {E G : Env → Res Bool} (h : DT X W a E) (h' : DW X W (.BoolOp .Or (b :: rest) pos) G) : DW X W (.BoolOp .Or (a :: b :: rest) pos) (fun r => (E r).bind fun k r1 => if k = true then .ok true r1 else G r1) := by
  obtain ⟨t, p, q⟩ := h; obtain ⟨t', p', q'⟩ := h'
  refine ⟨_, pw_or p p', fun S H r σ F Q x y => q S H r σ F _ x (EP1.bind (Go.refl _ _ _) y fun k r1 k' S1 H1 F1 T1 g1 x1 h1 f1 y1 => ?_)⟩
  obtain ⟨rfl, rfl⟩ := h1
  cases k with
  | false => exact q' S1 H1 r1 σ F1 Q x1 (EP1.step g1 y1)
  | true => exact y1 true S1 H1 F1 [] g1 x1 ⟨rfl, rfl⟩ f1
theorem dwp_and {rest : List Expr} {E G : Env → PR Bool} (h : DTp X W a E) (h' : DWp X W (.BoolOp .And (b :: rest) pos) G) : DWp X W (.BoolOp .And (a :: b :: rest) pos) (fun r => (E r).bind fun k => if k = true then G r else .ok false) := by
  obtain ⟨t, p, q⟩ := h; obtain ⟨t', p', q'⟩ := h'
  refine ⟨_, pw_and p p', fun S H r σ F Q x y => q S H r σ F _ x (PP1.bind (Go.refl _ _ _) y fun k k' S1 H1 T1 g1 f1 h1 y1 => ?_)⟩
  obtain ⟨rfl, rfl⟩ := h1
  cases k with
  | true => exact q' S1 H1 r σ F Q (x.ext0 g1 f1) (PP1.step g1 y1)
  | false => exact y1 false S1 H1 [] g1 f1 ⟨rfl, rfl⟩
theorem dwp_or {rest : List Expr} {E G : Env → PR Bool} (h : DTp X W a E) (h' : DWp X W (.BoolOp .Or (b :: rest) pos) G) : DWp X W (.BoolOp .Or (a :: b :: rest) pos) (fun r => (E r).bind fun k => if k = true then .ok true else G r) := by
  obtain ⟨t, p, q⟩ := h; obtain ⟨t', p', q'⟩ := h'
  refine ⟨_, pw_or p p', fun S H r σ F Q x y => q S H r σ F _ x (PP1.bind (Go.refl _ _ _) y fun k k' S1 H1 T1 g1 f1 h1 y1 => ?_)⟩
  obtain ⟨rfl, rfl⟩ := h1
  cases k with
  | false => exact q' S1 H1 r σ F Q (x.ext0 g1 f1) (PP1.step g1 y1)
  | true => exact y1 true S1 H1 [] g1 f1 ⟨rfl, rfl⟩
/-- and, or, not as values: bools -/
theorem dp_one {op} {P : Env → PR D} (h : DP X W a P) : DP X W (.BoolOp op [a] pos) P := by obtain ⟨t, p, q⟩ := h; exact ⟨t, pe_one p, q⟩
theorem de_one {op} {P : Env → Res D} (h : DE X W a P) : DE X W (.BoolOp op [a] pos) P := by obtain ⟨t, p, q⟩ := h; exact ⟨t, pe_one p, q⟩
theorem dp_and {rest : List Expr} {E G : Env → PR D} (h : DP X W a E) (h' : DP X W (.BoolOp .And (b :: rest) pos) G) : DP X W (.BoolOp .And (a :: b :: rest) pos) (fun r => ((E r).bind asBp).bind fun k => if k = true then G r else .ok (.bl false)) := by
  obtain ⟨t, p, q⟩ := h; obtain ⟨t', p', q'⟩ := h'
  refine ⟨_, pe_and p p', fun S H r σ F Q x y => ?_⟩
  refine RdTp.of (t := t) q S H r σ F _ x (PP1.bind (Go.refl _ _ _) y fun k k' S1 H1 T1 g1 f1 h1 y1 => ?_)
  obtain ⟨rfl, rfl⟩ := h1
  cases k with
  | true => exact q' S1 H1 r σ F Q (x.ext0 g1 f1) (PP1.step g1 y1)
  | false => exact y1 (.bl false) S1 H1 [] g1 f1 ⟨rfl, rfl⟩
theorem dp_or {rest : List Expr} {E G : Env → PR D} (h : DP X W a E) (h' : DP X W (.BoolOp .Or (b :: rest) pos) G) : DP X W (.BoolOp .Or (a :: b :: rest) pos) (fun r => ((E r).bind asBp).bind fun k => if k = true then .ok (.bl true) else G r) := by
  obtain ⟨t, p, q⟩ := h; obtain ⟨t', p', q'⟩ := h'
  refine ⟨_, pe_or p p', fun S H r σ F Q x y => ?_⟩
  refine RdTp.of (t := t) q S H r σ F _ x (PP1.bind (Go.refl _ _ _) y fun k k' S1 H1 T1 g1 f1 h1 y1 => ?_)
  obtain ⟨rfl, rfl⟩ := h1
  cases k with
  | false => exact q' S1 H1 r σ F Q (x.ext0 g1 f1) (PP1.step g1 y1)
  | true => exact y1 (.bl true) S1 H1 [] g1 f1 ⟨rfl, rfl⟩
theorem de_and {rest : List Expr} {E G : Env → Res D} (h : DE X W a E) (h' : DE X W (.BoolOp .And (b :: rest) pos) G) : DE X W (.BoolOp .And (a :: b :: rest) pos) (fun r => ((E r).bind asB).bind fun k r1 => if k = true then G r1 else .ok (.bl false) r1) := by
  obtain ⟨t, p, q⟩ := h; obtain ⟨t', p', q'⟩ := h'
  refine ⟨_, pe_and p p', fun S H r σ F Q x y => ?_⟩
  refine RdT.of (t := t) (RdR.ofE q) S H r σ F _ x (EP1.bind (Go.refl _ _ _) y fun k r1 k' S1 H1 F1 T1 g1 x1 h1 f1 y1 => ?_)
  obtain ⟨rfl, rfl⟩ := h1
  cases k with
  | true => exact q' S1 H1 r1 σ F1 Q x1 (EP1.step g1 y1)
  | false => exact y1 (.bl false) S1 H1 F1 [] g1 x1 ⟨rfl, rfl⟩ f1
theorem de_or {rest : List Expr} {E G : Env → Res D} (h : DE X W a E) (h' : DE X W (.BoolOp .Or (b :: rest) pos) G) : DE X W (.BoolOp .Or (a :: b :: rest) pos) (fun r => ((E r).bind asB).bind fun k r1 => if k = true then .ok (.bl true) r1 else G r1) := by
  obtain ⟨t, p, q⟩ := h; obtain ⟨t', p', q'⟩ := h'
  refine ⟨_, pe_or p p', fun S H r σ F Q x y => ?_⟩
  refine RdT.of (t := t) (RdR.ofE q) S H r σ F _ x (EP1.bind (Go.refl _ _ _) y fun k r1 k' S1 H1 F1 T1 g1 x1 h1 f1 y1 => ?_)
  obtain ⟨rfl, rfl⟩ := h1
  cases k with
  | false => exact q' S1 H1 r1 σ F1 Q x1 (EP1.step g1 y1)
  | true => exact y1 (.bl true) S1 H1 F1 [] g1 x1 ⟨rfl, rfl⟩ f1
theorem dp_not {E : Env → PR D} (h : DP X W a E) : DP X W (.UnaryOp .Not a pos) (fun r => ((E r).bind asBp).bind fun k => .ok (.bl !k)) := by
  obtain ⟨t, p, q⟩ := h
  refine ⟨_, pe_not p, fun S H r σ F Q x y => ?_⟩
  refine RdTp.of (t := t) q S H r σ F _ x (PP1.bind (Go.refl _ _ _) y fun k k' S1 H1 T1 g1 f1 h1 y1 => ?_)
  obtain ⟨rfl, rfl⟩ := h1
  exact y1 (.bl !k) S1 H1 [] g1 f1 ⟨rfl, rfl⟩
/-- a if t else b -/
theorem de_if {E : Env → Res Bool} {A B : Env → Res D} (h : DT X W c E) (ha : DE X W a A) (hb : DE X W b B) : DE X W (.IfExp c a b pos) (fun r => (E r).bind fun k r1 => if k = true then A r1 else B r1) := by
  obtain ⟨t, p, q⟩ := h; obtain ⟨t1, p1, q1⟩ := ha; obtain ⟨t2, p2, q2⟩ := hb
  refine ⟨_, pe_ifExp p p1 p2, fun S H r σ F Q x y => q S H r σ F _ x (EP1.bind (Go.refl _ _ _) y fun k r1 k' S1 H1 F1 T1 g1 x1 h1 f1 y1 => ?_)⟩
  obtain ⟨rfl, rfl⟩ := h1
  cases k with
  | true => exact q1 S1 H1 r1 σ F1 Q x1 (EP1.step g1 y1)
  | false => exact q2 S1 H1 r1 σ F1 Q x1 (EP1.step g1 y1)
theorem dp_if {E : Env → PR Bool} {A B : Env → PR D} (h : DTp X W c E) (ha : DP X W a A) (hb : DP X W b B) : DP X W (.IfExp c a b pos) (fun r => (E r).bind fun k => if k = true then A r else B r) := by
  obtain ⟨t, p, q⟩ := h; obtain ⟨t1, p1, q1⟩ := ha; obtain ⟨t2, p2, q2⟩ := hb
  refine ⟨_, pe_ifExp p p1 p2, fun S H r σ F Q x y => q S H r σ F _ x (PP1.bind (Go.refl _ _ _) y fun k k' S1 H1 T1 g1 f1 h1 y1 => ?_)⟩
  obtain ⟨rfl, rfl⟩ := h1
  cases k with
  | true => exact q1 S1 H1 r σ F Q (x.ext0 g1 f1) (PP1.step g1 y1)
  | false => exact q2 S1 H1 r σ F Q (x.ext0 g1 f1) (PP1.step g1 y1)
/-! ### subscripts -/
theorem dp_ix {A B : Env → PR D} (ha : DP X W a A) (hb : DP X W b B) (hs : PlainIx b := by intro _ _; rfl) : DP X W (.Subscript a b pos) (fun r => (A r).bind fun x => (B r).bind fun y => opP (dIx x) y) := by
  obtain ⟨t, p, h⟩ := ha; obtain ⟨t', p', h'⟩ := hb
  exact ⟨_, pe_ix ix_seq p p' hs, RdP.part vb_ix h h'⟩
theorem de_ix {A B : Env → Res D} (ha : DE X W a A) (hb : DE X W b B) (hs : PlainIx b := by intro _ _; rfl) : DE X W (.Subscript a b pos) (fun r => (A r).bind fun x r1 => (B r1).bind fun y r2 => (opE (dIx x) y r2).bind shO) := by
  obtain ⟨t, p, h⟩ := ha; obtain ⟨t', p', h'⟩ := hb
  exact ⟨_, pe_ix ix_seq p p' hs, RdE.part vb_ix h h'⟩
/-! ### displays -/
def tupE (ds : List D) (r : Env) : Res D := if ds.length ≤ sizeLine then .ok (.tup ds) r else .stk
def lstE (ds : List D) (r : Env) : Res D := if ds.length ≤ sizeLine then .ok (.lst true ds) r else .stk
theorem de_tup {x1 : Nat} {E : Env → Res (List D)} (h : DA X W es E) : DE X W (.Tuple es x1 pos) (fun r => (E r).bind tupE) := by
  obtain ⟨t, p, q⟩ := h
  refine ⟨_, pe_tup p, fun S H r σ F Q x y => q S H r σ F _ x (EP1.bind (Go.refl _ _ _) y fun ds r1 vs S1 H1 F1 T1 g1 x1 h1 f1 y1 => ?_)⟩
  unfold tupE at y1
  split at y1
  · rename_i c
    refine ⟨by rw [← h1.len]; exact c, fun p hp => ?_⟩
    have g2 : Go S1 H1 [] S1 (upd H1 p (.tup vs)) [] := go_new x1.ft.sd hp [] (fun _ z => nomatch z)
    have f2 : Ft S1 (upd H1 p (.tup vs)) [] := Ft.nil (sd_new x1.ft.sd)
    exact y1 (.ref p) S1 _ F1 T1 (g1.trans (go_side g2 _)) (x1.ext g2 f2) (rep_tup x1.ft.sd hp h1) (by simpa using Ft.frame (T := T1 ++ F1) (F := []) (by simpa using f1) g2 f2)
  · exact y1.elim
theorem dp_tup {x1 : Nat} {E : Env → PR (List D)} (h : DPA X W es E) : DP X W (.Tuple es x1 pos) (fun r => (E r).bind fun ds => if ds.length ≤ sizeLine then .ok (.tup ds) else .stk) := by
  obtain ⟨t, p, q⟩ := h
  refine ⟨_, pe_tup p, fun S H r σ F Q x y => q S H r σ F _ x (PP1.bind (Go.refl _ _ _) y fun ds vs S1 H1 T1 g1 f1 h1 y1 => ?_)⟩

  split at y1
  · rename_i c
    refine ⟨by rw [← h1.len]; exact c, fun p hp => ?_⟩
    have g2 : Go S1 H1 [] S1 (upd H1 p (.tup vs)) [] := go_new f1.sd hp [] (fun _ z => nomatch z)
    exact y1 (.ref p) S1 _ T1 (g1.trans g2) (Ft.nil (sd_new f1.sd)) (rep_tup f1.sd hp h1)
  · exact y1.elim
theorem de_lst {E : Env → Res (List D)} (h : DA X W es E) : DE X W (.List es pos) (fun r => (E r).bind lstE) := by
  obtain ⟨t, p, q⟩ := h
  refine ⟨_, pe_lst p, fun S H r σ F Q x y => q S H r σ F _ x (EP1.bind (Go.refl _ _ _) y fun ds r1 vs S1 H1 F1 T1 g1 x1 h1 f1 y1 => ?_)⟩
  unfold lstE at y1
  split at y1
  · rename_i c
    refine ⟨by rw [← h1.len]; exact c, fun p hp => ?_⟩
    have g2 : Go S1 H1 [] S1 (upd H1 p (.lst vs)) [p] := go_new x1.ft.sd hp [p] (fun _ z => by simpa using z)
    have f2 : Ft S1 (upd H1 p (.lst vs)) [p] := ft_new x1.ft.sd hp
    have g3 := g2.frame (T1 ++ F1)
    have f3 := Ft.frame (T := T1 ++ F1) (F := []) (by simpa using f1) g2 f2
    have pm : ((T1 ++ F1) ++ [p]).Perm ((p :: T1) ++ F1) := List.perm_append_comm
    refine y1 (.ref p) S1 _ F1 (p :: T1) (g1.trans ?_) (x1.ext g2 f2) (rep_lst x1.ft.sd hp h1) (f3.perm pm)
    exact (show Go S1 H1 (T1 ++ F1) S1 _ ((T1 ++ F1) ++ [p]) from by simpa using g3).sub fun c z => pm.mem_iff.mpr z
  · exact y1.elim
theorem dp_lst {E : Env → PR (List D)} (h : DPA X W es E) : DP X W (.List es pos) (fun r => (E r).bind fun ds => if ds.length ≤ sizeLine then .ok (.lst true ds) else .stk) := by
  obtain ⟨t, p, q⟩ := h
  refine ⟨_, pe_lst p, fun S H r σ F Q x y => q S H r σ F _ x (PP1.bind (Go.refl _ _ _) y fun ds vs S1 H1 T1 g1 f1 h1 y1 => ?_)⟩

  split at y1
  · rename_i c
    refine ⟨by rw [← h1.len]; exact c, fun p hp => ?_⟩
    have g2 : Go S1 H1 [] S1 (upd H1 p (.lst vs)) [] := go_new f1.sd hp [] (fun _ z => nomatch z)
    exact y1 (.ref p) S1 _ (p :: T1) (g1.trans g2) (Ft.nil (sd_new f1.sd)) (rep_lst f1.sd hp h1)
  · exact y1.elim
/-! ### builtins -/
theorem RdL.ee {q : List V → Hp → VK → Prop} {g : List D → Option D} {t : TA} {A : Env → Res (List D)} (v : VL X.K q g) (ha : ∀ S H r σ F Q, At X.K S H r σ F → EP1 (RepL X.K) X W S H F σ Q (A r) → t σ H Q) :
    RdE X W (tCB q t) (fun r => (A r).bind (opE g)) := by
  intro S H r σ F Q x y
  refine ha S H r σ F _ x (EP1.bind (Go.refl _ _ _) y fun ds r1 vs S1 H1 F1 T1 g1 x1 h1 f1 y1 => ?_)
  obtain ⟨d, e, y3⟩ := opE_some y1
  refine v S1 H1 ds vs T1 Q x1.ft.sd h1 ⟨d, e, fun w S3 H3 T3 g3 h3 f3 => ?_⟩
  obtain ⟨a1, a2, a3⟩ := own_end g1 x1 g3 f3
  exact y3 w S3 H3 F1 T3 a1 a2 h3 a3
theorem RdL.pp {q : List V → Hp → VK → Prop} {g : List D → Option D} {t : TA} {A : Env → PR (List D)} (v : VL X.K q g) (ha : ∀ S H r σ F Q, At X.K S H r σ F → PP1 (RepL X.K) X W S H σ Q (A r) → t σ H Q) :
    RdP X W (tCB q t) (fun r => (A r).bind (opP g)) := by
  intro S H r σ F Q x y
  refine ha S H r σ F _ x (PP1.bind (Go.refl _ _ _) y fun ds vs S1 H1 T1 g1 f1 h1 y1 => ?_)
  obtain ⟨d, e, y3⟩ := opP_some y1
  refine v S1 H1 ds vs T1 Q f1.sd h1 ⟨d, e, fun w S3 H3 T3 g3 h3 f3 => ?_⟩
  exact y3 w S3 H3 T3 (g1.trans (g3.sub fun _ z => nomatch z)) (Ft.nil f3.sd) h3
theorem RdL.pe {q : List V → Hp → VK → Prop} {g : List D → Option D} {t : TA} {A : Env → PR (List D)} (v : VL X.K q g) (ha : ∀ S H r σ F Q, At X.K S H r σ F → PP1 (RepL X.K) X W S H σ Q (A r) → t σ H Q) :
    RdE X W (tCB q t) (fun r => ((A r).up r).bind (opE g)) := by
  intro S H r σ F Q x y
  refine ha S H r σ F _ x (EP1.bindP (Go.refl _ _ _) x y fun ds vs S1 H1 T1 g1 f1 h1 y1 => ?_)
  obtain ⟨d, e, y3⟩ := opE_some y1
  refine v S1 H1 ds vs T1 Q f1.sd h1 ⟨d, e, fun w S3 H3 T3 g3 h3 f3 => ?_⟩
  obtain ⟨a1, a2, a3⟩ := own_end (T1 := []) (go_side g1 F) (x.ext0 g1 f1) g3 f3
  exact y3 w S3 H3 F T3 a1 a2 h3 a3
variable {x : Str} {p : Pos} {id T0 : String} {q : List V → Hp → VK → Prop} {g : List D → Option D}
theorem de_callB {A : Env → Res (List D)} (hc : CallR X (.builtin id) q) (v : VL X.K q g) (hg : Gl X x) (hm : X.mg x = none) (hv : bootBuiltins x = some (.builtin id)) (ha : DA X W (e :: es) A) (hn : x ≠ "__name__" := by decide) (hdb : (x == ("__debug__" : Str)) = false := by decide)
    (hs : starEach (e :: es) X.env = (false, eval e X.env) :: starEach es X.env := by rfl) (hp : (backTo pos (starEach es X.env)).any (·.1) = false := by rfl) :
    DE X W (.Call (.Name x p) (e :: es) [] pos) (fun r => (A r).bind (opE g)) := by
  obtain ⟨t, h, z⟩ := ha
  exact ⟨_, pe_callB hc hg hm hv h hn hdb hs hp, RdL.ee v z⟩
theorem dp_callB {A : Env → PR (List D)} (hc : CallR X (.builtin id) q) (v : VL X.K q g) (hg : Gl X x) (hm : X.mg x = none) (hv : bootBuiltins x = some (.builtin id)) (ha : DPA X W (e :: es) A) (hn : x ≠ "__name__" := by decide) (hdb : (x == ("__debug__" : Str)) = false := by decide)
    (hs : starEach (e :: es) X.env = (false, eval e X.env) :: starEach es X.env := by rfl) (hp : (backTo pos (starEach es X.env)).any (·.1) = false := by rfl) :
    DP X W (.Call (.Name x p) (e :: es) [] pos) (fun r => (A r).bind (opP g)) := by
  obtain ⟨t, h, z⟩ := ha
  exact ⟨_, pe_callB hc hg hm hv h hn hdb hs hp, RdL.pp v z⟩
theorem dpe_callB {A : Env → PR (List D)} (hc : CallR X (.builtin id) q) (v : VL X.K q g) (hg : Gl X x) (hm : X.mg x = none) (hv : bootBuiltins x = some (.builtin id)) (ha : DPA X W (e :: es) A) (hn : x ≠ "__name__" := by decide) (hdb : (x == ("__debug__" : Str)) = false := by decide)
    (hs : starEach (e :: es) X.env = (false, eval e X.env) :: starEach es X.env := by rfl) (hp : (backTo pos (starEach es X.env)).any (·.1) = false := by rfl) :
    DE X W (.Call (.Name x p) (e :: es) [] pos) (fun r => ((A r).up r).bind (opE g)) := by
  obtain ⟨t, h, z⟩ := ha
  exact ⟨_, pe_callB hc hg hm hv h hn hdb hs hp, RdL.pe v z⟩
theorem de_callT {A : Env → Res (List D)} (hc : CallR X (.type T0) q) (v : VL X.K q g) (hg : Gl X x) (hm : X.mg x = none) (hv : bootBuiltins x = some (.type T0)) (ha : DA X W (e :: es) A) (hn : x ≠ "__name__" := by decide) (hdb : (x == ("__debug__" : Str)) = false := by decide)
    (hs : starEach (e :: es) X.env = (false, eval e X.env) :: starEach es X.env := by rfl) (hp : (backTo pos (starEach es X.env)).any (·.1) = false := by rfl) :
    DE X W (.Call (.Name x p) (e :: es) [] pos) (fun r => (A r).bind (opE g)) := by
  obtain ⟨t, h, z⟩ := ha
  exact ⟨_, pe_callTy hc hg hm hv h hn hdb hs hp, RdL.ee v z⟩
theorem dp_callT {A : Env → PR (List D)} (hc : CallR X (.type T0) q) (v : VL X.K q g) (hg : Gl X x) (hm : X.mg x = none) (hv : bootBuiltins x = some (.type T0)) (ha : DPA X W (e :: es) A) (hn : x ≠ "__name__" := by decide) (hdb : (x == ("__debug__" : Str)) = false := by decide)
    (hs : starEach (e :: es) X.env = (false, eval e X.env) :: starEach es X.env := by rfl) (hp : (backTo pos (starEach es X.env)).any (·.1) = false := by rfl) :
    DP X W (.Call (.Name x p) (e :: es) [] pos) (fun r => (A r).bind (opP g)) := by
  obtain ⟨t, h, z⟩ := ha
  exact ⟨_, pe_callTy hc hg hm hv h hn hdb hs hp, RdL.pp v z⟩
theorem dpe_callT {A : Env → PR (List D)} (hc : CallR X (.type T0) q) (v : VL X.K q g) (hg : Gl X x) (hm : X.mg x = none) (hv : bootBuiltins x = some (.type T0)) (ha : DPA X W (e :: es) A) (hn : x ≠ "__name__" := by decide) (hdb : (x == ("__debug__" : Str)) = false := by decide)
    (hs : starEach (e :: es) X.env = (false, eval e X.env) :: starEach es X.env := by rfl) (hp : (backTo pos (starEach es X.env)).any (·.1) = false := by rfl) :
    DE X W (.Call (.Name x p) (e :: es) [] pos) (fun r => ((A r).up r).bind (opE g)) := by
  obtain ⟨t, h, z⟩ := ha
  exact ⟨_, pe_callTy hc hg hm hv h hn hdb hs hp, RdL.pe v z⟩
end
end DL

/-! DFn: isinstance; what a def promises, its call; lists changed in place. -/
namespace DL
open PySem PySem.Spec PyProof.Rows L2
/-! ### isinstance -/
inductive Ty where
  | int | bool | str | tuple | list | dict
def Ty.nm : Ty → String
  | .int => "int" | .bool => "bool" | .str => "str" | .tuple => "tuple" | .list => "list" | .dict => "dict"
def D.nm : D → String
  | .non => "NoneType" | .bl _ => "bool" | .int _ => "int" | .str _ => "str" | .tup _ => "tuple" | .lst _ _ => "list" | .scr _ => "list" | .exc _ => ""
def D.isT : Ty → D → Bool
  | .int, .int _ => true
  | .int, .bl _ => true
  | .bool, .bl _ => true
  | .str, .str _ => true
  | .tuple, .tup _ => true
  | .list, .lst _ _ => true
  | .list, .scr _ => true
  | _, _ => false
def D.noX : D → Bool
  | .exc _ => false
  | _ => true
theorem kt_NoneType (t : Ty) : kitB "NoneType" t.nm = some (match t with | _ => false) := by cases t <;> decide +kernel
theorem kt_bool (t : Ty) : kitB "bool" t.nm = some (match t with | .int => true | .bool => true | _ => false) := by cases t <;> decide +kernel
theorem kt_int (t : Ty) : kitB "int" t.nm = some (match t with | .int => true | _ => false) := by cases t <;> decide +kernel
theorem kt_str (t : Ty) : kitB "str" t.nm = some (match t with | .str => true | _ => false) := by cases t <;> decide +kernel
theorem kt_tuple (t : Ty) : kitB "tuple" t.nm = some (match t with | .tuple => true | _ => false) := by cases t <;> decide +kernel
theorem kt_list (t : Ty) : kitB "list" t.nm = some (match t with | .list => true | _ => false) := by cases t <;> decide +kernel
theorem isT_kit (t : Ty) (d : D) (h : d.noX = true) : kitB d.nm t.nm = some (D.isT t d) := by
  cases d with
  | non => exact (kt_NoneType t).trans (by cases t <;> rfl)
  | bl b => exact (kt_bool t).trans (by cases t <;> rfl)
  | int b => exact (kt_int t).trans (by cases t <;> rfl)
  | str b => exact (kt_str t).trans (by cases t <;> rfl)
  | tup b => exact (kt_tuple t).trans (by cases t <;> rfl)
  | lst o b => exact (kt_list t).trans (by cases t <;> rfl)
  | scr b => exact (kt_list t).trans (by cases t <;> rfl)
  | exc c => cases h
section
variable {K : PySem.W.Frag} {S : Addr → Prop} {H : Hp} {T : Fp}
theorem Rep.ty {d : D} {v : V} (n : d.noX = true) (h : Rep K S H d v T) : TyX K H v (.type d.nm) := by
  cases d with
  | non => rw [h.1]; exact .base .non
  | bl b => rw [h.1]; exact .base (.bl b)
  | int b => rw [h.1]; exact .base (.int b)
  | str b => rw [h.1]; exact .base (.str b)
  | tup ds =>
    obtain ⟨a, vs, rfl, q, _⟩ := h
    rcases q with (q | ⟨o, q⟩) | ⟨o, its, n, q, c, _⟩
    · exact .base (.tup q)
    · exact .fTuple q
    · exact .kTuple q c
  | lst o ds =>
    cases o with
    | true => obtain ⟨a, vs, G, rfl, q, _⟩ := h; exact .base (.lst q)
    | false => obtain ⟨_, a, vs, rfl, q, _⟩ := h; exact .base (.lst q.1)
  | scr ns =>
    obtain ⟨_, a, rfl, q⟩ := h
    rcases q with ⟨o, q⟩ | ⟨o, its, n, q, c, _⟩
    · exact .base (.frz q)
    · exact .kList q c
  | exc c => cases n
end
def dIsi (t : Ty) (d : D) : Option D := if d.noX = true then some (.bl (D.isT t d)) else none
section
variable {X : Cx} {W : WX} {e a b c : Expr} {es : List Expr} {S S' S1 : Addr → Prop} {H H' H1 : Hp} {F F' F1 T : Fp} {σ : L2.St} {r : Env} {pos p p2 : Pos} {x : Str}
theorem dp_isi {A : Env → PR D} (t : Ty) (hg : Gl X "isinstance") (hm : X.mg "isinstance" = none) (hgT : Gl X x) (hmT : X.mg x = none) (hbT : bootBuiltins x = some (.type t.nm)) (ha : DP X W e A) (hn : x ≠ "__name__" := by decide) (hd : (x == ("__debug__" : Str)) = false := by decide)
    (hs : starEach [e, .Name x p2] X.env = (false, eval e X.env) :: starEach [.Name x p2] X.env := by rfl) (hs2 : starEach [.Name x p2] X.env = (false, eval (.Name x p2) X.env) :: starEach [] X.env := by rfl)
    (hp : (backTo pos (starEach [.Name x p2] X.env)).any (·.1) = false := by rfl) : DP X W (.Call (.Name "isinstance" p) [e, .Name x p2] [] pos) (fun r => (A r).bind (opP (dIsi t))) := by
  obtain ⟨q, h, z⟩ := ha
  have pc : PE X (.Name x p2) (tC (.ty t.nm)) := pe_bltn hgT hmT hbT (show RelV (.ty t.nm) (.type t.nm) from rfl) hn hd
  refine ⟨_, pe_callB call_isi hg hm PyProof.Rows.boot_isinstance (pa_cons h (pa_cons pc pa_nil hs2) hs) (by decide) (by decide) hs hp, fun S H r σ F Q x y => ?_⟩
  refine z S H r σ F _ x (PP1.bind (Go.refl _ _ _) y fun d v S1 H1 T1 g1 f1 h1 y1 => ?_)
  obtain ⟨d', e', y2⟩ := opP_some y1
  unfold dIsi at e'
  split at e'
  · rename_i n
    cases e'
    exact ⟨v, .ty t.nm, .type d.nm, .type t.nm, D.isT t d, rfl, .ty _, h1.ty n, kit_ty (isT_kit t d n), y2 _ S1 H1 [] g1 f1 ⟨rfl, rfl⟩⟩
  · cases e'
/-! ### promises of defs -/
/-- .. of one that changes nothing that it is handed -/
def spD (K : PySem.W.Frag) (mg : Str → Option Value) (n : Nat) (m : List D → PR D) : Sp := fun vs H Q E => vs.length = n ∧ ∃ S ds T, RepL K S H ds vs T ∧ Ft S H T ∧ match m ds with
  | .ok d => ∀ v S' H' T', Go S H T S' H' T' → Rep K S' H' d v T' → Ft S' H' T' → Q v H'
  | .exc c => ∀ S' H', Go S H T S' H' [] → Ft S' H' [] → E (clsV mg c) none H'
  | .stk => False
inductive MR where
  | ok (d o : D)
  | exc (c : Str) (o : D)
  | stk
/-- .. of one that may change its first argument -/
def spM (K : PySem.W.Frag) (mg : Str → Option Value) (n : Nat) (m : List D → MR) : Sp := fun vs H Q E => vs.length = n ∧ 0 < n ∧ ∃ S ds T, RepL K S H ds vs T ∧ Ft S H T ∧ match m ds with
  | .ok d o => ∀ v S' H' T1 T2, Go S H T S' H' (T1 ++ T2) → Rep K S' H' d v T1 → Rep K S' H' o (vs.getD 0 .non) T2 → Ft S' H' (T1 ++ T2) → Q v H'
  | .exc c o => ∀ S' H' T2, Go S H T S' H' T2 → Rep K S' H' o (vs.getD 0 .non) T2 → Ft S' H' T2 → E (clsV mg c) none H'
  | .stk => False
abbrev FnD (P : Program) (w : World) (K : PySem.W.Frag) (mg : Str → Option Value) (base : Heap) (k : Nat) (f : Addr) (fd : FuncData) (ps : List Str) (m : List D → PR D) : Prop := FnOk P w K mg base (L2.CX P w) k f fd ps (spD K mg ps.length m)
abbrev FnM (P : Program) (w : World) (K : PySem.W.Frag) (mg : Str → Option Value) (base : Heap) (k : Nat) (f : Addr) (fd : FuncData) (ps : List Str) (m : List D → MR) : Prop := FnOk P w K mg base (L2.CX P w) k f fd ps (spM K mg ps.length m)
def callE (n : Nat) (m : List D → PR D) (ds : List D) (r : Env) : Res D := if ds.length = n then (m ds).up r else .stk
variable {k : Nat} {f : Addr} {fd : FuncData} {ps : List Str}
theorem de_call {m : List D → PR D} {A : Env → Res (List D)} (tk : Takes X W) (G : FnD X.prog X.w X.K X.mg X.base k f fd ps m) (hr : Room k X.A) (hg : Gl X x) (hm : X.mg x = some (.ref f)) (hk : PySem.W.keepIn X.K (.ref f) = true) (hb : Binds X.K fd ps [])
    (ha : DA X W (e :: es) A) (hdb : (x == ("__debug__" : Str)) = false := by decide) (he : starEach (e :: es) X.env = (false, eval e X.env) :: starEach es X.env := by rfl) (hpl : (backTo pos (starEach es X.env)).any (·.1) = false := by rfl) :
    DE X W (.Call (.Name x p) (e :: es) [] pos) (fun r => (A r).bind (callE ps.length m)) := by
  obtain ⟨t, h, z⟩ := ha
  refine ⟨_, pe_callS G hr hg hm hk hb (fun σ => passAt tk σ) h hdb he hpl, fun S H r σ F Q x y => ?_⟩
  refine z S H r σ F _ x (EP1.bind (Go.refl _ _ _) y fun ds r1 vs S1 H1 F1 T1 g1 x1 h1 f1 y0 => ?_)
  unfold callE at y0
  split at y0
  · rename_i hl
    have y1 : EP1 (Rep X.K) X W S H F σ Q ((m ds).up r1) := y0
    refine ⟨by rw [← h1.len]; exact hl, S1, ds, T1, h1, f1.left, ?_⟩
    cases em : m ds with
    | stk => rw [em] at y1; exact y1
    | exc c =>
      rw [em] at y1
      intro S2 H2 g2 f2
      have g3 : Go S1 H1 (T1 ++ F1) S2 H2 F1 := by simpa using g2.frameR F1
      refine y1 S2 H2 F1 (g1.trans g3) (x1.go g2 f1.left (fun b hb hc => f1.apart b hc hb) ?_)
      have := Ft.frame (T := F1) (F := T1) f1.comm g2 f2
      simpa using this
    | ok d =>
      rw [em] at y1
      intro v S2 H2 T2 g2 h2 f2
      have g3 : Go S1 H1 (T1 ++ F1) S2 H2 (T2 ++ F1) := g2.frameR F1
      have f3 : Ft S2 H2 (F1 ++ T2) := Ft.frame (T := F1) (F := T1) f1.comm g2 f2
      exact y1 v S2 H2 F1 T2 (g1.trans g3) (x1.go g2 f1.left (fun b hb hc => f1.apart b hc hb) f3.left) h2 f3.comm
  · exact y0.elim
/-- on shared arguments: pure -/
def callP (n : Nat) (m : List D → PR D) (ds : List D) : PR D := if ds.length = n ∧ D.shL ds = true then m ds else .stk
theorem RdC.pp {m : List D → PR D} {t : TA} {A : Env → PR (List D)} {E : L2.St → XK} (hE : ∀ σ c d H, W c d σ H → E σ c d H) (z : ∀ S H r σ F Q, At X.K S H r σ F → PP1 (RepL X.K) X W S H σ Q (A r) → t σ H Q) :
    RdP X W (tCallS (spD X.K X.mg ps.length m) E t) (fun r => (A r).bind (callP ps.length m)) := by
  intro S H r σ F Q x y
  refine z S H r σ F _ x (PP1.bind (Go.refl _ _ _) y fun ds vs S1 H1 T1 g1 f1 h1 y1 => ?_)
  unfold callP at y1
  split at y1
  · rename_i c
    have eT : T1 = [] := RepL.sh ds vs T1 c.2 h1
    subst eT
    refine ⟨by rw [← h1.len]; exact c.1, S1, ds, [], h1, f1, ?_⟩
    cases em : m ds with
    | stk => rw [em] at y1; exact y1
    | exc c => rw [em] at y1; exact fun S2 H2 g2 f2 => hE _ _ _ _ (y1 S2 H2 (g1.trans g2) f2)
    | ok d => rw [em] at y1; exact fun v S2 H2 T2 g2 h2 f2 => y1 v S2 H2 T2 (g1.trans (g2.sub fun _ z => nomatch z)) (Ft.nil f2.sd) h2
  · exact y1.elim
theorem RdC.pe {m : List D → PR D} {t : TA} {A : Env → PR (List D)} {E : L2.St → XK} (hE : ∀ σ c d H, W c d σ H → E σ c d H) (z : ∀ S H r σ F Q, At X.K S H r σ F → PP1 (RepL X.K) X W S H σ Q (A r) → t σ H Q) :
    RdE X W (tCallS (spD X.K X.mg ps.length m) E t) (fun r => ((A r).bind (callP ps.length m)).up r) := by
  intro S H r σ F Q x y
  have y : EP1 (Rep X.K) X W S H F σ Q (((A r).bind (callP ps.length m)).up r) := y
  refine z S H r σ F _ x ?_
  cases eA : A r with
  | stk => rw [eA] at y; exact y
  | exc c => rw [eA] at y; exact fun S' H' g f => y S' H' F (go_side g F) (x.ext0 g f)
  | ok ds =>
    rw [eA] at y
    intro vs S1 H1 T1 g1 f1 h1
    have y1 : EP1 (Rep X.K) X W S H F σ Q ((callP ps.length m ds).up r) := y
    unfold callP at y1
    split at y1
    · rename_i c
      have eT : T1 = [] := RepL.sh ds vs T1 c.2 h1
      subst eT
      refine ⟨by rw [← h1.len]; exact c.1, S1, ds, [], h1, f1, ?_⟩
      have x1 := x.ext0 g1 f1
      cases em : m ds with
      | stk => rw [em] at y1; exact y1
      | exc c => rw [em] at y1; exact fun S2 H2 g2 f2 => hE _ _ _ _ (y1 S2 H2 F (go_side (g1.trans g2) F) (x1.ext0 g2 f2))
      | ok d =>
        rw [em] at y1
        intro v S2 H2 T2 g2 h2 f2
        obtain ⟨a1, a2, a3⟩ := own_end (T1 := []) (go_side g1 F) x1 g2 f2
        exact y1 v S2 H2 F T2 a1 a2 h2 a3
    · exact y1.elim
theorem dp_call {m : List D → PR D} {A : Env → PR (List D)} (tk : Takes X W) (G : FnD X.prog X.w X.K X.mg X.base k f fd ps m) (hr : Room k X.A) (hg : Gl X x) (hm : X.mg x = some (.ref f)) (hk : PySem.W.keepIn X.K (.ref f) = true) (hb : Binds X.K fd ps [])
    (ha : DPA X W (e :: es) A) (hdb : (x == ("__debug__" : Str)) = false := by decide) (he : starEach (e :: es) X.env = (false, eval e X.env) :: starEach es X.env := by rfl) (hpl : (backTo pos (starEach es X.env)).any (·.1) = false := by rfl) :
    DP X W (.Call (.Name x p) (e :: es) [] pos) (fun r => (A r).bind (callP ps.length m)) := by
  obtain ⟨t, h, z⟩ := ha
  exact ⟨_, pe_callS G hr hg hm hk hb (fun σ => passAt tk σ) h hdb he hpl, RdC.pp (fun _ _ _ _ h => h) z⟩
theorem dpe_call {m : List D → PR D} {A : Env → PR (List D)} (tk : Takes X W) (G : FnD X.prog X.w X.K X.mg X.base k f fd ps m) (hr : Room k X.A) (hg : Gl X x) (hm : X.mg x = some (.ref f)) (hk : PySem.W.keepIn X.K (.ref f) = true) (hb : Binds X.K fd ps [])
    (ha : DPA X W (e :: es) A) (hdb : (x == ("__debug__" : Str)) = false := by decide) (he : starEach (e :: es) X.env = (false, eval e X.env) :: starEach es X.env := by rfl) (hpl : (backTo pos (starEach es X.env)).any (·.1) = false := by rfl) :
    DE X W (.Call (.Name x p) (e :: es) [] pos) (fun r => ((A r).bind (callP ps.length m)).up r) := by
  obtain ⟨t, h, z⟩ := ha
  exact ⟨_, pe_callS G hr hg hm hk hb (fun σ => passAt tk σ) h hdb he hpl, RdC.pe (fun _ _ _ _ h => h) z⟩
end
end DL

/-! DMut: what a name owns, changed in place: a call that changes its first argument, append, pop, a place stored. -/
namespace DL
open PySem PySem.Spec PyProof.Rows L2
section
variable {X : Cx} {W : WX} {K : PySem.W.Frag} {e a b c : Expr} {es : List Expr} {S S' S1 : Addr → Prop} {H H' H1 : Hp} {F F' F1 T : Fp} {σ : L2.St} {r : Env} {pos p p2 apos : Pos} {x : Str}
theorem upd_go {a : Addr} {o o' : HO} (sd : ∀ a, S a → H a ≠ none) (h : H a = some o) : Go S H [a] S (upd H a o') [a] := by
  refine ⟨fun _ z => z, fun b u e n => ?_, fun b q => ?_, fun b z => .inl z, fun b z => .inl z⟩
  · rw [upd_ne (fun z => n (by simp [z]))]; exact e
  · by_cases z : b = a
    · subst z; rw [upd_same]; simp
    · rw [upd_ne z]; exact q
theorem upd_sd {a : Addr} {o' : HO} (sd : ∀ a, S a → H a ≠ none) : ∀ b, S b → upd H a o' b ≠ none := sd_new sd
/-- a list that a name owns, changed: the items' footprint G' stays with it, T' goes out -/
theorem At.upd (q : At K S H r σ F) {i : Nat} {ds : List D} (e : r[i]? = some (some (.lst true ds))) : ∃ a vs G F0, σ[i]? = some (some (.ref a)) ∧ H a = some (.lst vs) ∧ RepL K S H ds vs G ∧ At K S H (r.set i none) σ F0 ∧ Ft S H ((a :: G) ++ F0) ∧ (∀ b, b ∈ (a :: G) ++ F0 ↔ b ∈ F) ∧
    ∀ ds' vs' G' T', RepL K S H ds' vs' G' → Ft S H (a :: ((T' ++ G') ++ F0)) → ∃ F', At K S (L2.upd H a (.lst vs')) (r.set i (some (.lst true ds'))) σ F' ∧ (∀ b ∈ F', b ∈ (a :: G') ++ F0) ∧ Ft S (L2.upd H a (.lst vs')) (T' ++ F') ∧ ∀ d v, Rep K S H d v T' → Rep K S (L2.upd H a (.lst vs')) d v T' := by
  have l : i < r.length := (List.getElem?_eq_some_iff.mp e).1
  obtain ⟨v, T, F0, h1, h2, h3, h4, h5⟩ := q.take e
  obtain ⟨a, vs, G, rfl, ha, rfl, rl⟩ := h2
  refine ⟨a, vs, G, F0, h1, ha, rl, h3, h4, h5, fun ds' vs' G' T' rl' f => ?_⟩
  have sd := q.ft.sd
  have na : ∀ b ∈ (T' ++ G') ++ F0, b ∉ [a] := fun b z y => by
    have : b = a := by simpa using y
    subst this
    exact (List.nodup_cons.mp f.nd).1 z
  have fa : Ft S H [a] := (show Ft S H ([a] ++ ((T' ++ G') ++ F0)) from f).left
  have g : Go S H [a] S (L2.upd H a (.lst vs')) [a] := upd_go sd ha
  have fa' : Ft S (L2.upd H a (.lst vs')) [a] := ⟨by simp, fa.dj, fun b z => by
    have : b = a := by simpa using z
    subst this; rw [upd_same]; trivial, sd_new sd⟩
  have all := Ft.frame (T := (T' ++ G') ++ F0) (F := [a]) ((show Ft S H ([a] ++ ((T' ++ G') ++ F0)) from f).comm) g fa'
  have x0 : At K S (L2.upd H a (.lst vs')) (r.set i none) σ F0 := h3.go g fa (fun b z => na b (by simp [z])) (all.left.right)
  have rl2 : RepL K S (L2.upd H a (.lst vs')) ds' vs' G' := RepL.go g fa ds' vs' G' (fun b z => na b (by simp [z])) rl'
  have rp : Rep K S (L2.upd H a (.lst vs')) (.lst true ds') (.ref a) (a :: G') := ⟨a, vs', G', rfl, upd_same, rfl, rl2⟩
  have pm : (((T' ++ G') ++ F0) ++ [a]).Perm (T' ++ ((a :: G') ++ F0)) := by
    rw [List.append_assoc, List.append_assoc]
    refine List.Perm.append_left T' ?_
    rw [← List.append_assoc]
    exact List.perm_append_comm
  have all2 := all.perm pm
  obtain ⟨F', y1, y2⟩ := x0.back (i := i) (d := .lst true ds') (T := a :: G') (by simpa using l) h1 rp all2.right
  rw [List.set_set] at y1
  refine ⟨F', y1, y2, ⟨List.nodup_append.mpr ⟨all2.left.nd, y1.ft.nd, fun b z c y e => ?_⟩, fun b z => ?_, fun b z => ?_, sd_new sd⟩, fun d v z => Rep.go g fa d v T' (fun b z => na b (by simp [z])) z⟩
  · subst e
    exact all2.apart b z (y2 b y)
  · rcases List.mem_append.mp z with z | z
    · exact all2.left.dj b z
    · exact y1.ft.dj b z
  · rcases List.mem_append.mp z with z | z
    · exact all2.left.mu b z
    · exact y1.ft.mu b z
/-- .. as a step -/
theorem At.upd_go {a : Addr} {G G' T' F0 : Fp} {vs vs' : List V} {F' : Fp} (sd : ∀ a, S a → H a ≠ none) (ha : H a = some (.lst vs)) (h5 : ∀ b, b ∈ (a :: G) ++ F0 ↔ b ∈ F) (hG : ∀ b ∈ T' ++ G', b ∈ G ++ T) (y2 : ∀ b ∈ F', b ∈ (a :: G') ++ F0) : Go S H (T ++ F) S (L2.upd H a (.lst vs')) (T' ++ F') := by
  have g : Go S H [a] S (L2.upd H a (.lst vs')) [a] := DL.upd_go sd ha
  have aF : a ∈ F := (h5 a).mp (by simp)
  have aTF : ∀ c ∈ [a], c ∈ T ++ F := fun c z => by
    have : c = a := by simpa using z
    subst this
    simp [aF]
  have g2 := g.wide (F2 := T ++ F) aTF
  refine ⟨g2.sS, g2.fr, g2.dom, fun b z => .inl ?_, g2.newS⟩
  have inG : ∀ b, b ∈ G → b ∈ F := fun b z => (h5 b).mp (by simp [z])
  have inF0 : ∀ b, b ∈ F0 → b ∈ F := fun b z => (h5 b).mp (by simp [z])
  have tg : ∀ b, b ∈ G ++ T → b ∈ T ++ F := fun b z => by
    rcases List.mem_append.mp z with z | z
    · exact List.mem_append_right _ (inG b z)
    · exact List.mem_append_left _ z
  rcases List.mem_append.mp z with z | z
  · exact tg b (hG b (List.mem_append_left _ z))
  · rcases List.mem_append.mp (y2 b z) with z | z
    · rcases List.mem_cons.mp z with z | z
      · subst z; exact List.mem_append_right _ aF
      · exact tg b (hG b (List.mem_append_right _ z))
    · exact List.mem_append_right _ (inF0 b z)
/-! ### x.append(e), x.pop() -/
def isL (o : Option (Option D)) : Bool := match o with
  | some (some (.lst _ _)) => true
  | _ => false
theorem tyV_lst {o : Bool} {ds : List D} {v : V} {T : Fp} (h : Rep K S H (.lst o ds) v T) : tyV K "list" v H := by
  cases o with
  | true => obtain ⟨a, vs, G, rfl, q, _⟩ := h; exact .inl ⟨rfl, vs, .inl (.inl q)⟩
  | false => obtain ⟨_, a, vs, rfl, q, _⟩ := h; exact .inl ⟨rfl, vs, q.read⟩
theorem At.isL (q : At K S H r σ F) {i : Nat} (h : isL r[i]? = true) : ∃ v, σ[i]? = some (some v) ∧ tyV K "list" v H := by
  unfold DL.isL at h
  split at h
  · rename_i o ds e
    obtain ⟨v, T, h1, h2, _⟩ := q.get e
    exact ⟨v, h1, tyV_lst h2⟩
  · cases h
def appE (i : Nat) (d : D) (r : Env) : Res D := match r[i]? with
  | some (some (.lst true ds)) => if ds.length < sizeLine then .ok .non (r.set i (some (.lst true (ds ++ [d])))) else .stk
  | _ => .stk
theorem de_append (i : Nat) {E : Env → Res D} (he : DE X W e E) (hN : X.N[i]? = some x := by rfl) (hv : Vis X.env.scope x := by first | exact Or.inl rfl | exact Or.inr (Or.inl rfl) | exact Or.inr (Or.inr rfl))
    (hd : (x == ("__debug__" : Str)) = false := by decide) (hcd : (x == ("__classdict__" : Str)) = false := by decide)
    (hbase : attributeBase (.Name x p) "append" X.env (eval (.Name x p) X.env) = eval (.Name x p) X.env := by rfl)
    (hfew : ((backTo pos (starEach [e] X.env)).all (fun x => !x.1) && (backToKw pos (keywordEach [] X.env)).all (fun x => x.1.isSome)
      && decide ([e].length + ([] : List Keyword).length + (if ([] : List Keyword).isEmpty then 0 else 1) < 30)) = true := by rfl)
    (hline : (apos.endLine == pos.line) = true := by rfl) (hs : starEach [e] X.env = (false, eval e X.env) :: starEach [] X.env := by rfl) (hplain : (backTo pos (starEach [] X.env)).any (·.1) = false := by rfl) :
    DE X W (.Call (.Attribute (.Name x p) "append" apos) [e] [] pos) (fun r => if isL r[i]? = true then (E r).bind (appE i) else .stk) := by
  obtain ⟨t, h, z⟩ := he
  refine ⟨_, pe_bm PySem.F.plainAttrs_list PySem.F.slot_list_append PySem.F.type_list_append mt_append (pe_var hN hv hd hcd) (pa_cons h pa_nil hs) hbase hfew hline hs hplain, fun S H r σ F Q q y => ?_⟩
  have y : EP1 (Rep X.K) X W S H F σ Q (if isL r[i]? = true then (E r).bind (appE i) else .stk) := y
  by_cases hl : isL r[i]? = true
  · rw [if_pos hl] at y
    obtain ⟨v, hv1, hv2⟩ := q.isL hl
    refine ⟨v, hv1, hv2, z S H r σ F _ q (EP1.bind (Go.refl _ _ _) y fun d r1 w S1 H1 F1 T1 g1 q1 h1 f1 y1 => ?_)⟩
    unfold appE at y1
    split at y1
    · rename_i ds e1
      split at y1
      · rename_i hz
        obtain ⟨a, vs, G, F0, s1, ha, rl, x0, f0, m0, k⟩ := q1.upd e1
        rw [hv1] at s1
        cases s1
        have pm : (a :: ((G ++ T1) ++ F0)).Perm (T1 ++ ((a :: G) ++ F0)) := by
          have : ((a :: G) ++ (T1 ++ F0)).Perm (T1 ++ ((a :: G) ++ F0)) := List.perm_append_comm_assoc (a :: G) T1 F0
          simpa [List.append_assoc] using this
        have f2 : Ft S1 H1 (a :: (([] ++ (G ++ T1)) ++ F0)) := by
          refine ⟨?_, fun b z => ?_, fun b z => ?_, f1.sd⟩
          · have := pm.nodup_iff.mpr (List.nodup_append.mpr ⟨f1.left.nd, f0.nd, fun b z c y e => by subst e; exact f1.apart b z ((m0 b).mp y)⟩)
            simpa using this
          · have z' := pm.mem_iff.mp (by simpa using z)
            rcases List.mem_append.mp z' with z' | z'
            · exact f1.left.dj b z'
            · exact f0.dj b z'
          · have z' := pm.mem_iff.mp (by simpa using z)
            rcases List.mem_append.mp z' with z' | z'
            · exact f1.left.mu b z'
            · exact f0.mu b z'
        obtain ⟨F', k1, k2, k3, _⟩ := k (ds ++ [d]) (vs ++ [w]) (G ++ T1) [] (rl.append (RepL.one h1)) f2
        refine ⟨a, vs, w, rfl, rfl, ha, by rw [← rl.len]; exact hz, y1 .non S1 _ F' [] (g1.trans ?_) k1 ⟨rfl, rfl⟩ k3⟩
        exact At.upd_go (T := T1) (G := G) f1.sd ha m0 (fun b z => by simpa using z) k2
      · exact y1.elim
    · exact y1.elim
  · rw [if_neg hl] at y
    exact y.elim
theorem RepL.last {ds : List D} {vs : List V} {d : D} (h : RepL K S H (ds ++ [d]) vs T) : ∃ ws w G1 G2, vs = ws ++ [w] ∧ T = G1 ++ G2 ∧ RepL K S H ds ws G1 ∧ Rep K S H d w G2 := by
  induction ds generalizing vs T with
  | nil =>
    obtain ⟨v, t, F1, F2, e1, e2, h1, h2, h3⟩ := h
    subst h2 h3 e1 e2
    exact ⟨[], v, [], F1, rfl, by simp, ⟨rfl, rfl⟩, h1⟩
  | cons d0 ds ih =>
    obtain ⟨v, t, F1, F2, e1, e2, h1, h2⟩ := h
    obtain ⟨ws, w, G1, G2, e3, e4, h3, h4⟩ := ih h2
    subst e1 e2 e3 e4
    exact ⟨v :: ws, w, F1 ++ G1, G2, rfl, by simp, ⟨v, ws, F1, G1, rfl, rfl, h1, h3⟩, h4⟩
def popE (i : Nat) (r : Env) : Res D := match r[i]? with
  | some (some (.lst true ds)) => match ds.getLast? with
    | some d => .ok d (r.set i (some (.lst true ds.dropLast)))
    | none => .stk
  | _ => .stk
theorem de_pop (i : Nat) (hN : X.N[i]? = some x := by rfl) (hv : Vis X.env.scope x := by first | exact Or.inl rfl | exact Or.inr (Or.inl rfl) | exact Or.inr (Or.inr rfl))
    (hd : (x == ("__debug__" : Str)) = false := by decide) (hcd : (x == ("__classdict__" : Str)) = false := by decide)
    (hbase : attributeBase (.Name x p) "pop" X.env (eval (.Name x p) X.env) = eval (.Name x p) X.env := by rfl) (hline : (apos.endLine == pos.line) = true := by rfl) :
    DE X W (.Call (.Attribute (.Name x p) "pop" apos) [] [] pos) (popE i) := by
  refine ⟨_, pe_bm0 PySem.F.plainAttrs_list PySem.F.slot_list_pop PySem.F.type_list_pop mt_pop (pe_var hN hv hd hcd) hbase hline, fun S H r σ F Q q y => ?_⟩
  unfold popE at y
  split at y
  · rename_i ds e1
    split at y
    · rename_i d e2
      obtain ⟨a, vs, G, F0, s1, ha, rl, x0, f0, m0, k⟩ := q.upd e1
      have eds : ds = ds.dropLast ++ [d] := by
        have hne : ds ≠ [] := fun z => by rw [z] at e2; cases e2
        rw [List.getLast?_eq_some_getLast hne] at e2
        cases e2
        exact (List.dropLast_concat_getLast hne).symm
      rw [eds] at rl
      obtain ⟨ws, w, G1, G2, e3, e4, h3, h4⟩ := rl.last
      subst e3 e4
      have pm : (a :: ((G2 ++ G1) ++ F0)).Perm ((a :: (G1 ++ G2)) ++ F0) := by
        refine List.Perm.cons a (List.Perm.append_right F0 List.perm_append_comm)
      obtain ⟨F', k1, k2, k3, k4⟩ := k ds.dropLast ws G1 G2 h3 (f0.perm pm.symm)
      refine ⟨.ref a, s1, tyV_lst (o := true) (ds := ds) (T := a :: (G1 ++ G2)) ⟨a, _, _, rfl, ha, rfl, by rw [eds]; exact rl⟩, a, ws ++ [w], w, rfl, rfl, ha, by simp, ?_⟩
      rw [List.dropLast_concat]
      exact y w S _ F' G2 (by simpa using At.upd_go (T := []) (G := G1 ++ G2) (T' := G2) (G' := G1) q.ft.sd ha m0 (fun b z => by simp only [List.mem_append] at z ⊢; rcases z with z | z <;> simp [z]) k2) k1 (k4 d w h4) k3
    · exact y.elim
  · exact y.elim
/-! ### a call that changes its first argument, a name's own -/
def callME (n : Nat) (m : List D → MR) (i : Nat) (ds : List D) (r : Env) : Res D := match r[i]? with
  | some (some d0) => if ds.length + 1 = n then match m (d0 :: ds) with
    | .ok d o => .ok d (r.set i (some o))
    | .exc c o => .exc c (r.set i (some o))
    | .stk => .stk
    else .stk
  | _ => .stk
variable {k : Nat} {f : Addr} {fd : FuncData} {ps : List Str} {y : Str}
theorem de_callM (i : Nat) {m : List D → MR} {A : Env → Res (List D)} (tk : Takes X W) (G : FnM X.prog X.w X.K X.mg X.base k f fd ps m) (hr : Room k X.A) (hg : Gl X x) (hm : X.mg x = some (.ref f)) (hk : PySem.W.keepIn X.K (.ref f) = true) (hb : Binds X.K fd ps [])
    (ha : DA X W es A) (hN : X.N[i]? = some y := by rfl) (hv : Vis X.env.scope y := by first | exact Or.inl rfl | exact Or.inr (Or.inl rfl) | exact Or.inr (Or.inr rfl)) (hdy : (y == ("__debug__" : Str)) = false := by decide) (hcd : (y == ("__classdict__" : Str)) = false := by decide)
    (hdb : (x == ("__debug__" : Str)) = false := by decide) (he : starEach (.Name y p2 :: es) X.env = (false, eval (.Name y p2) X.env) :: starEach es X.env := by rfl) (hpl : (backTo pos (starEach es X.env)).any (·.1) = false := by rfl) :
    DE X W (.Call (.Name x p) (.Name y p2 :: es) [] pos) (fun r => match r[i]? with
      | some (some _) => (A r).bind (callME ps.length m i)
      | _ => .stk) := by
  obtain ⟨t, h, z⟩ := ha
  refine ⟨_, pe_callS G hr hg hm hk hb (fun σ => passAt tk σ) (pa_cons (pe_var hN hv hdy hcd) h he) hdb he hpl, fun S H r σ F Q q w => ?_⟩
  dsimp only at w
  split at w
  · rename_i d00 e00
    obtain ⟨v0, T00, s0, _, _⟩ := q.get e00
    refine ⟨v0, s0, z S H r σ F _ q (EP1.bind (Go.refl _ _ _) w fun ds r1 vs S1 H1 F1 T1 g1 q1 h1 f1 w1 => ?_)⟩
    unfold callME at w1
    split at w1
    · rename_i d0 e0
      split at w1
      · rename_i hl
        obtain ⟨v, T0, F0, s1, h0, x0, f0, m0⟩ := q1.take e0
        rw [s0] at s1
        cases s1
        have li : i < r1.length := (List.getElem?_eq_some_iff.mp e0).1
        have pmem : ∀ b, b ∈ (T0 ++ T1) ++ F0 ↔ b ∈ T1 ++ F1 := fun b => by
          have := m0 b
          simp only [List.mem_append] at this ⊢
          constructor
          · rintro ((z | z) | z)
            · exact .inr (this.mp (.inl z))
            · exact .inl z
            · exact .inr (this.mp (.inr z))
          · rintro (z | z)
            · exact .inl (.inr z)
            · exact (this.mpr z).elim (fun z => .inl (.inl z)) .inr
        have f2 : Ft S1 H1 ((T0 ++ T1) ++ F0) := by
          have nd : (T1 ++ (T0 ++ F0)).Nodup := List.nodup_append.mpr ⟨f1.left.nd, f0.nd, fun b z c y e => by subst e; exact f1.apart b z ((m0 b).mp y)⟩
          have pm : (T1 ++ (T0 ++ F0)).Perm ((T0 ++ T1) ++ F0) := by
            rw [List.append_assoc]
            exact List.perm_append_comm_assoc T1 T0 F0
          exact ⟨pm.nodup_iff.mp nd, fun b z => f1.dj b ((pmem b).mp z), fun b z => f1.mu b ((pmem b).mp z), f1.sd⟩
        refine ⟨by rw [List.length_cons, ← h1.len]; exact hl, by omega, S1, d0 :: ds, T0 ++ T1, ⟨v0, vs, T0, T1, rfl, rfl, h0, h1⟩, f2.left, ?_⟩
        have gw : ∀ {S2 : Addr → Prop} {H2 : Hp} {G2 : Fp}, Go S1 H1 (T0 ++ T1) S2 H2 G2 → Go S H F S2 H2 (G2 ++ F0) := fun g2 => g1.trans ((g2.frameR F0).wide fun b z => (pmem b).mp z)
        cases em : m (d0 :: ds) with
        | stk => rw [em] at w1; exact w1
        | exc c o =>
          rw [em] at w1
          intro S2 H2 T2 g2 h2 f3
          have f4 : Ft S2 H2 (F0 ++ T2) := Ft.frame (T := F0) (F := T0 ++ T1) f2.comm g2 f3
          have x2 : At X.K S2 H2 (r1.set i none) σ F0 := x0.go g2 f2.left (fun b hb hc => f2.apart b hc hb) f4.left
          obtain ⟨F', b1, b2⟩ := x2.back (i := i) (by simpa using li) s0 h2 f4.comm
          rw [List.set_set] at b1
          exact w1 S2 H2 F' ((gw g2).sub b2) b1
        | ok d o =>
          rw [em] at w1
          intro u S2 H2 T2 T3 g2 hu h2 f3
          have f4 : Ft S2 H2 (F0 ++ (T2 ++ T3)) := Ft.frame (T := F0) (F := T0 ++ T1) f2.comm g2 f3
          have x2 : At X.K S2 H2 (r1.set i none) σ F0 := x0.go g2 f2.left (fun b hb hc => f2.apart b hc hb) f4.left
          have f5 : Ft S2 H2 (T2 ++ (T3 ++ F0)) := f4.perm (by rw [← List.append_assoc T2]; exact List.perm_append_comm)
          obtain ⟨F', b1, b2⟩ := x2.back (i := i) (by simpa using li) s0 h2 f5.right
          rw [List.set_set] at b1
          refine w1 u S2 H2 F' T2 ((gw g2).sub fun b z => ?_) b1 hu ⟨List.nodup_append.mpr ⟨f5.left.nd, b1.ft.nd, fun b z c y e => by subst e; exact f5.apart b z (b2 b y)⟩, fun b z => ?_, fun b z => ?_, f5.sd⟩
          · rcases List.mem_append.mp z with z | z
            · simp [z]
            · have := b2 b z
              simp only [List.mem_append] at this ⊢
              rcases this with z | z <;> simp [z]
          · exact (List.mem_append.mp z).elim (f5.left.dj b) (b1.ft.dj b)
          · exact (List.mem_append.mp z).elim (f5.left.mu b) (b1.ft.mu b)
      · exact w1.elim
    · exact w1.elim
  · exact w.elim
end
end DL

/-! DIter: targets, what is walked, comprehensions. -/
namespace DL
open PySem PySem.Spec PyProof.Rows L2
section
variable {X : Cx} {W : WX} {K : PySem.W.Frag} {e a b c tg : Expr} {es : List Expr} {S S' S1 : Addr → Prop} {H H' H1 : Hp} {F F' F1 T : Fp} {σ : L2.St} {r : Env} {pos p p2 : Pos} {x : Str}
/-! ### the reading that is asked of a judgement -/
def tE (X : Cx) (W : WX) (E : Env → Res D) : TE := fun σ H Q => ∃ S r F, At X.K S H r σ F ∧ EP1 (Rep X.K) X W S H F σ Q (E r)
def tT (X : Cx) (W : WX) (E : Env → Res Bool) : TT := fun σ H Q => ∃ S r F, At X.K S H r σ F ∧ EP1 RB X W S H F σ Q (E r)
theorem DE.pe {E : Env → Res D} (h : DE X W e E) : PE X e (tE X W E) := by
  obtain ⟨t, q, z⟩ := h
  exact ⟨fun pins s σ H Q I ⟨S, r, F, x, y⟩ => q.run pins s σ H Q I (z S H r σ F Q x y)⟩
theorem DT.pt {E : Env → Res Bool} (h : DT X W e E) : PT X e (tT X W E) := by
  obtain ⟨t, q, z⟩ := h
  exact ⟨fun pins s σ H Q I ⟨S, r, F, x, y⟩ => q.run pins s σ H Q I (z S H r σ F Q x y)⟩
/-! ### targets: they change the slots ws alone -/
def GP (X : Cx) (ws : List Nat) (G : D → Env → Option Env) (v : V) (S : Addr → Prop) (H : Hp) (r : Env) (σ : L2.St) (F : Fp) (d : D) (T : Fp) (Q : L2.St → Hp → Prop) : Prop :=
  ∃ r', G d r = some r' ∧ ∀ σ' F', At X.K S H r' σ' F' → (∀ b ∈ F', b ∈ T ++ F) → (∀ j, j ∉ ws → σ'[j]? = σ[j]?) → σ'.length = σ.length → Q σ' H
def DG (X : Cx) (ws : List Nat) (tg : Expr) (G : D → Env → Option Env) : Prop := ∃ g, PG X tg g ∧ ∀ S H r σ F d v T Q, At X.K S H r σ F → Rep X.K S H d v T → Ft S H (T ++ F) → GP X ws G v S H r σ F d T Q → g v σ H Q
def tG (X : Cx) (ws : List Nat) (G : D → Env → Option Env) : TG := fun v σ H Q => ∃ S r F d T, At X.K S H r σ F ∧ Rep X.K S H d v T ∧ Ft S H (T ++ F) ∧ GP X ws G v S H r σ F d T Q
theorem DG.pg {ws : List Nat} {G : D → Env → Option Env} (h : DG X ws tg G) : PG X tg (tG X ws G) := by
  obtain ⟨g, q, z⟩ := h
  exact ⟨fun pins s σ H v u Q I rv ⟨S, r, F, d, T, x, y, f, w⟩ => q.run pins s σ H v u Q I rv (z S H r σ F d v T Q x y f w)⟩
def setG (i : Nat) (d : D) (r : Env) : Option Env := if i < r.length then some (r.set i (some d)) else none
theorem dg_name (i : Nat) (hN : X.N.Nodup) (hi : X.N[i]? = some x) (hx : Loc X.env.scope x) (hf : X.fn x = true ∨ X.env.scope.names.lookup x = some .local := by first | exact .inl rfl | exact .inr rfl | assumption) : DG X [i] (.Name x pos) (setG i) := by
  refine ⟨_, pg_name hN hi hx hf, fun S H r σ F d v T Q q h f ⟨r', e, k⟩ => ?_⟩
  unfold setG at e
  split at e
  · rename_i l
    cases e
    obtain ⟨F', y1, y2⟩ := q.put l h f
    exact k _ F' y1 y2 (fun j hj => by rw [List.getElem?_set_ne (fun e => hj (by simp [e]))]) (by simp)
  · cases e
/-- several, for the items of a tuple: all shared -/
def DGs (X : Cx) (ws : List Nat) (ts : List Expr) (G : List D → Env → Option Env) : Prop := ∃ g, PGs X ts g ∧ ∀ S H r σ F ds vs Q, At X.K S H r σ F → RepL X.K S H ds vs [] →
  (∃ r', G ds r = some r' ∧ ∀ σ' F', At X.K S H r' σ' F' → (∀ b ∈ F', b ∈ F) → (∀ j, j ∉ ws → σ'[j]? = σ[j]?) → σ'.length = σ.length → Q σ' H) → g vs σ H Q
def nilG (ds : List D) (r : Env) : Option Env := if ds.length = 0 then some r else none
def consG (G : D → Env → Option Env) (G' : List D → Env → Option Env) (ds : List D) (r : Env) : Option Env := match ds with
  | d :: ds => (G d r).bind fun r1 => G' ds r1
  | [] => none
theorem dgs_nil : DGs X [] [] nilG := by
  refine ⟨_, pgs_nil, fun S H r σ F ds vs Q q h ⟨r', e, k⟩ => ?_⟩
  unfold nilG at e
  split at e
  · rename_i l
    cases e
    exact ⟨List.eq_nil_of_length_eq_zero (by rw [← h.len]; exact l), k σ F q (fun _ z => z) (fun _ _ => rfl) rfl⟩
  · cases e
theorem dgs_cons {w1 w2 : List Nat} {t : Expr} {ts : List Expr} {G : D → Env → Option Env} {G' : List D → Env → Option Env} (h1 : DG X w1 t G) (h2 : DGs X w2 ts G')
    (hs : (assignEach (t :: ts) X.env).map (·.2) = assign t X.env :: (assignEach ts X.env).map (·.2) := by rfl) : DGs X (w1 ++ w2) (t :: ts) (consG G G') := by
  obtain ⟨g, q1, z1⟩ := h1; obtain ⟨g', q2, z2⟩ := h2
  refine ⟨_, pgs_cons q1 q2 hs, fun S H r σ F ds vs Q q h ⟨r', e, k⟩ => ?_⟩
  cases ds with
  | nil => cases e
  | cons d ds =>
    obtain ⟨v, t, F1, F2, e1, e2, h1, h2⟩ := h
    obtain ⟨rfl, rfl⟩ := List.append_eq_nil_iff.mp e2.symm
    subst e1
    have e : (G d r).bind (fun r1 => G' ds r1) = some r' := e
    cases eg : G d r with
    | none => rw [eg] at e; cases e
    | some r1 =>
      rw [eg] at e
      refine ⟨v, t, rfl, z1 S H r σ F d v [] _ q h1 (by simpa using q.ft) ⟨r1, eg, fun σ1 F1 a1 a2 a3 a4 => ?_⟩⟩
      refine z2 S H r1 σ1 F1 ds t Q a1 h2 ⟨r', e, fun σ2 F2 b1 b2 b3 b4 => ?_⟩
      exact k σ2 F2 b1 (fun b z => by simpa using a2 b (b2 b z)) (fun j hj => by rw [b3 j (fun z => hj (by simp [z])), a3 j (fun z => hj (by simp [z]))]) (b4.trans a4)
def tupG (n : Nat) (G : List D → Env → Option Env) (d : D) (r : Env) : Option Env := match d with
  | .tup ds => if ds.length = n ∧ D.shL ds = true then G ds r else none
  | _ => none
theorem dg_tup {ws : List Nat} {ts : List Expr} {kt n : Nat} {G : List D → Env → Option Env} (hc : X.calm = true) (h : DGs X ws ts G) (hn : (assignEach ts X.env).length = n := by rfl) (hst : (assignEach ts X.env).findIdx? (·.1) = none := by rfl) :
    DG X ws (.Tuple ts kt pos) (tupG n G) := by
  obtain ⟨g, q1, z1⟩ := h
  refine ⟨_, pg_tup hc q1 hn hst, fun S H r σ F d v T Q q h f ⟨r', e, k⟩ => ?_⟩
  cases d with
  | tup ds =>
    have e : (if ds.length = n ∧ D.shL ds = true then G ds r else none) = some r' := e
    split at e
    · rename_i l
      obtain ⟨a, vs, rfl, hq, rl⟩ := h.tup_at l.2
      exact ⟨a, vs, rfl, hq, by rw [← rl.len]; exact l.1, z1 S H r σ F ds vs Q q rl ⟨r', e, fun σ' F' a1 a2 a3 a4 => k σ' F' a1 (fun b z => List.mem_append_right _ (a2 b z)) a3 a4⟩⟩
    · cases e
  | _ => cases e
/-! ### what is walked -/
structure ItOk (K : PySem.W.Frag) (J : It) (P : (Addr → Prop) → Hp → Prop) (ds : List D) : Prop where
  item : ∀ i d S H, ds[i]? = some d → P S H → (∀ a, S a → H a ≠ none) → J.go i H ∧ ∀ x H', J.yld i H x H' → Go S H [] S H' [] ∧ (∀ a, S a → H' a ≠ none) ∧ Rep K S H' d x []
  stop : ∀ S H, P S H → J.stop ds.length H
def IP1 (X : Cx) (W : WX) (S : Addr → Prop) (H : Hp) (F : Fp) (σ : L2.St) (R : It → Hp → Prop) : Res (List D) → Prop
  | .ok ds r => ∀ J S' H' F' T P, Go S H F S' H' (T ++ F') → At X.K S' H' r σ F' → Ft S' H' (T ++ F') → ItOk X.K J P ds → P S' H' →
      (∀ S1 H1 F1 S2 H2 F2, P S1 H1 → Ft S1 H1 (T ++ F1) → Go S1 H1 F1 S2 H2 F2 → P S2 H2) → R J H'
  | .exc c r => ∀ S' H' F', Go S H F S' H' F' → At X.K S' H' r σ F' → W (clsV X.mg c) none σ H'
  | .stk => False
def DI (X : Cx) (W : WX) (tg iter : Expr) (E : Env → Res (List D)) : Prop := ∃ wi, PI X tg iter wi ∧ ∀ S H r σ F R, At X.K S H r σ F → IP1 X W S H F σ R (E r) → wi σ H R
/-- lists, tuples, the script -/
def iSeq (K : PySem.W.Frag) (tl : TE) : TI := fun σ H R => tl σ H fun x H1 => ∃ a, x = .ref a ∧ (((∃ xs, SqL K H1 a xs) ∧ R (Itl K a) H1) ∨ ((∃ xs, SqT K H1 a xs) ∧ R (Itt K a) H1))
theorem pi_seq {l : Expr} {tl : TE} (hl : PE X l tl) : PI X tg l (iSeq X.K tl) := by
  constructor
  intro pins s σ H R I h
  refine thn (hl.run pins s σ H _ I h) fun v s1 ⟨y, H1, I1, r1, a, ey, q⟩ => ?_
  subst ey
  have ev : v = .ref a := r1
  subst ev
  have keep : ∀ (o : Obj), Inv X pins σ H1 { s1 with heap := s1.heap.push o } := fun o => I1.kept (t' := s1.toks) fun _ _ z => Heap.get?_push_of_some _ z
  have own : ∀ z ∈ [s1.heap.objs.size], FpOk X pins H1 z := fun z hz => by
    rw [List.mem_singleton.mp hz]
    exact I1.fpOk (Nat.le_refl _) (I1.hok.fresh (Nat.le_refl _))
  rcases q with ⟨⟨xs, hq⟩, q⟩ | ⟨⟨xs, hq⟩, q⟩
  · obtain ⟨_, _, pl, _⟩ := I1.list hq
    exact wpAny_pyIter_list pl.isList ⟨_, [s1.heap.objs.size], _, Itl X.K a, H1, rfl, keep _, turn_list a s1.heap.objs.size, ⟨_, Heap.get?_push_size _ rfl, rfl, rfl⟩, own, q⟩
  · obtain ⟨_, _, pt, _⟩ := I1.tuple hq
    exact wpAny_pyIter_tuple pt ⟨_, [s1.heap.objs.size], _, Itt X.K a, H1, rfl, keep _, turn_tuple a s1.heap.objs.size, ⟨_, Heap.get?_push_size _ rfl, rfl, rfl⟩, own, q⟩
def itemsE (d : D) (r : Env) : Res (List D) := match d with
  | .lst _ ds => if D.shL ds = true then .ok ds r else .stk
  | .tup ds => if D.shL ds = true then .ok ds r else .stk
  | .scr ns => .ok (ns.map .int) r
  | _ => .stk
theorem item_get {ds : List D} {vs : List V} {i : Nat} {d : D} (h : RepL K S H ds vs []) (e : ds[i]? = some d) : ∃ v, vs[i]? = some v ∧ Rep K S H d v [] := h.items e
theorem itok_lst {o : Bool} {ds : List D} {a : Addr} {T : Fp} (c : D.shL ds = true) : ItOk K (Itl K a) (fun S H => Rep K S H (.lst o ds) (.ref a) T) ds := by
  refine ⟨fun i d S H e q sd => ?_, fun S H q => ?_⟩
  · obtain ⟨b, vs, e1, hq, rl⟩ := q.lst_at c
    cases e1
    obtain ⟨w, e2, rw'⟩ := rl.items e
    refine ⟨⟨vs, w, .inl (.inl hq), e2⟩, fun x H' ⟨eH, hy⟩ => ?_⟩
    subst eH
    have := hy vs (.inl (.inl hq))
    rw [e2] at this
    cases this
    exact ⟨.refl _ _ _, sd, rw'⟩
  · obtain ⟨b, vs, e1, hq, rl⟩ := q.lst_at c
    cases e1
    exact ⟨vs, .inl (.inl hq), by rw [rl.len]; exact Nat.le_refl _⟩
theorem itok_tup {ds : List D} {a : Addr} {T : Fp} (c : D.shL ds = true) : ItOk K (Itt K a) (fun S H => Rep K S H (.tup ds) (.ref a) T) ds := by
  refine ⟨fun i d S H e q sd => ?_, fun S H q => ?_⟩
  · obtain ⟨b, vs, e1, hq, rl⟩ := q.tup_at c
    cases e1
    obtain ⟨w, e2, rw'⟩ := rl.items e
    refine ⟨⟨vs, w, hq, e2⟩, fun x H' ⟨eH, hy⟩ => ?_⟩
    subst eH
    have := hy vs hq
    rw [e2] at this
    cases this
    exact ⟨.refl _ _ _, sd, rw'⟩
  · obtain ⟨b, vs, e1, hq, rl⟩ := q.tup_at c
    cases e1
    exact ⟨vs, hq, by rw [rl.len]; exact Nat.le_refl _⟩
theorem itok_scr {ns : List Int} {a : Addr} {T : Fp} : ItOk K (Itl K a) (fun S H => Rep K S H (.scr ns) (.ref a) T) (ns.map .int) := by
  refine ⟨fun i d S H e q sd => ?_, fun S H q => ?_⟩
  · obtain ⟨_, b, e1, hq⟩ := q
    cases e1
    rw [List.getElem?_map] at e
    obtain ⟨n, en, rfl⟩ := Option.map_eq_some_iff.mp e
    have e2 : (ns.map V.int)[i]? = some (.int n) := by rw [List.getElem?_map, en]; rfl
    refine ⟨⟨_, .int n, hq.read, e2⟩, fun x H' ⟨eH, hy⟩ => ?_⟩
    subst eH
    have := hy _ hq.read
    rw [e2] at this
    cases this
    exact ⟨.refl _ _ _, sd, rfl, rfl⟩
  · obtain ⟨_, b, e1, hq⟩ := q
    cases e1
    exact ⟨_, hq.read, by simp⟩
theorem IP1.bind {α β : Type} {RRx : RR α β} {x : Res α} {f : α → Env → Res (List D)} {R : It → Hp → Prop} {Q1 : β → Hp → Prop} (y : IP1 X W S H F σ R (x.bind f))
    (k : ∀ a r b S2 H2 F2 T2, Go S H F S2 H2 (T2 ++ F2) → At X.K S2 H2 r σ F2 → RRx S2 H2 a b T2 → Ft S2 H2 (T2 ++ F2) → IP1 X W S H F σ R (f a r) → Q1 b H2) : EP1 RRx X W S H F σ Q1 x := by
  cases x with
  | ok a r => exact fun b S' H' F' T g' x z t => k a r b S' H' F' T g' x z t y
  | exc c r => exact y
  | stk => exact y
theorem di_seq {E : Env → Res D} (h : DE X W e E) : DI X W tg e (fun r => (E r).bind itemsE) := by
  obtain ⟨t, q, z⟩ := h
  refine ⟨_, pi_seq q, fun S H r σ F R x y => z S H r σ F _ x (IP1.bind y fun d r1 v S1 H1 F1 T1 g1 x1 h1 f1 y1 => ?_)⟩
  have st : ∀ S2 H2 F2 S3 H3 F3, Rep X.K S2 H2 d v T1 → Ft S2 H2 (T1 ++ F2) → Go S2 H2 F2 S3 H3 F3 → Rep X.K S3 H3 d v T1 := fun S2 H2 F2 S3 H3 F3 p f g => Rep.go g f.right d v T1 f.apart p
  unfold itemsE at y1
  split at y1
  · rename_i o ds
    split at y1
    · rename_i c
      obtain ⟨a, vs, rfl, hq, rl⟩ := h1.lst_at c
      exact ⟨a, rfl, .inl ⟨⟨vs, .inl (.inl hq)⟩, y1 _ S1 H1 F1 T1 _ g1 x1 f1 (itok_lst c) h1 st⟩⟩
    · exact y1.elim
  · rename_i ds
    split at y1
    · rename_i c
      obtain ⟨a, vs, rfl, hq, rl⟩ := h1.tup_at c
      exact ⟨a, rfl, .inr ⟨⟨vs, hq⟩, y1 _ S1 H1 F1 T1 _ g1 x1 f1 (itok_tup c) h1 st⟩⟩
    · exact y1.elim
  · rename_i ns
    obtain ⟨e0, a, rfl, hq⟩ := id h1
    exact ⟨a, rfl, .inl ⟨⟨_, hq.read⟩, y1 _ S1 H1 F1 T1 _ g1 x1 f1 itok_scr h1 st⟩⟩
  · exact y1.elim
/-- range(n), range(a, b) -/
def rgI (lo : Int) (n : Nat) : List D := (List.range n).map fun (i : Nat) => .int (lo + i)
theorem rgI_get (lo : Int) (n i : Nat) : (rgI lo n)[i]? = if i < n then some (.int (lo + i)) else none := by
  unfold rgI
  rw [List.getElem?_map]
  by_cases h : i < n
  · rw [if_pos h, List.getElem?_range h]; rfl
  · rw [if_neg h, List.getElem?_eq_none (by simpa using h)]; rfl
theorem rgI_len (lo : Int) (n : Nat) : (rgI lo n).length = n := by simp [rgI]
theorem itok_rng {lo : Int} {n : Nat} : ItOk K (Itr lo n) (fun _ _ => True) (rgI lo n) := by
  refine ⟨fun i d S H e _ sd => ?_, fun S H _ => by rw [rgI_len]; exact Nat.le_refl _⟩
  rw [rgI_get] at e
  split at e
  · rename_i c
    cases e
    refine ⟨c, fun x H' ⟨eH, ex⟩ => ?_⟩
    subst eH ex
    exact ⟨.refl _ _ _, sd, rfl, rfl⟩
  · cases e
def rng1E (ds : List D) (r : Env) : Res (List D) := match ds with
  | [.int j] => if -(2 ^ 62) ≤ j ∧ j < 2 ^ 62 then .ok (rgI 0 j.toNat) r else .stk
  | _ => .stk
def rng2E (ds : List D) (r : Env) : Res (List D) := match ds with
  | [.int i, .int j] => if -(2 ^ 62) ≤ i ∧ i < 2 ^ 62 ∧ -(2 ^ 62) ≤ j ∧ j < 2 ^ 62 then .ok (rgI i (j - i).toNat) r else .stk
  | _ => .stk
theorem di_rng1 {E : Env → Res (List D)} (hg : Gl X "range") (hm : X.mg "range" = none) (h : DA X W [a] E) (hs : starEach [a] X.env = [(false, eval a X.env)] := by rfl) : DI X W tg (.Call (.Name "range" p) [a] [] pos) (fun r => (E r).bind rng1E) := by
  obtain ⟨t, q, z⟩ := h
  refine ⟨_, pi_range1 hg hm q hs, fun S H r σ F R x y => z S H r σ F _ x (IP1.bind y fun ds r1 vs S1 H1 F1 T1 g1 x1 h1 f1 y1 => ?_)⟩
  unfold rng1E at y1
  split at y1
  · rename_i j
    split at y1
    · rename_i c
      obtain ⟨v, t, F2, F3, e1, e2, h2, e3, e4⟩ := h1
      subst e3 e1
      rw [h2.1]
      exact ⟨j, rfl, c.1, c.2, y1 _ S1 H1 F1 T1 _ g1 x1 f1 itok_rng trivial (fun _ _ _ _ _ _ _ _ _ => trivial)⟩
    · exact y1.elim
  · exact y1.elim
theorem di_rng2 {E : Env → Res (List D)} (hg : Gl X "range") (hm : X.mg "range" = none) (h : DA X W [a, b] E) (hs : starEach [a, b] X.env = [(false, eval a X.env), (false, eval b X.env)] := by rfl) (hs2 : starEach [b] X.env = [(false, eval b X.env)] := by rfl) :
    DI X W tg (.Call (.Name "range" p) [a, b] [] pos) (fun r => (E r).bind rng2E) := by
  obtain ⟨t, q, z⟩ := h
  refine ⟨_, pi_range2 hg hm q hs hs2, fun S H r σ F R x y => z S H r σ F _ x (IP1.bind y fun ds r1 vs S1 H1 F1 T1 g1 x1 h1 f1 y1 => ?_)⟩
  unfold rng2E at y1
  split at y1
  · rename_i i j
    split at y1
    · rename_i c
      obtain ⟨v, t, F2, F3, e1, e2, h2, v', t', F2', F3', e1', e2', h2', e3, e4⟩ := h1
      subst e3 e1' e1
      rw [h2.1, h2'.1]
      exact ⟨i, j, rfl, c, y1 _ S1 H1 F1 T1 _ g1 x1 f1 itok_rng trivial (fun _ _ _ _ _ _ _ _ _ => trivial)⟩
    · exact y1.elim
  · exact y1.elim
/-! ### comprehensions -/
def wipeE (r : Env) : List Nat → Env
  | [] => r
  | v :: vs => (wipeE r vs).set v none
theorem At.wiped (q : At K S H r σ F) : ∀ vs : List Nat, ∃ F', At K S H (wipeE r vs) (wipe σ vs) F' ∧ ∀ b ∈ F', b ∈ F
  | [] => ⟨F, q, fun _ z => z⟩
  | v :: vs => by
    obtain ⟨F', q', h'⟩ := At.wiped q vs
    by_cases l : v < (wipeE r vs).length
    · obtain ⟨A, G, B, e1, _, _, h3, _⟩ := q'.env.slot l
      subst e1
      refine ⟨A ++ B, ⟨?_, h3 none⟩, fun b z => h' b (by simp only [List.mem_append] at z ⊢; rcases z with z | z <;> simp [z])⟩
      exact (q'.ft.perm (List.perm_append_comm_assoc A G B)).right
    · refine ⟨F', ?_, h'⟩
      have l2 : (wipe σ vs).length ≤ v := by rw [← q'.env.len]; omega
      show At K S H ((wipeE r vs).set v none) ((wipe σ vs).set v none) F'
      rw [List.set_eq_of_length_le (by omega), List.set_eq_of_length_le l2]
      exact q'
/-- what is wiped may stand as anything -/
theorem RepE.any {σ' : L2.St} : ∀ {r : Env} {σ : L2.St} {F : Fp}, RepE K S H r σ F → σ'.length = σ.length → (∀ (j : Nat) (d : D), r[j]? = some (some d) → σ'[j]? = σ[j]?) → RepE K S H r σ' F := by
  intro r
  induction r generalizing σ' with
  | nil =>
    intro σ F h l _
    obtain ⟨rfl, rfl⟩ := h
    exact ⟨List.eq_nil_of_length_eq_zero l, rfl⟩
  | cons o r ih =>
    intro σ F h l k
    cases σ' with
    | nil =>
      cases o with
      | none => obtain ⟨x, t, rfl, h⟩ := h; simp at l
      | some d => obtain ⟨v, t, F1, F2, rfl, _⟩ := h; simp at l
    | cons y s =>
      cases o with
      | none =>
        obtain ⟨x, t, rfl, h⟩ := h
        exact ⟨y, s, rfl, ih h (by simpa using l) fun j d e => by simpa using k (j + 1) d (by simpa using e)⟩
      | some d =>
        obtain ⟨v, t, F1, F2, rfl, e2, h1, h⟩ := h
        have := k 0 d rfl
        simp at this
        subst this
        exact ⟨v, s, F1, F2, rfl, e2, h1, ih h (by simpa using l) fun j d e => by simpa using k (j + 1) d (by simpa using e)⟩
theorem wipe_out (σ : L2.St) (j : Nat) : ∀ vs : List Nat, j ∉ vs → (wipe σ vs)[j]? = σ[j]?
  | [], _ => rfl
  | v :: vs, h => by
    show ((wipe σ vs).set v none)[j]? = σ[j]?
    rw [List.getElem?_set_ne (fun e => h (by simp [e]))]
    exact wipe_out σ j vs (fun z => h (by simp [z]))
theorem wipeE_in (r : Env) (j : Nat) (d : D) : ∀ vs : List Nat, (wipeE r vs)[j]? = some (some d) → j ∉ vs
  | [], _ => by simp
  | v :: vs, h => by
    have h : ((wipeE r vs).set v none)[j]? = some (some d) := h
    by_cases e : v = j
    · subst e
      by_cases l : v < (wipeE r vs).length
      · rw [List.getElem?_set_self l] at h; cases h
      · rw [List.getElem?_eq_none (by simpa using l)] at h; cases h
    · rw [List.getElem?_set_ne e] at h
      simp only [List.mem_cons, not_or]
      exact ⟨fun z => e z.symm, wipeE_in r j d vs h⟩
theorem At.unwipe {vs : List Nat} {r0 : Env} (q : At K S H (wipeE r0 vs) (wipe σ vs) F) : At K S H (wipeE r0 vs) σ F := by
  refine ⟨q.ft, q.env.any (wipe_length σ vs).symm fun j d e => ?_⟩
  exact (wipe_out σ j vs (wipeE_in r0 j d vs e)).symm
theorem wipe_eq {σ σ' : L2.St} {vs : List Nat} (h : ∀ j, j ∉ vs → σ'[j]? = σ[j]?) (l : σ'.length = σ.length) : wipe σ' vs = wipe σ vs := by
  apply List.ext_getElem?
  intro j
  by_cases hj : j ∈ vs
  · have key : ∀ (s : L2.St) (vs : List Nat), j ∈ vs → (wipe s vs)[j]? = if j < s.length then some none else none := by
      intro s vs
      induction vs with
      | nil => intro z; cases z
      | cons v vs ih =>
        intro z
        show ((wipe s vs).set v none)[j]? = _
        by_cases e : v = j
        · subst e
          rw [List.getElem?_set]
          simp [wipe_length]
        · rw [List.getElem?_set_ne e]
          exact ih ((List.mem_cons.mp z).resolve_left fun q => e q.symm)
    rw [key σ' vs hj, key σ vs hj, l]
  · rw [wipe_out σ' j vs hj, wipe_out σ j vs hj, h j hj]
/-- a clause's tests -/
def DTs (X : Cx) (W : WX) (ifs : List Expr) (E : Env → Res Bool) : Prop := ∃ t, PTs X ifs t ∧ ∀ S H r σ F Q, At X.K S H r σ F → EP1 RB X W S H F σ Q (E r) → t σ H Q
theorem DTs.pts {ifs : List Expr} {E : Env → Res Bool} (h : DTs X W ifs E) : PTs X ifs (tT X W E) := by
  obtain ⟨t, q, z⟩ := h
  exact ⟨fun pins s σ H Q I ⟨S, r, F, x, y⟩ => q.run pins s σ H Q I (z S H r σ F Q x y)⟩
theorem dts_nil : DTs X W [] (fun r => .ok true r) := ⟨_, pts_nil, fun S H r σ F Q x y => y true S H F [] (.refl _ _ _) x ⟨rfl, rfl⟩ x.ft⟩
theorem dts_one {E : Env → Res Bool} (h : DT X W c E) : DTs X W [c] E := by
  obtain ⟨t, q, z⟩ := h
  exact ⟨_, pts_one q, z⟩
/-- no exception gets out -/
def Res.bindS {α β : Type} (x : Res α) (f : α → Env → Res β) : Res β := match x with
  | .ok a r => f a r
  | _ => .stk
def lcL (G : D → Env → Option Env) (T : Env → Res Bool) (E : Env → Res D) (vs : List Nat) : List D → List D → Env → Res (List D)
  | [], acc, r => .ok acc r
  | d :: ds, acc, r => match G d r with
    | none => .stk
    | some r1 => (T r1).bindS fun k r2 => if k = true then (E r2).bindS fun x r3 => if acc.length < sizeLine then lcL G T E vs ds (acc ++ [x]) (wipeE r3 vs) else .stk else lcL G T E vs ds acc (wipeE r2 vs)
abbrev W0 : WX := fun _ _ _ _ => False
theorem EP1.bindS {α β γ α' β' : Type} {R : RR α β} {R' : RR α' β'} {Q : β' → Hp → Prop} {Q1 : β → Hp → Prop} {S0 : Addr → Prop} {H0 : Hp} {F0 : Fp} {σ0 : L2.St} {x : Res α} {f : α → Env → Res γ} {h : γ → Env → Res α'} (y : EP1 R' X W S0 H0 F0 σ0 Q ((x.bindS f).bind h))
    (k : ∀ a r b S2 H2 F2 T2, x = .ok a r → Go S1 H1 F1 S2 H2 (T2 ++ F2) → At X.K S2 H2 r σ F2 → R S2 H2 a b T2 → Ft S2 H2 (T2 ++ F2) → EP1 R' X W S0 H0 F0 σ0 Q ((f a r).bind h) → Q1 b H2) : EP1 R X W0 S1 H1 F1 σ Q1 x := by
  cases x with
  | ok a r => exact fun b S' H' F' T g' x z t => k a r b S' H' F' T rfl g' x z t y
  | exc c r => exact False.elim y
  | stk => exact y
end
end DL

/-! DComp: list comprehensions. -/
namespace DL
open PySem PySem.Spec PyProof.Rows L2
section
variable {X : Cx} {W : WX} {K : PySem.W.Frag} {e a b c tg : Expr} {es : List Expr} {S S' S1 S2 : Addr → Prop} {H H' H1 H2 : Hp} {F F' F1 F2 T : Fp} {σ : L2.St} {r : Env} {pos p p2 : Pos} {x : Str}
theorem Ft.narrow {A : Fp} (h : Ft S H (A ++ F)) (h' : Ft S H F') (s : ∀ b ∈ F', b ∈ F) : Ft S H (A ++ F') :=
  ⟨List.nodup_append.mpr ⟨h.left.nd, h'.nd, fun b z c y e => by subst e; exact h.apart b z (s b y)⟩, fun b z => (List.mem_append.mp z).elim (h.left.dj b) (h'.dj b), fun b z => (List.mem_append.mp z).elim (h.left.mu b) (h'.mu b), h.sd⟩
/-- the list that grows at D, beside what is walked (T1) and what the names own (F) -/
structure Bd (K : PySem.W.Frag) (P : (Addr → Prop) → Hp → Prop) (T1 : Fp) (D0 : Addr) (S : Addr → Prop) (H : Hp) (acc : List D) (vs : List V) (G F : Fp) : Prop where
  hD : H D0 = some (.lst vs)
  rl : RepL K S H acc vs G
  ft : Ft S H ((D0 :: G) ++ (T1 ++ F))
  p : P S H
section
variable {P : (Addr → Prop) → Hp → Prop} {T1 : Fp} {D0 : Addr} {acc : List D} {vs : List V} {G : Fp}
theorem Bd.step (h : Bd K P T1 D0 S H acc vs G F) (st : ∀ S1 H1 F1 S2 H2 F2, P S1 H1 → Ft S1 H1 (T1 ++ F1) → Go S1 H1 F1 S2 H2 F2 → P S2 H2) (g : Go S H F S2 H2 F2) (f : Ft S2 H2 F2) : Bd K P T1 D0 S2 H2 acc vs G F2 := by
  have ft : Ft S H (((D0 :: G) ++ T1) ++ F) := by rw [List.append_assoc]; exact h.ft
  have ap := ft.apart
  refine ⟨g.fr _ _ h.hD (ap D0 (by simp)), RepL.go g ft.right acc vs G (fun b z => ap b (by simp [z])) h.rl, ?_, st S H F S2 H2 F2 h.p h.ft.right g⟩
  have := ft.frame g f
  rwa [List.append_assoc] at this
theorem Bd.narrow (h : Bd K P T1 D0 S H acc vs G F) (f : Ft S H F') (s : ∀ b ∈ F', b ∈ F) : Bd K P T1 D0 S H acc vs G F' := by
  refine ⟨h.hD, h.rl, ?_, h.p⟩
  have ft : Ft S H (((D0 :: G) ++ T1) ++ F) := by rw [List.append_assoc]; exact h.ft
  have := ft.narrow f s
  rwa [List.append_assoc] at this
theorem Bd.add {T3 : Fp} {d : D} {w : V} (h : Bd K P T1 D0 S H acc vs G (T3 ++ F)) (st : ∀ S1 H1 F1 S2 H2 F2, P S1 H1 → Ft S1 H1 (T1 ++ F1) → Go S1 H1 F1 S2 H2 F2 → P S2 H2) (hd : Rep K S H d w T3) :
    Bd K P T1 D0 S (upd H D0 (.lst (vs ++ [w]))) (acc ++ [d]) (vs ++ [w]) (G ++ T3) F ∧ Go S H ((D0 :: G) ++ (T1 ++ (T3 ++ F))) S (upd H D0 (.lst (vs ++ [w]))) ((D0 :: (G ++ T3)) ++ (T1 ++ F)) ∧
      (∀ r σ, At K S H r σ F → At K S (upd H D0 (.lst (vs ++ [w]))) r σ F) := by
  have sd := h.ft.sd
  have pm : ((D0 :: G) ++ (T1 ++ (T3 ++ F))).Perm ([D0] ++ ((G ++ T3) ++ (T1 ++ F))) := by
    refine List.Perm.cons D0 ?_
    show (G ++ (T1 ++ (T3 ++ F))).Perm ((G ++ T3) ++ (T1 ++ F))
    rw [List.append_assoc]
    exact List.Perm.append_left G (List.perm_append_comm_assoc T1 T3 F)
  have ft := h.ft.perm pm
  have g : Go S H [D0] S (upd H D0 (.lst (vs ++ [w]))) [D0] := upd_go sd h.hD
  have f1 : Ft S (upd H D0 (.lst (vs ++ [w]))) [D0] := ⟨by simp, ft.left.dj, fun b z => by
    have : b = D0 := by simpa using z
    subst this; rw [upd_same]; trivial, sd_new sd⟩
  have all := (Ft.frame ft.comm g f1).comm
  have ap : ∀ b ∈ (G ++ T3) ++ (T1 ++ F), b ∉ [D0] := ft.apart'
  refine ⟨⟨upd_same, ?_, all, ?_⟩, ?_, fun r σ q => q.go g ft.left (fun b z => ap b (by simp [z])) all.right.right.right⟩
  · exact (RepL.go g ft.left acc vs G (fun b z => ap b (by simp [z])) h.rl).append (RepL.one (Rep.go g ft.left d w T3 (fun b z => ap b (by simp [z])) hd))
  · refine st S H [D0] S _ [D0] h.p ?_ g
    have : Ft S H ([D0] ++ ((T1 ++ F) ++ (G ++ T3))) := ft.perm (List.Perm.append_left _ List.perm_append_comm)
    rw [List.append_assoc, ← List.append_assoc] at this
    exact this.left.comm
  · have := g.frameR ((G ++ T3) ++ (T1 ++ F))
    exact (this.wide fun b z => pm.mem_iff.mpr z)
end
theorem wipe_idem (σ : L2.St) (vs : List Nat) : L2.wipe (L2.wipe σ vs) vs = L2.wipe σ vs := wipe_eq (fun j hj => wipe_out σ j vs hj) (wipe_length σ vs)
theorem rd_lc {vs ws : List Nat} {wi : TI} {I : Env → Res (List D)} {G : D → Env → Option Env} {Tt : Env → Res Bool} {E : Env → Res D} (zi : ∀ S H r σ F R, At X.K S H r σ F → IP1 X W S H F σ R (I r) → wi σ H R) (hws : ∀ j ∈ ws, j ∈ vs) :
    RdE X W (tLc wi (tG X ws G) (tT X W0 Tt) (tE X W0 E) vs) (fun r => (I r).bind fun ds r1 => (lcL G Tt E vs ds [] (wipeE r1 vs)).bind fun acc r2 => .ok (.lst true acc) r2) := by
  intro S H r σ F Q x y
  refine zi S H r σ F _ x ?_
  have y : EP1 (Rep X.K) X W S H F σ Q ((I r).bind fun ds r1 => (lcL G Tt E vs ds [] (wipeE r1 vs)).bind fun acc r2 => .ok (.lst true acc) r2) := y
  cases eI : I r with
  | stk => rw [eI] at y; exact y
  | exc c r1 => rw [eI] at y; exact y
  | ok ds r1 =>
    rw [eI] at y
    intro J S1 H1 F1 T1 P g1 x1 f1 it p0 st D0 hD0
    have y : EP1 (Rep X.K) X W S H F σ Q ((lcL G Tt E vs ds [] (wipeE r1 vs)).bind fun acc r2 => .ok (.lst true acc) r2) := y
    have hlen : ds.length = ds.length := rfl
    refine ⟨fun i m H' => m = ds.length - i ∧ i ≤ ds.length ∧ ∃ S' r' F' acc ns G', Bd X.K P T1 D0 S' H' acc ns G' F' ∧ At X.K S' H' (wipeE r' vs) (L2.wipe σ vs) F' ∧ Go S H F S' H' ((D0 :: G') ++ (T1 ++ F')) ∧
      EP1 (Rep X.K) X W S H F σ Q ((lcL G Tt E vs (ds.drop i) acc (wipeE r' vs)).bind fun acc r2 => .ok (.lst true acc) r2), ⟨ds.length, by simp, Nat.zero_le _, ?_⟩, ?_⟩
    · obtain ⟨F1', q1, s1⟩ := x1.wiped vs
      have gn : Go S1 H1 [] S1 (upd H1 D0 (.lst [])) [D0] := go_new x1.ft.sd hD0 [D0] (fun _ z => by simpa using z)
      have fn : Ft S1 (upd H1 D0 (.lst [])) [D0] := ft_new x1.ft.sd hD0
      have f2 : Ft S1 H1 (T1 ++ F1') := f1.narrow q1.ft s1
      have f3 : Ft S1 (upd H1 D0 (.lst [])) ((T1 ++ F1') ++ [D0]) := Ft.frame (T := T1 ++ F1') (F := []) (by simpa using f2) gn fn
      refine ⟨S1, r1, F1', [], [], [], ⟨upd_same, ⟨rfl, rfl⟩, f3.comm, ?_⟩, q1.ext gn fn, ?_, y⟩
      · refine st S1 H1 [] S1 _ [D0] p0 (by simpa using f1.left) gn
      · have g2 : Go S1 H1 (T1 ++ F1) S1 (upd H1 D0 (.lst [])) ((T1 ++ F1) ++ [D0]) := by simpa using gn.frame (T1 ++ F1)
        refine g1.trans (g2.sub fun b z => ?_)
        simp only [List.mem_append, List.mem_cons, List.mem_singleton] at z ⊢
        rcases z with (z | z) | z | z
        · exact .inr (.inl z)
        · exact absurd z (by simp)
        · exact .inl (.inl z)
        · exact .inl (.inr (s1 b z))
    · rintro i m H3 ⟨rfl, hi, S3, r3, F3, acc, ns, G3, bd, x3, g3, y3⟩
      by_cases hlt : i < ds.length
      · have ed : ds[i]? = some ds[i] := List.getElem?_eq_getElem hlt
        obtain ⟨hgo, hyl⟩ := it.item i ds[i] S3 H3 ed bd.p bd.ft.sd
        refine .inr ⟨hgo, fun H' => i + 1 ≤ ds.length ∧ ∃ S' r' F' acc ns G', Bd X.K P T1 D0 S' H' acc ns G' F' ∧ At X.K S' H' (wipeE r' vs) (L2.wipe σ vs) F' ∧ Go S H F S' H' ((D0 :: G') ++ (T1 ++ F')) ∧
          EP1 (Rep X.K) X W S H F σ Q ((lcL G Tt E vs (ds.drop (i + 1)) acc (wipeE r' vs)).bind fun acc r2 => .ok (.lst true acc) r2), fun H' nx => ⟨ds.length - (i + 1), by omega, rfl, nx.1, nx.2⟩, fun v H4 yl => ?_⟩
        obtain ⟨g4, sd4, rd4⟩ := hyl v H4 yl
        have fn4 : Ft S3 H4 [] := Ft.nil sd4
        have x4 := x3.ext0 g4 fn4
        have bd4 : Bd X.K P T1 D0 S3 H4 acc ns G3 F3 := bd.step st (go_side g4 F3) x4.ft
        have g34 : Go S H F S3 H4 ((D0 :: G3) ++ (T1 ++ F3)) := g3.trans (go_side g4 _)
        have y4 := y3
        rw [show ds.drop i = ds[i] :: ds.drop (i + 1) from List.drop_eq_getElem_cons hlt] at y4
        unfold lcL at y4
        cases eG : G ds[i] (wipeE r3 vs) with
        | none => rw [eG] at y4; exact y4.elim
        | some r5 =>
          rw [eG] at y4
          have y4 : EP1 (Rep X.K) X W S H F σ Q (((Tt r5).bindS fun k r2 => if k = true then (E r2).bindS fun x r3 => if acc.length < sizeLine then lcL G Tt E vs (ds.drop (i + 1)) (acc ++ [x]) (wipeE r3 vs) else .stk else lcL G Tt E vs (ds.drop (i + 1)) acc (wipeE r2 vs)).bind fun acc r2 => .ok (.lst true acc) r2) := y4
          refine ⟨S3, wipeE r3 vs, F3, ds[i], [], x4, rd4, x4.ft, r5, eG, fun σ5 F5 q5 s5 o5 l5 => ?_⟩
          have s5 : ∀ b ∈ F5, b ∈ F3 := fun b z => by simpa using s5 b z
          have hw : L2.wipe σ5 vs = L2.wipe σ vs := (wipe_eq (fun j hj => o5 j (fun z => hj (hws j z))) l5).trans (wipe_idem σ vs)
          have bd5 := bd4.narrow q5.ft s5
          have g35 : Go S H F S3 H4 ((D0 :: G3) ++ (T1 ++ F5)) := g34.sub fun b z => by
            simp only [List.mem_append, List.mem_cons] at z ⊢
            rcases z with z | z | z
            · exact .inl z
            · exact .inr (.inl z)
            · exact .inr (.inr (s5 b z))
          refine ⟨hw, S3, r5, F5, q5, EP1.bindS y4 fun k r6 k' S6 H6 F6 T6 e6 g6 q6 h6 f6 y6 => ?_⟩
          obtain ⟨rfl, rfl⟩ := h6
          have bd6 : Bd X.K P T1 D0 S6 H6 acc ns G3 F6 := bd5.step st g6 f6
          have fr : ∀ {S7 : Addr → Prop} {H7 : Hp} {Z Y : Fp}, Go S3 H4 Z S7 H7 Y → Go S H F S3 H4 ((D0 :: G3) ++ (T1 ++ Z)) → Go S H F S7 H7 ((D0 :: G3) ++ (T1 ++ Y)) := fun {S7 H7 Z Y} g g' => by
            have := g.frame ((D0 :: G3) ++ T1)
            rw [List.append_assoc, List.append_assoc] at this
            exact g'.trans this
          have g36 : Go S H F S6 H6 ((D0 :: G3) ++ (T1 ++ F6)) := fr g6 g35
          cases k with
          | false =>
            have y6 : EP1 (Rep X.K) X W S H F σ Q ((lcL G Tt E vs (ds.drop (i + 1)) acc (wipeE r6 vs)).bind fun acc r2 => .ok (.lst true acc) r2) := y6
            obtain ⟨F7, q7, s7⟩ := q6.wiped vs
            rw [hw] at q7
            rw [if_neg Bool.false_ne_true]
            refine ⟨hlt, S6, r6, F7, acc, ns, G3, bd6.narrow q7.ft s7, q7, g36.sub fun b z => ?_, y6⟩
            simp only [List.mem_append, List.mem_cons] at z ⊢
            rcases z with z | z | z
            · exact .inl z
            · exact .inr (.inl z)
            · exact .inr (.inr (s7 b z))
          | true =>
            have y6 : EP1 (Rep X.K) X W S H F σ Q (((E r6).bindS fun x r3 => if acc.length < sizeLine then lcL G Tt E vs (ds.drop (i + 1)) (acc ++ [x]) (wipeE r3 vs) else .stk).bind fun acc r2 => .ok (.lst true acc) r2) := y6
            rw [if_pos rfl]
            refine ⟨S6, r6, F6, q6, EP1.bindS y6 fun d7 r7 w7 S7 H7 F7 T7 e7 g7 q7 h7 f7 y7 => ?_⟩
            have bd7 : Bd X.K P T1 D0 S7 H7 acc ns G3 (T7 ++ F7) := bd6.step st g7 f7
            have g37 : Go S H F S7 H7 ((D0 :: G3) ++ (T1 ++ (T7 ++ F7))) := by
              have := g7.frame ((D0 :: G3) ++ T1)
              rw [List.append_assoc, List.append_assoc] at this
              exact g36.trans this
            by_cases hz : acc.length < sizeLine
            · rw [if_pos hz] at y7
              obtain ⟨F8, q8, s8⟩ := q7.wiped vs
              rw [hw] at q8
              obtain ⟨b1, b2, b3⟩ := Bd.add bd7 st h7
              have q9 := b3 _ _ q7
              refine ⟨ns, bd7.hD, by rw [← bd7.rl.len]; exact hz, hlt, S7, r7, F8, acc ++ [d7], ns ++ [w7], G3 ++ T7, ?_, ?_, ?_, y7⟩
              · obtain ⟨F9, q10, s10⟩ := q9.wiped vs
                exact b1.narrow (show Ft S7 _ F8 from ⟨q8.ft.nd, q8.ft.dj, fun b z => b1.ft.mu b (by simp [s8 b z]), b1.ft.sd⟩) s8
              · exact q8.go (upd_go q7.ft.sd bd7.hD) (show Ft S7 H7 [D0] from ⟨by simp, fun b z => bd7.ft.dj b (by simp at z; simp [z]), fun b z => bd7.ft.mu b (by simp at z; simp [z]), q7.ft.sd⟩)
                  (fun b z y => by
                    have e : b = D0 := by simpa using y
                    subst e
                    have nd := (List.nodup_cons.mp (show (b :: (G3 ++ (T1 ++ (T7 ++ F7)))).Nodup from bd7.ft.nd)).1
                    exact nd (by simp [s8 b z])) (show Ft S7 _ F8 from ⟨q8.ft.nd, q8.ft.dj, fun b z => b1.ft.mu b (by simp [s8 b z]), b1.ft.sd⟩)
              · refine (g37.trans b2).sub fun b z => ?_
                simp only [List.mem_append, List.mem_cons] at z ⊢
                rcases z with z | z | z
                · exact .inl z
                · exact .inr (.inl z)
                · exact .inr (.inr (s8 b z))
            · rw [if_neg hz] at y7
              exact y7.elim
      · have e : i = ds.length := by omega
        subst e
        refine .inl ⟨it.stop S3 H3 bd.p, ?_⟩
        rw [List.drop_length] at y3
        have ft : Ft S3 H3 ((D0 :: G3) ++ F3) := by
          have h1 : Ft S3 H3 ((D0 :: G3) ++ (T1 ++ F3)) := bd.ft
          exact h1.narrow x3.ft (fun b z => List.mem_append_right _ z)
        exact y3 (.ref D0) S3 H3 F3 (D0 :: G3) (g3.sub fun b z => by
          simp only [List.mem_append, List.mem_cons] at z ⊢
          rcases z with z | z
          · exact .inl z
          · exact .inr (.inr z)) x3.unwipe ⟨D0, ns, G3, rfl, bd.hD, rfl, bd.rl⟩ ft
theorem de_lc {elt iter : Expr} {ifs : List Expr} {scope : Scope} {own : List (Str × Nat)} {ws : List Nat} {I : Env → Res (List D)} {G : D → Env → Option Env} {Tt : Env → Res Bool} {E : Env → Res D} (hc : X.calm = true) (hN : X.N.Nodup) (hi : DI X W tg iter I)
    (ok : BlkOk X.N X.env.scope scope own) (hws : ∀ j ∈ ws, j ∈ own.map (·.2)) (hg : ∀ (s : Shared) (H : Hp) (C : Addr) (cl : List (Str × Addr)) (fp : List Addr), DG (X.blk s H scope (compEnvC scope cl C X.env) fp) ws tg G)
    (ht : ∀ (s : Shared) (H : Hp) (C : Addr) (cl : List (Str × Addr)) (fp : List Addr), DTs (X.blk s H scope (compEnvC scope cl C X.env) fp) W0 ifs Tt)
    (he : ∀ (s : Shared) (H : Hp) (C : Addr) (cl : List (Str × Addr)) (fp : List Addr), DE (X.blk s H scope (compEnvC scope cl C X.env) fp) W0 elt E) (hs : ∀ x, foldedSetIterable iter X.env x = pure x := by intro _; rfl) :
    DE X W (.ListComp elt [⟨tg, iter, ifs, 0⟩] scope pos) (fun r => (I r).bind fun ds r1 => (lcL G Tt E (own.map (·.2)) ds [] (wipeE r1 (own.map (·.2)))).bind fun acc r2 => .ok (.lst true acc) r2) := by
  obtain ⟨wi, qi, zi⟩ := hi
  exact ⟨_, pe_lc hc hN qi ok (fun s H C cl fp => (hg s H C cl fp).pg) (fun s H C cl fp => (ht s H C cl fp).pts) (fun s H C cl fp => (he s H C cl fp).pe) hs, rd_lc (X := X) (W := W) zi hws⟩
end
end DL

/-! DStmt: statements. -/
namespace DL
open PySem PySem.Spec PyProof.Rows L2
structure Fix (fx : List Nat) (σ σ' : L2.St) : Prop where
  at_ : ∀ i ∈ fx, σ'[i]? = σ[i]?
theorem Fix.refl (fx : List Nat) (σ : L2.St) : Fix fx σ σ := ⟨fun _ _ => rfl⟩
theorem Fix.trans {fx : List Nat} {σ σ1 σ2 : L2.St} (a : Fix fx σ σ1) (b : Fix fx σ1 σ2) : Fix fx σ σ2 := ⟨fun i h => (b.at_ i h).trans (a.at_ i h)⟩
/-- what is asked behind a statement -/
def SP1 (X : Cx) (W : WX) (fx : List Nat) (S : Addr → Prop) (H : Hp) (F : Fp) (σ : L2.St) (D0 : Ends) : SR → Prop
  | .nx r => ∀ σ' S' H' F', Go S H F S' H' F' → At X.K S' H' r σ' F' → Fix fx σ σ' → D0.nx σ' H'
  | .bk r => ∀ σ' S' H' F', Go S H F S' H' F' → At X.K S' H' r σ' F' → Fix fx σ σ' → D0.bk σ' H'
  | .ct r => ∀ σ' S' H' F', Go S H F S' H' F' → At X.K S' H' r σ' F' → Fix fx σ σ' → D0.ct σ' H'
  | .rt d r => ∀ v σ' S' H' F' T, Go S H F S' H' (T ++ F') → At X.K S' H' r σ' F' → Rep X.K S' H' d v T → Ft S' H' (T ++ F') → Fix fx σ σ' → D0.rt v H'
  | .exc c r => ∀ σ' S' H' F', Go S H F S' H' F' → At X.K S' H' r σ' F' → Fix fx σ σ' → W (clsV X.mg c) none σ' H'
  | .stk => False
def DS (X : Cx) (W : WX) (fx : List Nat) (st : Stmt) (B : Env → SR) : Prop := ∃ t, PS X st t ∧ ∀ S H r σ F D0, At X.K S H r σ F → SP1 X W fx S H F σ D0 (B r) → t D0 σ H
def DSs (X : Cx) (W : WX) (fx : List Nat) (st : List Stmt) (B : Env → SR) : Prop := ∃ t, PSs X st t ∧ ∀ S H r σ F D0, At X.K S H r σ F → SP1 X W fx S H F σ D0 (B r) → t D0 σ H
def tS (X : Cx) (W : WX) (fx : List Nat) (B : Env → SR) : TS := fun D0 σ H => ∃ S r F, At X.K S H r σ F ∧ SP1 X W fx S H F σ D0 (B r)
section
variable {X : Cx} {W : WX} {fx : List Nat} {e a b c tg : Expr} {es : List Expr} {st : Stmt} {sts : List Stmt} {S S' S1 S2 : Addr → Prop} {H H' H1 H2 : Hp} {F F' F1 F2 T : Fp} {σ σ1 : L2.St} {r : Env} {pos p p2 : Pos} {x : Str} {D0 : Ends}
theorem DSs.pss {B : Env → SR} (h : DSs X W fx sts B) : PSs X sts (tS X W fx B) := by
  obtain ⟨t, q, z⟩ := h
  exact ⟨fun pins s σ H D0 I ⟨S, r, F, x, y⟩ => q.run pins s σ H D0 I (z S H r σ F D0 x y)⟩
theorem SP1.step (g : Go S H F S1 H1 F1) (fi : Fix fx σ σ1) : ∀ {x : SR}, SP1 X W fx S H F σ D0 x → SP1 X W fx S1 H1 F1 σ1 D0 x
  | .nx r, h => fun σ' S' H' F' g' x f => h σ' S' H' F' (g.trans g') x (fi.trans f)
  | .bk r, h => fun σ' S' H' F' g' x f => h σ' S' H' F' (g.trans g') x (fi.trans f)
  | .ct r, h => fun σ' S' H' F' g' x f => h σ' S' H' F' (g.trans g') x (fi.trans f)
  | .rt d r, h => fun v σ' S' H' F' T g' x y z f => h v σ' S' H' F' T (g.trans g') x y z (fi.trans f)
  | .exc c r, h => fun σ' S' H' F' g' x f => h σ' S' H' F' (g.trans g') x (fi.trans f)
  | .stk, h => h
/-- an expression, then something -/
def Res.thn {α : Type} (x : Res α) (f : α → Env → SR) : SR := match x with
  | .ok a r => f a r
  | .exc c r => .exc c r
  | .stk => .stk
theorem SP1.thn {α β : Type} {R : RR α β} {x : Res α} {f : α → Env → SR} {Q1 : β → Hp → Prop} (y : SP1 X W fx S H F σ D0 (x.thn f))
    (k : ∀ a r b S2 H2 F2 T2, Go S H F S2 H2 (T2 ++ F2) → At X.K S2 H2 r σ F2 → R S2 H2 a b T2 → Ft S2 H2 (T2 ++ F2) → SP1 X W fx S H F σ D0 (f a r) → Q1 b H2) : EP1 R X W S H F σ Q1 x := by
  cases x with
  | ok a r => exact fun b S' H' F' T g' x z t => k a r b S' H' F' T g' x z t y
  | exc c r => exact fun S' H' F' g x => y σ S' H' F' g x (.refl _ _)
  | stk => exact y
def SR.seq (x : SR) (f : Env → SR) : SR := match x with
  | .nx r => f r
  | y => y
theorem dss_nil : DSs X W fx [] .nx := ⟨_, pss_nil, fun S H r σ F D0 x y => y σ S H F (.refl _ _ _) x (.refl _ _)⟩
theorem dss_cons {B C : Env → SR} (h1 : DS X W fx st B) (h2 : DSs X W fx sts C) : DSs X W fx (st :: sts) (fun r => (B r).seq C) := by
  obtain ⟨t, p, q⟩ := h1; obtain ⟨t', p', q'⟩ := h2
  refine ⟨_, pss_cons p p', fun S H r σ F D0 x y => q S H r σ F _ x ?_⟩
  have y : SP1 X W fx S H F σ D0 ((B r).seq C) := y
  cases e1 : B r with
  | nx r1 => rw [e1] at y; exact fun σ' S' H' F' g x' f => q' S' H' r1 σ' F' D0 x' (SP1.step g f y)
  | bk r1 => rw [e1] at y; exact y
  | ct r1 => rw [e1] at y; exact y
  | rt d r1 => rw [e1] at y; exact y
  | exc c r1 => rw [e1] at y; exact y
  | stk => rw [e1] at y; exact y
theorem dss_one {B : Env → SR} (h1 : DS X W fx st B) : DSs X W fx [st] B := by
  obtain ⟨t, p, q⟩ := h1
  exact ⟨_, pss_one p, q⟩
theorem ds_pass : DS X W fx (.Pass pos) .nx := ⟨_, ps_pass, fun S H r σ F D0 x y => y σ S H F (.refl _ _ _) x (.refl _ _)⟩
theorem ds_break : DS X W fx (.Break pos) .bk := ⟨_, ps_break, fun S H r σ F D0 x y => y σ S H F (.refl _ _ _) x (.refl _ _)⟩
theorem ds_cont : DS X W fx (.Continue pos) .ct := ⟨_, ps_continue, fun S H r σ F D0 x y => y σ S H F (.refl _ _ _) x (.refl _ _)⟩
theorem ds_expr {E : Env → Res D} (he : DE X W e E) (hs : swapsWith e none pos.line X.env = pure false := by rfl) : DS X W fx (.Expr e pos) (fun r => (E r).thn fun _ r1 => .nx r1) := by
  obtain ⟨t, p, q⟩ := he
  exact ⟨_, ps_expr p hs, fun S H r σ F D0 x y => q S H r σ F _ x (SP1.thn y fun d r1 v S1 H1 F1 T1 g1 x1 h1 f1 y1 => y1 σ S1 H1 F1 (g1.sub fun b z => List.mem_append_right _ z) x1 (.refl _ _))⟩
theorem ds_ret {E : Env → Res D} (he : DE X W e E) : DS X W fx (.Return (some e) pos) (fun r => (E r).thn fun d r1 => .rt d r1) := by
  obtain ⟨t, p, q⟩ := he
  exact ⟨_, ps_ret p, fun S H r σ F D0 x y => q S H r σ F _ x (SP1.thn y fun d r1 v S1 H1 F1 T1 g1 x1 h1 f1 y1 => y1 v σ S1 H1 F1 T1 g1 x1 h1 f1 (.refl _ _))⟩
theorem ds_retN : DS X W fx (.Return none pos) (fun r => .rt .non r) := ⟨_, ps_retN, fun S H r σ F D0 x y => y .non σ S H F [] (.refl _ _ _) x ⟨rfl, rfl⟩ x.ft (.refl _ _)⟩
theorem ds_if {E : Env → Res Bool} {B C : Env → SR} {sa sb : List Stmt} (hc : DT X W c E) (ha : DSs X W fx sa B) (hb : DSs X W fx sb C) : DS X W fx (.If c sa sb pos) (fun r => (E r).thn fun k r1 => if k = true then B r1 else C r1) := by
  obtain ⟨t, p, q⟩ := hc; obtain ⟨t1, p1, q1⟩ := ha; obtain ⟨t2, p2, q2⟩ := hb
  refine ⟨_, ps_if p p1 p2, fun S H r σ F D0 x y => q S H r σ F _ x (SP1.thn y fun k r1 k' S1 H1 F1 T1 g1 x1 h1 f1 y1 => ?_)⟩
  obtain ⟨rfl, rfl⟩ := h1
  cases k with
  | true => exact q1 S1 H1 r1 σ F1 D0 x1 (SP1.step g1 (.refl _ _) y1)
  | false => exact q2 S1 H1 r1 σ F1 D0 x1 (SP1.step g1 (.refl _ _) y1)
/-! ### stores -/
def setS (i : Nat) (d : D) (r : Env) : SR := if i < r.length then .nx (r.set i (some d)) else .stk
theorem fix_set {i : Nat} {o : Option V} (h : i ∉ fx) : Fix fx σ (σ.set i o) := ⟨fun j hj => List.getElem?_set_ne fun e => h (by rw [e]; exact hj)⟩
theorem setS_end {i : Nat} {d : D} {v : V} (hf : i ∉ fx) (g : Go S H F S1 H1 (T ++ F1)) (x1 : At X.K S1 H1 r σ F1) (h1 : Rep X.K S1 H1 d v T) (f1 : Ft S1 H1 (T ++ F1)) (y : SP1 X W fx S H F σ D0 (setS i d r)) : D0.nx (σ.set i (some v)) H1 := by
  unfold setS at y
  split at y
  · rename_i l
    obtain ⟨F2, a1, a2⟩ := x1.put l h1 f1
    exact y _ S1 H1 F2 (g.sub a2) a1 (fix_set hf)
  · exact y.elim
theorem ds_set (i : Nat) {E : Env → Res D} (hN : X.N.Nodup) (hi : X.N[i]? = some x) (hx : Loc X.env.scope x) (he : DE X W e E) (hfx : i ∉ fx := by decide) (hs : swapsWith e (some (.Name x p)) pos.line X.env = pure false := by rfl)
    (hf : X.fn x = true ∨ X.env.scope.names.lookup x = some .local := by first | exact .inl rfl | exact .inr rfl | assumption) : DS X W fx (.Assign [.Name x p] e pos) (fun r => (E r).thn (setS i)) := by
  obtain ⟨t, h, q⟩ := he
  exact ⟨_, ps_set hN hi hx h hs hf, fun S H r σ F D0 x y => q S H r σ F _ x (SP1.thn y fun d r1 v S1 H1 F1 T1 g1 x1 h1 f1 y1 => setS_end hfx g1 x1 h1 f1 y1)⟩
/-- name = [..], a local name, on one line -/
theorem ds_setLc (i : Nat) {elt iter : Expr} {ifs : List Expr} {scope : Scope} {own : List (Str × Nat)} {ws : List Nat} {I : Env → Res (List D)} {G : D → Env → Option Env} {Tt : Env → Res Bool} {E : Env → Res D} (hc : X.calm = true) (hN : X.N.Nodup) (hi : X.N[i]? = some x) (hx : X.env.scope.names.lookup x = some .local)
    (hsw : swapsWith (.ListComp elt [⟨tg, iter, ifs, 0⟩] scope p2) (some (.Name x p)) pos.line X.env = pure true) (hit : DI X W tg iter I)
    (ok : BlkOk X.N X.env.scope scope own) (hws : ∀ j ∈ ws, j ∈ own.map (·.2)) (hg : ∀ (s : Shared) (H : Hp) (C : Addr) (cl : List (Str × Addr)) (fp : List Addr), DG (X.blk s H scope (compEnvC scope cl C X.env) fp) ws tg G)
    (ht : ∀ (s : Shared) (H : Hp) (C : Addr) (cl : List (Str × Addr)) (fp : List Addr), DTs (X.blk s H scope (compEnvC scope cl C X.env) fp) W0 ifs Tt)
    (he : ∀ (s : Shared) (H : Hp) (C : Addr) (cl : List (Str × Addr)) (fp : List Addr), DE (X.blk s H scope (compEnvC scope cl C X.env) fp) W0 elt E) (hfx : i ∉ fx := by decide) (hs : ∀ x, foldedSetIterable iter X.env x = pure x := by intro _; rfl) :
    DS X W fx (.Assign [.Name x p] (.ListComp elt [⟨tg, iter, ifs, 0⟩] scope p2) pos) (fun r => ((I r).bind fun ds r1 => (lcL G Tt E (own.map (·.2)) ds [] (wipeE r1 (own.map (·.2)))).bind fun acc r2 => .ok (.lst true acc) r2).thn (setS i)) := by
  obtain ⟨wi, qi, zi⟩ := hit
  refine ⟨_, ps_setLc (te := tE X W0 E) (tt := tT X W0 Tt) (g := tG X ws G) hc hN hi hx hsw qi ok (fun s H C cl fp => (hg s H C cl fp).pg) (fun s H C cl fp => (ht s H C cl fp).pts) (fun s H C cl fp => (he s H C cl fp).pe) hs, fun S H r σ F D0 x y => ?_⟩
  exact rd_lc (X := X) (W := W) (Tt := Tt) (E := E) zi hws S H r σ F _ x (SP1.thn y fun d r1 v S1 H1 F1 T1 g1 x1 h1 f1 y1 => setS_end hfx g1 x1 h1 f1 y1)
/-- any target -/
def asgS (G : D → Env → Option Env) (d : D) (r : Env) : SR := match G d r with
  | some r' => .nx r'
  | none => .stk
theorem ds_asg {ws : List Nat} {G : D → Env → Option Env} {E : Env → Res D} (he : DE X W e E) (hg : DG X ws tg G) (hw : ∀ i ∈ ws, i ∉ fx) (hs : swapsWithSole [tg] e pos.line X.env = pure false := by rfl) (hs2 : swappedStores [tg] e X.env = pure none := by rfl)
    (h1 : (assignEach [tg] X.env).map (·.2) = [assign tg X.env] := by rfl) : DS X W fx (.Assign [tg] e pos) (fun r => (E r).thn (asgS G)) := by
  obtain ⟨t, h, q⟩ := he; obtain ⟨g, h', q'⟩ := hg
  refine ⟨_, ps_asg h h' hs hs2 h1, fun S H r σ F D0 x y => q S H r σ F _ x (SP1.thn y fun d r1 v S1 H1 F1 T1 g1 x1 h1 f1 y1 => ?_)⟩
  unfold asgS at y1
  split at y1
  · rename_i r' eg
    exact q' S1 H1 r1 σ F1 d v T1 _ x1 h1 f1 ⟨r', eg, fun σ' F' a1 a2 a3 a4 => y1 σ' S1 H1 F' (g1.sub a2) a1 ⟨fun i hi => a3 i fun z => hw i z hi⟩⟩
  · exact y1.elim
/-- a, b = x, y and a, b, c = x, y, z -/
def parS (i j : Nat) (ds : List D) (r : Env) : SR := match ds with
  | [d1, d2] => if i < r.length ∧ j < r.length then .nx ((r.set i (some d1)).set j (some d2)) else .stk
  | _ => .stk
theorem ds_par (i j : Nat) {y : Str} {E : Env → Res (List D)} {px py pt pt2 : Pos} {kt k2 : Nat} (hc : X.calm = true) (hN : X.N.Nodup) (hi : X.N[i]? = some x) (hj : X.N[j]? = some y) (hx : X.env.scope.names.lookup x = some .local) (hy : X.env.scope.names.lookup y = some .local)
    (ha : DA X W [a, b] E) (hij : i ≠ j := by decide) (hfi : i ∉ fx := by decide) (hfj : j ∉ fx := by decide) (hw : swappedStores [.Tuple [.Name x px, .Name y py] kt pt] (.Tuple [a, b] k2 pt2) X.env = pure (some [x, y]) := by rfl)
    (hs : swapsWithSole [.Tuple [.Name x px, .Name y py] kt pt] (.Tuple [a, b] k2 pt2) pos.line X.env = pure false := by rfl) : DS X W fx (.Assign [.Tuple [.Name x px, .Name y py] kt pt] (.Tuple [a, b] k2 pt2) pos) (fun r => (E r).thn (parS i j)) := by
  obtain ⟨t, h, q⟩ := ha
  refine ⟨_, ps_par hc hN hi hj hij hx hy h hw hs, fun S H r σ F D0 x y => q S H r σ F _ x (SP1.thn y fun ds r1 vs S1 H1 F1 T1 g1 x1 h1 f1 y1 => ?_)⟩
  unfold parS at y1
  split at y1
  · rename_i d1 d2
    split at y1
    · rename_i l
      obtain ⟨v, t1, A1, B1, e1, e2, r1', w, t2, A2, B2, e3, e4, r2', e5, e6⟩ := h1
      subst e5 e6 e3 e4 e1 e2
      refine ⟨v, w, rfl, ?_⟩
      simp only [List.append_nil] at f1 g1
      have f1' : Ft S1 H1 (A1 ++ (A2 ++ F1)) := by rw [← List.append_assoc]; exact f1
      obtain ⟨F2, a1, a2⟩ := x1.put l.1 r1' (f1'.narrow x1.ft fun b z => List.mem_append_right _ z)
      have f2 : Ft S1 H1 (A2 ++ F2) := f1'.right.left |> fun fA => ⟨List.nodup_append.mpr ⟨fA.nd, a1.ft.nd, fun b z c y e => by
        subst e
        rcases List.mem_append.mp (a2 b y) with q | q
        · exact f1'.apart b q (List.mem_append_left _ z)
        · exact f1'.right.apart b z q⟩, fun b z => (List.mem_append.mp z).elim (fA.dj b) (a1.ft.dj b), fun b z => (List.mem_append.mp z).elim (fA.mu b) (a1.ft.mu b), fA.sd⟩
      obtain ⟨F3, b1, b2⟩ := a1.put (i := j) (by simpa using l.2) r2' f2
      refine y1 _ S1 H1 F3 (g1.sub fun b z => ?_) b1 ((fix_set hfi).trans (fix_set hfj))
      have := b2 b z
      simp only [List.mem_append] at this ⊢
      rcases this with q | q
      · exact .inl (.inr q)
      · rcases List.mem_append.mp (a2 b q) with q | q
        · exact .inl (.inl q)
        · exact .inr q
    · exact y1.elim
  · exact y1.elim
/-- name op= e, what stood there shared -/
def augS (i : Nat) (g : D → D → Option D) (d0 d : D) (r : Env) : SR := match g d0 d with
  | some d' => setS i d' r
  | none => .stk
theorem ds_aug (i : Nat) {op : Operator} {q : R2} {g : D → D → Option D} {E : Env → Res D} (ho : OpR X (inplaceOp op) q) (v : V2 X.K q g) (hN : X.N.Nodup) (hi : X.N[i]? = some x) (hx : Loc X.env.scope x) (he : DE X W e E) (hfx : i ∉ fx := by decide)
    (hf : X.fn x = true ∨ X.env.scope.names.lookup x = some .local := by first | exact .inl rfl | exact .inr rfl | assumption) :
    DS X W fx (.AugAssign (.Name x p) op e pos) (fun r => match r[i]? with
      | some (some d0) => if d0.sh = true then (E r).thn (augS i g d0) else .stk
      | _ => .stk) := by
  obtain ⟨t, h, z⟩ := he
  refine ⟨_, ps_aug hN hi hx h (show PIp X op q from fun pins s σ H x y v u Q I rx ry w => augR ho I rx ry w) hf, fun S H r σ F D0 x y => ?_⟩
  dsimp only at y
  split at y
  · rename_i d0 e0
    split at y
    · rename_i hsh
      obtain ⟨v0, T0, s0, h0, _⟩ := x.get e0
      have eT : T0 = [] := Rep.sh d0 v0 T0 hsh h0
      subst eT
      refine ⟨v0, s0, z S H r σ F _ x (SP1.thn y fun d r1 w S1 H1 F1 T1 g1 x1 h1 f1 y1 => ?_)⟩
      unfold augS at y1
      split at y1
      · rename_i d' e'
        have h0' := Rep.go g1 x.ft d0 v0 [] (fun _ z => nomatch z) h0
        refine v S1 H1 d0 d v0 w [] T1 _ x1.ft.sd h0' h1 ⟨d', e', fun u S2 H2 T2 g2 h2 f2 => ?_⟩
        obtain ⟨a1, a2, a3⟩ := own_end g1 x1 g2 f2
        exact setS_end hfx a1 a2 h2 a3 y1
      · exact y1.elim
    · exact y.elim
  · exact y.elim
/-! ### loops -/
/-- behind a turn's body -/
def SR.loop (x : SR) (k : Env → SR) : SR := match x with
  | .nx r => k r
  | .ct r => k r
  | .bk r => .nx r
  | y => y
def forL (G : D → Env → Option Env) (B : Env → SR) : List D → Env → SR
  | [], r => .nx r
  | d :: ds, r => match G d r with
    | none => .stk
    | some r1 => (B r1).loop (forL G B ds)
theorem SP1.loop {k : Env → SR} {N : L2.St → Hp → Prop} {x : SR} (y : SP1 X W fx S H F σ D0 (x.loop k)) (h : ∀ r, SP1 X W fx S H F σ D0 (k r) → ∀ σ' S' H' F', Go S H F S' H' F' → At X.K S' H' r σ' F' → Fix fx σ σ' → N σ' H') :
    SP1 X W fx S H F σ { D0 with nx := N, ct := N, bk := D0.nx } x := by
  cases x with
  | nx r => exact h r y
  | ct r => exact h r y
  | bk r => exact y
  | rt d r => exact y
  | exc c r => exact y
  | stk => exact y
theorem ds_for {iter : Expr} {ws : List Nat} {I : Env → Res (List D)} {G : D → Env → Option Env} {B : Env → SR} (hp : PassesOwn (model X.prog X.w) X.A X.env X.xe) (hc : X.calm = true) (hi : DI X W tg iter I) (hg : DG X ws tg G) (hb : DSs X W fx sts B) (hw : ∀ i ∈ ws, i ∉ fx)
    (hs : ∀ x, foldedSetIterable iter X.env x = pure x := by intro _; rfl) : DS X W fx (.For tg iter sts [] pos) (fun r => (I r).thn (forL G B)) := by
  obtain ⟨wi, qi, zi⟩ := hi
  refine ⟨_, ps_for hp hc qi hg.pg hb.pss hs, fun S H r σ F D0 x y => zi S H r σ F _ x ?_⟩
  have y : SP1 X W fx S H F σ D0 ((I r).thn (forL G B)) := y
  cases eI : I r with
  | stk => rw [eI] at y; exact y
  | exc c r1 => rw [eI] at y; exact fun S' H' F' g x' => y σ S' H' F' g x' (.refl _ _)
  | ok ds r1 =>
    rw [eI] at y
    intro J S1 H1 F1 T1 P g1 x1 f1 it p0 st
    have y : SP1 X W fx S H F σ D0 (forL G B ds r1) := y
    have y0 := SP1.step (g1.sub (F2 := F1) fun b z => List.mem_append_right _ z) (.refl fx σ) y
    refine ⟨fun i m σ' H' => m = ds.length - i ∧ i ≤ ds.length ∧ ∃ S' r' F', At X.K S' H' r' σ' F' ∧ Ft S' H' (T1 ++ F') ∧ P S' H' ∧ SP1 X W fx S' H' F' σ' D0 (forL G B (ds.drop i) r'), ⟨ds.length, by simp, Nat.zero_le _, S1, r1, F1, x1, f1, p0, y0⟩, ?_⟩
    rintro i m σ2 H2 ⟨rfl, hi, S2, r2, F2, x2, f2, p2, y2⟩
    by_cases hlt : i < ds.length
    · have ed : ds[i]? = some ds[i] := List.getElem?_eq_getElem hlt
      obtain ⟨hgo, hyl⟩ := it.item i ds[i] S2 H2 ed p2 x2.ft.sd
      refine .inr ⟨hgo, fun σ' H' => i + 1 ≤ ds.length ∧ ∃ S' r' F', At X.K S' H' r' σ' F' ∧ Ft S' H' (T1 ++ F') ∧ P S' H' ∧ SP1 X W fx S' H' F' σ' D0 (forL G B (ds.drop (i + 1)) r'), fun σ' H' nx => ⟨ds.length - (i + 1), by omega, rfl, nx.1, nx.2⟩, fun v H3 yl => ?_⟩
      obtain ⟨g3, sd3, rd3⟩ := hyl v H3 yl
      have fn3 : Ft S2 H3 [] := Ft.nil sd3
      have x3 := x2.ext0 g3 fn3
      have p3 : P S2 H3 := st S2 H2 [] S2 H3 [] p2 (by simpa using f2.left) g3
      have f3 : Ft S2 H3 (T1 ++ F2) := f2.frame (go_side g3 F2) x3.ft
      rw [show ds.drop i = ds[i] :: ds.drop (i + 1) from List.drop_eq_getElem_cons hlt] at y2
      unfold forL at y2
      cases eG : G ds[i] r2 with
      | none => rw [eG] at y2; exact y2.elim
      | some r4 =>
        rw [eG] at y2
        refine ⟨S2, r2, F2, ds[i], [], x3, rd3, x3.ft, r4, eG, fun σ4 F4 q4 s4 o4 l4 => ?_⟩
        have s4 : ∀ b ∈ F4, b ∈ F2 := fun b z => by simpa using s4 b z
        have f4 : Ft S2 H3 (T1 ++ F4) := f3.narrow q4.ft s4
        have fi4 : Fix fx σ2 σ4 := ⟨fun j hj => o4 j fun z => hw j z hj⟩
        have y4 := SP1.step ((go_side g3 F2).sub s4) fi4 y2
        refine ⟨S2, r4, F4, q4, ?_⟩
        have fin : ∀ {r5 : Env}, SP1 X W fx S2 H3 F4 σ4 D0 (forL G B (ds.drop (i + 1)) r5) → ∀ σ' S' H' F', Go S2 H3 F4 S' H' F' → At X.K S' H' r5 σ' F' → Fix fx σ4 σ' → i + 1 ≤ ds.length ∧ ∃ S'' r' F', At X.K S'' H' r' σ' F' ∧ Ft S'' H' (T1 ++ F') ∧ P S'' H' ∧ SP1 X W fx S'' H' F' σ' D0 (forL G B (ds.drop (i + 1)) r') := fun {r5} h σ' S' H' F' g x' f =>
          ⟨hlt, S', r5, F', x', f4.frame g x'.ft, st S2 H3 F4 S' H' F' p3 f4 g, SP1.step g f h⟩
        exact SP1.loop y4 fun r5 h => fin h
    · have e : i = ds.length := by omega
      subst e
      rw [List.drop_length] at y2
      exact .inl ⟨it.stop S2 H2 p2, y2 σ2 S2 H2 F2 (.refl _ _ _) x2 (.refl _ _)⟩
def whileL (E : Env → Res Bool) (B : Env → SR) : Nat → Env → SR
  | 0, _ => .stk
  | n + 1, r => (E r).thn fun k r1 => if k = true then (B r1).loop (whileL E B n) else .nx r1
theorem ds_while (n : Nat) {E : Env → Res Bool} {B : Env → SR} (hp : PassesOwn (model X.prog X.w) X.A X.env X.xe) (hc : DT X W c E) (hb : DSs X W fx sts B) : DS X W fx (.While c sts [] pos) (whileL E B n) := by
  refine ⟨_, ps_while hp hc.pt hb.pss, fun S H r σ F D0 x y => ?_⟩
  refine ⟨fun m σ' H' => ∃ S' r' F', At X.K S' H' r' σ' F' ∧ SP1 X W fx S' H' F' σ' D0 (whileL E B m r'), ⟨n, S, r, F, x, y⟩, ?_⟩
  rintro m σ1 H1 ⟨S1, r1, F1, x1, y1⟩
  cases m with
  | zero => exact y1.elim
  | succ m =>
    refine ⟨S1, r1, F1, x1, SP1.thn y1 fun k r2 k' S2 H2 F2 T2 g2 x2 h2 f2 y2 => ?_⟩
    obtain ⟨rfl, rfl⟩ := h2
    have g2 : Go S1 H1 F1 S2 H2 F2 := g2
    cases k with
    | false =>
      have y2 : SP1 X W fx S1 H1 F1 σ1 D0 (.nx r2) := y2
      rw [if_neg Bool.false_ne_true]
      exact y2 σ1 S2 H2 F2 g2 x2 (.refl _ _)
    | true =>
      rw [if_pos rfl]
      have y3 := SP1.step g2 (.refl fx σ1) y2
      refine ⟨fun σ' H' => ∃ S' r' F', At X.K S' H' r' σ' F' ∧ SP1 X W fx S' H' F' σ' D0 (whileL E B m r'), fun σ' H' h => ⟨m, Nat.lt_succ_self m, h⟩, S2, r2, F2, x2, ?_⟩
      rw [if_pos rfl] at y3
      exact SP1.loop y3 fun r5 h σ' S' H' F' g x' f => ⟨S', r5, F', x', SP1.step g f h⟩
end
end DL

/-! DRev: list(reversed(xs)). -/
namespace DL
open PySem PySem.Spec PyProof.Rows L2
section
variable {prog : Program} {w : World} {A : Around} {E : Value → Shared → Prop} {s : Shared}
theorem ext_rev {it l S : Addr} {items : Array Value} {c0 : Nat} {R : Result → Shared → Prop} {res : Value} (hh : A.handled = none) (hit : s.heap.IsRevIter it l ((items.size : Int) - 1)) (hl : s.heap.IsList l items) (hne : l ≠ it) (hn : items.size ≤ sizeLine)
    (hS : s.heap.get? S = some { cls := .type "list", data := .seq #[] c0 }) (hSi : S ≠ it) (hSl : S ≠ l)
    (hR : ∀ h' tk acc' c', (∀ b o, b ≠ S → b ≠ it → s.heap.get? b = some o → h'.get? b = some o) → h'.get? S = some { cls := .type "list", dict := none, data := .seq acc' c', slots := #[] } → ItemsOf (fun i v => items[items.size - 1 - i]? = some v) acc' items.size → R (.ok (.ret res)) { s with heap := h', toks := tk }) :
    wpAny (model prog w) A.in1 (Builtin.List.listExtendWith (.ref S) (.ref it) res)
      (fun fin s' => match fin with | .done f => R (.ok f) s' | .again c' => c'.quiet = true ∧ codeAny (model prog w) A c' R s') (fun e s' => R (.error e) s') s := by
  have W := (Walks.listRev (prog := prog) (w := w) (A := A.in1) hh it l hne items).toS
  have hSf : S ∉ [it, l] := by
    simp only [List.mem_cons, List.not_mem_nil, or_false, not_or]
    exact ⟨hSi, hSl⟩
  have ty := Heap.IsRevIter.typeIs hit
  have same : Builtin.List.listSameRef (.ref S) (.ref it) = false := by simp [Builtin.List.listSameRef, hSi]
  unfold Builtin.List.listExtendWith
  refine wpAny_bind (wpAny_typeOf ty ?_)
  rw [if_neg (by rw [same]; decide)]
  refine wpAny_bind (wpAny_pyIter_revIter hit (wpAny_bind (wpAny_holding ?_)))
  unfold Builtin.List.listLengthHint
  refine wpAny_bind (wpAny_specialOf ty RT.nolen_lri ?_)
  show wpAny _ A.in1 (specialOf (Value.ref it) (Str.ofString "__length_hint__") >>= _) _ _ _
  refine wpAny_bind (wpAny_specialOf ty RT.hint_lri ?_)
  generalize hx : ("list_reverseiterator.__length_hint__" : String) = nm
  wp_delta
  rw [show splitId nm = some ("list_reverseiterator", "__length_hint__") from by subst hx; decide +kernel]
  subst hx
  refine wpAny_bind (wpAny_isInstance (b := true) ty (by rw [isSubtype_type]; kernel_rfl) (wpAny_pure ?_))
  rw [if_neg (by decide)]
  have z : ((items.size : Nat) : Int) - 1 - ((0 : Nat) : Int) = (items.size : Int) - 1 := by omega
  refine wpAny_pure ⟨plainId_quiet F.plain_extend_loop _, codeAny_extend_loopS W hn S hSf res items.size 0 s #[] c0 rfl (Nat.zero_le _) ⟨Nat.zero_le _, ?_, hl⟩ hS (ItemsOf.nil _) fun s' acc' c' hm hS' hacc => ?_⟩
  · rw [z]; exact hit
  · rw [Moved.eq_with hm]
    refine hR s'.heap s'.toks acc' c' (fun b o n1 n2 e => hm.heap b o (fun q => ?_) e) hS' hacc
    rcases List.mem_cons.mp q with q | q
    · exact n1 q
    · exact n2 (List.mem_singleton.mp q)
theorem call_list_rev {it l : Addr} {items : Array Value} {Q : Value → Shared → Prop} (hh : A.handled = none) (hit : s.heap.IsRevIter it l ((items.size : Int) - 1)) (hl : s.heap.IsList l items) (hne : l ≠ it) (hn : items.size ≤ sizeLine)
    (hQ : ∀ h' tk acc' c', (∀ b o, b ≠ it → s.heap.get? b = some o → h'.get? b = some o) → h'.get? s.heap.objs.size = some { cls := .type "list", dict := none, data := .seq acc' c', slots := #[] } → ItemsOf (fun i v => items[items.size - 1 - i]? = some v) acc' items.size → Q (.ref s.heap.objs.size) { s with heap := h', toks := tk }) :
    wpAny (model prog w) A (call (.type "list") [.ref it]) Q E s := by
  obtain ⟨oi, hoi, _⟩ := id hit
  obtain ⟨ol, hol, _⟩ := id hl
  have n1 : s.heap.objs.size ≠ it := Nat.ne_of_gt (Heap.lt_size hoi)
  have n2 : s.heap.objs.size ≠ l := Nat.ne_of_gt (Heap.lt_size hol)
  refine callType_codes (Q₁ := fun obj s₁ => obj = .ref s.heap.objs.size ∧ s₁ = { s with heap := s.heap.push { cls := .type "list", data := .seq #[] } }) PySem.F.called_list (PySem.F.typeCall_list_1 _) PySem.F.entry_list_init (code_list_new _ ⟨rfl, rfl⟩) fun obj s₁ h₁ => ?_
  obtain ⟨rfl, rfl⟩ := h₁
  have hS : (s.heap.push { cls := .type "list", data := .seq #[] }).get? s.heap.objs.size = some { cls := .type "list", data := .seq #[] } := Heap.get?_push_size _ rfl
  refine ⟨⟨_, hS, rfl⟩, PySem.F.args_list_init_2 _ _, ?_⟩
  show wpAny _ _ (do let old ← Builtin.List.listItems (.ref s.heap.objs.size); Builtin.List.listUpdate (.ref s.heap.objs.size) (fun _ => #[]); letGo old.toList.reverse; Builtin.List.listExtendWith (.ref s.heap.objs.size) (.ref it) .none) _ _ _
  refine wpAny_bind ?_
  unfold Builtin.List.listItems
  refine wpAny_bind (wpAny_seqItems hS rfl (wpAny_pure ?_))
  show wpAny _ _ (updateSeq s.heap.objs.size (fun _ => #[]) >>= fun _ => letGo (#[] : Array Value).toList.reverse >>= fun _ => Builtin.List.listExtendWith (.ref s.heap.objs.size) (.ref it) .none) _ _ _
  refine wpAny_bind (wpAny_updateSeq hS rfl ?_)
  have hS2 := Heap.get?_update_self (Obj.mapSeq (fun _ => (#[] : Array Value))) hS rfl
  have oth : ∀ b o, s.heap.get? b = some o → ((s.heap.push { cls := .type "list", data := .seq #[] }).update s.heap.objs.size (Obj.mapSeq (fun _ => (#[] : Array Value)))).get? b = some o :=
    fun b o e => (Heap.get?_update_other _ _ (Ne.symm (Nat.ne_of_lt (Heap.lt_size e)))).trans (Heap.get?_push_of_some _ e)
  refine wpAny_bind (wpAny_letGo ?_)
  refine ext_rev (A := A.in1) hh (hit.at fun o e => oth it o e) (by obtain ⟨o, e, r⟩ := hl; exact ⟨o, oth l o e, r⟩) hne hn hS2 n1 n2 (fun h' tk acc' c' hk hS' hacc => ?_)
  exact ⟨rfl, hQ h' tk acc' c' (fun b o hb e => hk b o (Nat.ne_of_lt (Heap.lt_size e)) hb (oth b o e)) hS' hacc⟩
end
section
variable {X : Cx} {W : WX} {e : Expr} {S : Addr → Prop} {H : Hp} {F : Fp} {σ : L2.St} {r : Env} {pos p p2 pos2 : Pos}
def tLstRev (K : PySem.W.Frag) (te : TE) : TE := fun σ H Q => te σ H fun v H1 => ∃ (a : Addr) (xs : List V), v = .ref a ∧ SqL K H1 a xs ∧ ∀ q, H1 q = none → Q (.ref q) (upd H1 q (.lst xs.reverse))
theorem pe_lstRev {te : TE} (hc : X.calm = true) (hg : Gl X "list") (hm : X.mg "list" = none) (hg2 : Gl X "reversed") (hm2 : X.mg "reversed" = none) (he : PE X e te)
    (hs : starEach [e] X.env = (false, eval e X.env) :: starEach [] X.env := by rfl)
    (hs2 : starEach [.Call (.Name "reversed" p2) [e] [] pos2] X.env = (false, eval (.Call (.Name "reversed" p2) [e] [] pos2) X.env) :: starEach [] X.env := by rfl) :
    PE X (.Call (.Name "list" p) [.Call (.Name "reversed" p2) [e] [] pos2] [] pos) (tLstRev X.K te) := by
  constructor
  intro pins s σ H Q I h
  have inner : ∀ {Q' : Value → Shared → Prop}, (∀ u s1 v H1, Inv X pins σ H1 s1 → RelV v u → (∃ (a : Addr) (xs : List V), v = .ref a ∧ SqL X.K H1 a xs ∧ ∀ q, H1 q = none → Q (.ref q) (upd H1 q (.lst xs.reverse))) → wpAny (model X.prog X.w) X.A (call (.type "reversed") [u]) Q' X.xe s1) →
      wpAny (model X.prog X.w) X.A (eval (.Call (.Name "reversed" p2) [e] [] pos2) X.env) Q' X.xe s := fun {Q'} k =>
    Call_ (ld_blt I hg2 hm2 PyProof.Rows.boot_reversed (PyProof.Rows.callWith_type1 (args_cons (thn (he.run pins s σ H _ I h) fun u s1 ⟨v, H1, I1, r1, q1⟩ => args_nil (k u s1 v H1 I1 r1 q1)) hs) hs rfl))
  refine Call_ (ld_blt I hg hm boot_list (PyProof.Rows.callWith_type1 (args_cons (inner fun u s1 v H1 I1 r1 ⟨a, xs, ev, hq, q⟩ => ?_) hs2) hs2 rfl))
  subst ev
  have eu : u = .ref a := r1
  subst eu
  obtain ⟨its, rv, pl, hz⟩ := I1.list hq
  refine call_reversed_list pl.isList (args_nil ?_)
  have I2 : Inv X pins σ H1 { s1 with heap := s1.heap.push (revObj a ((its.toArray.size : Int) - 1)) } := I1.kept (t' := s1.toks) fun b o z => Heap.get?_push_of_some _ z
  obtain ⟨f0, f1, f2, f3, f4, f5⟩ := I1.fpOk (H' := H1) (b := s1.heap.objs.size) (Nat.le_refl _) (I1.hok.fresh (Nat.le_refl _))
  have hl := pl.isList
  obtain ⟨ol, hol, _⟩ := id hl
  have hn : its.toArray.size ≤ sizeLine := by rw [List.size_toArray, ← rv.length]; exact hz
  refine call_list_rev (s := { s1 with heap := s1.heap.push (revObj a ((its.toArray.size : Int) - 1)) }) (I1.ok.hd hc) ⟨_, Heap.get?_push_size _ rfl, rfl, rfl⟩ (hl.push _) (Nat.ne_of_lt (Heap.lt_size hol)) hn fun h' tk acc c' hk hD hi => ?_
  have I3 : Inv X pins σ H1 { s1 with heap := h', toks := tk } := I2.turned (t' := tk) hk f0 f1 f3 f4 f5
  generalize hq0 : (s1.heap.push (revObj a ((its.toArray.size : Int) - 1))).objs.size = q0 at hD ⊢
  have fr : H1 q0 = none := I2.hok.fresh (by rw [← hq0]; exact Nat.le_refl _)
  have val : Vals xs.reverse acc.toList := RT.vals_rev rv hi
  have big : ∀ b o, (s1.heap.push (revObj a ((its.toArray.size : Int) - 1))).get? b = some o → b ≠ q0 := fun b o z => by rw [← hq0]; exact Nat.ne_of_lt (Heap.lt_size z)
  have ne : ∀ b u, H1 b = some u → b ≠ q0 := fun b u z y => by rw [y, fr] at z; cases z
  have hok : HOk X.prog X.w (upd H1 q0 (.lst xs.reverse)) h' := fun b u z => by
    by_cases hb : b = q0
    · subst hb
      rw [upd_same] at z
      cases z
      exact ⟨by rw [List.length_reverse]; exact hz, acc.toList, c', val, by rw [Array.toArray_toList]; exact hD⟩
    · rw [upd_ne hb] at z
      exact (I3.hok b u z).stay (fun _ _ _ y => y) (fun d y => by rw [upd_ne (ne d _ y)]; exact y) fun d ys y => by rw [upd_ne (ne d _ y)]; exact y
  refine ⟨.ref q0, upd H1 q0 (.lst xs.reverse), ?_, rfl, q q0 fr⟩
  refine I2.step (g' := s1.gens) (d' := s1.drawn) (t' := tk) (ch := [s1.heap.objs.size]) (fun b hb => by rw [List.mem_singleton.mp hb]; exact ⟨f3, f1, f4, f5⟩) (fun b o _ _ hc z _ => hk b o (fun y => hc (by simp [y])) z) (fun b o _ _ hc z _ => ⟨o.slots, hk b o (fun y => hc (by simp [y])) z⟩)
    (fun b o _ z n => by rw [upd_ne (big b o z)]; exact n) (fun b o hc z => ⟨o, hk b o (fun y => hc (by simp [y])) z⟩) (fun b ys z => by rw [upd_ne (ne b _ z)]; exact z) (fun b o u z => by rw [upd_ne (ne b _ z)]; exact z) (fun b ps z => ⟨#[], by rw [upd_ne (ne b _ z), z]; simp⟩) (fun m hm => ?_) hok I2.bare
  obtain ⟨o, es, ep, ho, rest⟩ := hm
  exact ⟨o, es, ep, hk _ o (fun y => f1 y.symm) ho, rest⟩
def revE (d : D) (r : Env) : Res D := match d with
  | .lst _ ds => if D.shL ds = true then .ok (.lst true ds.reverse) r else .stk
  | _ => .stk
theorem RepL.rev {K : PySem.W.Frag} {S : Addr → Prop} {H : Hp} : ∀ {ds : List D} {vs : List V}, RepL K S H ds vs [] → RepL K S H ds.reverse vs.reverse []
  | [], vs, h => by rw [h.1]; exact ⟨rfl, rfl⟩
  | d :: ds, vs, h => by
    obtain ⟨v, t, F1, F2, e1, e2, h1, h2⟩ := h
    obtain ⟨rfl, rfl⟩ := List.append_eq_nil_iff.mp e2.symm
    subst e1
    rw [List.reverse_cons, List.reverse_cons]
    simpa using (RepL.rev h2).append (RepL.one h1)
theorem de_lstRev {E : Env → Res D} (hc : X.calm = true) (hg : Gl X "list") (hm : X.mg "list" = none) (hg2 : Gl X "reversed") (hm2 : X.mg "reversed" = none) (he : DR X W e E)
    (hs : starEach [e] X.env = (false, eval e X.env) :: starEach [] X.env := by rfl)
    (hs2 : starEach [.Call (.Name "reversed" p2) [e] [] pos2] X.env = (false, eval (.Call (.Name "reversed" p2) [e] [] pos2) X.env) :: starEach [] X.env := by rfl) :
    DE X W (.Call (.Name "list" p) [.Call (.Name "reversed" p2) [e] [] pos2] [] pos) (fun r => (E r).bind revE) := by
  obtain ⟨t, h, z⟩ := he
  refine ⟨_, pe_lstRev hc hg hm hg2 hm2 h hs hs2, fun S H r σ F Q x y => z S H r σ F _ x (EP1.bindR (Go.refl _ _ _) y fun d r1 v S1 H1 F1 T1 g1 x1 h1 y1 => ?_)⟩
  unfold revE at y1
  split at y1
  · rename_i o ds
    split at y1
    · rename_i c
      obtain ⟨a, vs, rfl, hq, rl⟩ := h1.lst_at c
      refine ⟨a, vs, rfl, .inl (.inl hq), fun q hq0 => ?_⟩
      have sd := x1.ft.sd
      have g2 : Go S1 H1 [] S1 (upd H1 q (.lst vs.reverse)) [q] := go_new sd hq0 [q] (fun _ z => by simpa using z)
      obtain ⟨a1, a2, a3⟩ := own_end (T1 := []) (by simpa using g1) x1 g2 (ft_new sd hq0)
      exact y1 (.ref q) S1 _ F1 [q] a1 a2 (rep_lst sd hq0 rl.rev) a3
    · exact y1.elim
  · exact y1.elim
end
end DL

/-! DBody: a def by its body; the law's end. -/
namespace DL
open PySem PySem.Spec PyProof.Rows L2
def startE (n : Nat) (ds : List D) : Env := ds.map some ++ List.replicate (n - ds.length) none
section
variable {K : PySem.W.Frag} {S S' : Addr → Prop} {H H' : Hp} {F F' T : Fp} {σ : L2.St} {r : Env}
theorem repE_none : ∀ n : Nat, RepE K S H (List.replicate n none) (List.replicate n none) []
  | 0 => ⟨rfl, rfl⟩
  | n + 1 => ⟨none, _, rfl, repE_none n⟩
theorem repE_start {n : Nat} : ∀ {ds : List D} {vs : List V} {T : Fp}, RepL K S H ds vs T → RepE K S H (ds.map some ++ List.replicate n none) (vs.map some ++ List.replicate n none) T
  | [], vs, T, h => by obtain ⟨rfl, rfl⟩ := h; exact repE_none n
  | d :: ds, vs, T, h => by
    obtain ⟨v, t, F1, F2, e1, e2, h1, h2⟩ := h
    subst e1 e2
    exact ⟨v, _, F1, F2, rfl, rfl, h1, repE_start h2⟩
end
def outP : SR → PR D
  | .nx _ => .ok .non
  | .rt d _ => .ok d
  | .exc c _ => .exc c
  | _ => .stk
def slot0 (r : Env) : Option D := match r[0]? with
  | some (some o) => some o
  | _ => none
theorem slot0_some {r : Env} {o : D} (h : slot0 r = some o) : r[0]? = some (some o) := by
  unfold slot0 at h
  split at h
  · rename_i e; cases h; exact e
  · cases h
def outM : SR → MR
  | .nx r => (slot0 r).elim .stk fun o => .ok .non o
  | .rt d r => (slot0 r).elim .stk fun o => .ok d o
  | .exc c r => (slot0 r).elim .stk fun o => .exc c o
  | _ => .stk
section
variable {P : Program} {w : World} {K : PySem.W.Frag} {mg : Str → Option Value} {base : Heap} {x qual : Str} {st : Stmt} {f : Addr} {fd : FuncData} {N ps : List Str} {k : Nat}

abbrev wE (E : XK) : WX := fun c d _ H => E c d H
theorem fnD_of {m : List D → PR D} {B : Env → SR} (F : Fun K x qual st f fd) (Sc : FnScope N ps (defScope st))
    (hb : ∀ (cdv : Value) (A : Around) (outer : List PySem.Env) (s : Shared) (H : Hp) (E : XK), Room k (A.deeper (envOfC qual (defScope st) s.heap.objs.size f cdv)) → DSs (cxOf (L2.CX P w) P w K mg base N qual (defScope st) f cdv A outer s H E) (wE E) [] (defBody st) B)
    (hm : ∀ ds : List D, ds.length = ps.length → m ds = outP (B (startE N.length ds))) : FnD P w K mg base (k + 1) f fd ps m := by
  refine F.okX Sc (fun vs H Q E h => h.1) (fun cdv A outer s H vs Q E hr h => ?_)
  obtain ⟨t, q, z⟩ := hb cdv A outer s H E hr
  obtain ⟨hl, S, ds, T, rl, ft, h⟩ := h
  refine ⟨t, q, z S H (startE N.length ds) (L2.start N vs) T _ ⟨ft, ?_⟩ ?_⟩
  · unfold startE L2.start
    rw [rl.len]
    exact repE_start rl
  · have hlen : ds.length = ps.length := by rw [rl.len]; exact hl
    rw [hm ds hlen] at h
    cases eB : B (startE N.length ds) with
    | nx r => rw [eB] at h; exact fun σ' S' H' F' g x' fi => h .non S' H' [] (g.sub fun _ z => nomatch z) ⟨rfl, rfl⟩ (Ft.nil x'.ft.sd)
    | rt d r => rw [eB] at h; exact fun v σ' S' H' F' T' g x' hv f' fi => h v S' H' T' (g.sub fun b z => List.mem_append_left _ z) hv f'.left
    | exc c r => rw [eB] at h; exact fun σ' S' H' F' g x' fi => h S' H' (g.sub fun _ z => nomatch z) (Ft.nil x'.ft.sd)
    | bk r => rw [eB] at h; exact h.elim
    | ct r => rw [eB] at h; exact h.elim
    | stk => rw [eB] at h; exact h.elim
theorem fnM_of {m : List D → MR} {B : Env → SR} (F : Fun K x qual st f fd) (Sc : FnScope N ps (defScope st)) (h0 : 0 < ps.length)
    (hb : ∀ (cdv : Value) (A : Around) (outer : List PySem.Env) (s : Shared) (H : Hp) (E : XK), Room k (A.deeper (envOfC qual (defScope st) s.heap.objs.size f cdv)) → DSs (cxOf (L2.CX P w) P w K mg base N qual (defScope st) f cdv A outer s H E) (wE E) [0] (defBody st) B)
    (hm : ∀ ds : List D, ds.length = ps.length → m ds = outM (B (startE N.length ds))) : FnM P w K mg base (k + 1) f fd ps m := by
  refine F.okX Sc (fun vs H Q E h => h.1) (fun cdv A outer s H vs Q E hr h => ?_)
  obtain ⟨t, q, z⟩ := hb cdv A outer s H E hr
  obtain ⟨hl, _, S, ds, T, rl, ft, h⟩ := h
  refine ⟨t, q, z S H (startE N.length ds) (L2.start N vs) T _ ⟨ft, ?_⟩ ?_⟩
  · unfold startE L2.start
    rw [rl.len]
    exact repE_start rl
  · have hlen : ds.length = ps.length := by rw [rl.len]; exact hl
    rw [hm ds hlen] at h
    obtain ⟨v0, vr, ev⟩ : ∃ v0 vr, vs = v0 :: vr := by
      cases vs with
      | nil => simp at hl; omega
      | cons a b => exact ⟨a, b, rfl⟩
    have s0 : (L2.start N vs)[0]? = some (some v0) := by rw [ev]; rfl
    have g0 : vs.getD 0 .non = v0 := by rw [ev]; rfl
    rw [g0] at h
    -- what stands in slot 0 at the end
    have last : ∀ {r : Env} {o : D} {σ' : L2.St} {S' : Addr → Prop} {H' : Hp} {F' : Fp}, r[0]? = some (some o) → At K S' H' r σ' F' → Fix [0] (L2.start N vs) σ' → ∃ T2, Rep K S' H' o v0 T2 ∧ (∀ b ∈ T2, b ∈ F') ∧ Ft S' H' T2 := fun {r o σ' S' H' F'} e x' fi => by
      obtain ⟨v, T2, F2, a1, a2, a3, a4, a5⟩ := x'.take e
      have := fi.at_ 0 (by simp)
      rw [s0, a1] at this
      cases this
      exact ⟨T2, a2, fun b z => (a5 b).mp (List.mem_append_left _ z), a4.left⟩
    cases eB : B (startE N.length ds) with
    | nx r =>
      rw [eB] at h
      intro σ' S' H' F' g x' fi
      cases e0 : slot0 r with
      | none =>
        rw [show outM (.nx r) = .stk from by show Option.elim (slot0 r) _ _ = _; rw [e0]; rfl] at h
        exact h.elim
      | some o =>
        rw [show outM (.nx r) = .ok .non o from by show Option.elim (slot0 r) _ _ = _; rw [e0]; rfl] at h
        obtain ⟨T2, a1, a2, a3⟩ := last (slot0_some e0) x' fi
        exact h .non S' H' [] T2 (g.sub (by simpa using a2)) ⟨rfl, rfl⟩ a1 (by simpa using a3)
    | rt d r =>
      rw [eB] at h
      intro v σ' S' H' F' T' g x' hv f' fi
      cases e0 : slot0 r with
      | none =>
        rw [show outM (.rt d r) = .stk from by show Option.elim (slot0 r) _ _ = _; rw [e0]; rfl] at h
        exact h.elim
      | some o =>
        rw [show outM (.rt d r) = .ok d o from by show Option.elim (slot0 r) _ _ = _; rw [e0]; rfl] at h
        obtain ⟨T2, a1, a2, a3⟩ := last (slot0_some e0) x' fi
        refine h v S' H' T' T2 (g.sub fun b z => ?_) hv a1 (f'.narrow a3 a2)
        rcases List.mem_append.mp z with z | z
        · exact List.mem_append_left _ z
        · exact List.mem_append_right _ (a2 b z)
    | exc c r =>
      rw [eB] at h
      intro σ' S' H' F' g x' fi
      cases e0 : slot0 r with
      | none =>
        rw [show outM (.exc c r) = .stk from by show Option.elim (slot0 r) _ _ = _; rw [e0]; rfl] at h
        exact h.elim
      | some o =>
        rw [show outM (.exc c r) = .exc c o from by show Option.elim (slot0 r) _ _ = _; rw [e0]; rfl] at h
        obtain ⟨T2, a1, a2, a3⟩ := last (slot0_some e0) x' fi
        exact h S' H' T2 (g.sub a2) a1 a3
    | bk r => rw [eB] at h; exact h.elim
    | ct r => rw [eB] at h; exact h.elim
    | stk => rw [eB] at h; exact h.elim
/-- within a body: the wish about exceptions is taken -/
theorem takes_body {cdv : Value} {A : Around} {outer : List PySem.Env} {s : Shared} {H : Hp} {E : XK} : Takes (cxOf (L2.CX P w) P w K mg base N qual (defScope st) f cdv A outer s H E) (wE E) := takes_of rfl rfl rfl rfl
/-! ### the law -/
def spLaw (K : PySem.W.Frag) : Sp := fun vs H Q _ => ∃ (a : Addr) (ns : List Int), vs = [.ref a] ∧ ns.length ≤ 63 ∧ Only H ∧ SqL K H a (ns.map V.int) ∧ ∀ H', Q (.bl true) H'
theorem law_imp {m : List D → PR D} {ps : List Str} (hps : ps.length = 1) (F : FnD P w K mg base k f fd ps m) (hm : ∀ ns : List Int, ns.length ≤ 63 → m [.scr ns] = .ok (.bl true)) : FnOk P w K mg base (L2.CX P w) k f fd ps (spLaw K) := by
  refine F.imp fun vs H Q E h => ?_
  obtain ⟨a, ns, rfl, hl, ho, hs, q⟩ := h
  refine ⟨hps.symm, fun _ => False, [.scr ns], [], ⟨.ref a, [], [], [], rfl, rfl, ⟨rfl, a, rfl, ?_⟩, rfl, rfl⟩, Ft.nil (fun _ z => z.elim), ?_⟩
  · rcases hs with (hs | ⟨o, hs⟩) | hs
    · rcases ho a with z | ⟨o, xs, z⟩
      · rw [hs] at z; cases z
      · rw [hs] at z; cases z
    · exact .inl ⟨o, hs⟩
    · exact .inr hs
  · rw [hm ns hl]
    intro v S' H' T' g hv f'
    obtain ⟨rfl, _⟩ := hv
    exact q H'
end
end DL

/-! DNames: the data functions by name, and the rules said with them. -/
namespace DL
open PySem PySem.Spec PyProof.Rows L2
/-! ### the functions -/
abbrev EP := Env → PR D
abbrev EE := Env → Res D
abbrev BP := Env → PR Bool
abbrev BE := Env → Res Bool
def pC (d : D) : EP := fun _ => .ok d
def eSh (P : EP) : EE := fun r => ((P r).up r).bind shO
def eUp (P : EP) : EE := fun r => (P r).up r
def tUp (P : BP) : BE := fun r => (P r).up r
def pOp (g : D → D → Option D) (A B : EP) : EP := fun r => (A r).bind fun x => (B r).bind fun y => opP (g x) y
def eOp (g : D → D → Option D) (A B : EE) : EE := fun r => (A r).bind fun x r1 => (B r1).bind fun y r2 => opE (g x) y r2
def pUn (g : D → Option D) (A : EP) : EP := fun r => (A r).bind (opP g)
def eUn (g : D → Option D) (A : EE) : EE := fun r => (A r).bind (opE g)
def bP (P : EP) : BP := fun r => (P r).bind asBp
def bE (E : EE) : BE := fun r => (E r).bind asB
def tNot (E : BE) : BE := fun r => (E r).bind fun k r1 => .ok (!k) r1
def tpNot (E : BP) : BP := fun r => (E r).bind fun k => .ok (!k)
def tAnd (E G : BE) : BE := fun r => (E r).bind fun k r1 => if k = true then G r1 else .ok false r1
def tOr (E G : BE) : BE := fun r => (E r).bind fun k r1 => if k = true then .ok true r1 else G r1
def tpAnd (E G : BP) : BP := fun r => (E r).bind fun k => if k = true then G r else .ok false
def tpOr (E G : BP) : BP := fun r => (E r).bind fun k => if k = true then .ok true else G r
def pAnd (E G : EP) : EP := fun r => ((E r).bind asBp).bind fun k => if k = true then G r else .ok (.bl false)
def pOr (E G : EP) : EP := fun r => ((E r).bind asBp).bind fun k => if k = true then .ok (.bl true) else G r
def eAnd (E G : EE) : EE := fun r => ((E r).bind asB).bind fun k r1 => if k = true then G r1 else .ok (.bl false) r1
def eOr (E G : EE) : EE := fun r => ((E r).bind asB).bind fun k r1 => if k = true then .ok (.bl true) r1 else G r1
def pNot (E : EP) : EP := fun r => ((E r).bind asBp).bind fun k => .ok (.bl !k)
def eIf (E : BE) (A B : EE) : EE := fun r => (E r).bind fun k r1 => if k = true then A r1 else B r1
def pIf (E : BP) (A B : EP) : EP := fun r => (E r).bind fun k => if k = true then A r else B r
def pIx (A B : EP) : EP := fun r => (A r).bind fun x => (B r).bind fun y => opP (dIx x) y
def eIx (A B : EE) : EE := fun r => (A r).bind fun x r1 => (B r1).bind fun y r2 => (opE (dIx x) y r2).bind shO
def aNil : Env → Res (List D) := fun r => .ok [] r
def aCons (E : EE) (G : Env → Res (List D)) : Env → Res (List D) := fun r => (E r).bind fun d r1 => (G r1).bind fun ds r2 => .ok (d :: ds) r2
def paNil : Env → PR (List D) := fun _ => .ok []
def paCons (E : EP) (G : Env → PR (List D)) : Env → PR (List D) := fun r => (E r).bind fun d => (G r).bind fun ds => .ok (d :: ds)
def eTup (A : Env → Res (List D)) : EE := fun r => (A r).bind tupE
def pTup (A : Env → PR (List D)) : EP := fun r => (A r).bind fun ds => if ds.length ≤ sizeLine then .ok (.tup ds) else .stk
def eLst (A : Env → Res (List D)) : EE := fun r => (A r).bind lstE
def pLst (A : Env → PR (List D)) : EP := fun r => (A r).bind fun ds => if ds.length ≤ sizeLine then .ok (.lst true ds) else .stk
def eCB (g : List D → Option D) (A : Env → Res (List D)) : EE := fun r => (A r).bind (opE g)
def pCB (g : List D → Option D) (A : Env → PR (List D)) : EP := fun r => (A r).bind (opP g)
def epCB (g : List D → Option D) (A : Env → PR (List D)) : EE := fun r => ((A r).up r).bind (opE g)
def eCall (n : Nat) (m : List D → PR D) (A : Env → Res (List D)) : EE := fun r => (A r).bind (callE n m)
def pCall (n : Nat) (m : List D → PR D) (A : Env → PR (List D)) : EP := fun r => (A r).bind (callP n m)
def eCallM (n : Nat) (m : List D → MR) (i : Nat) (A : Env → Res (List D)) : EE := fun r => match r[i]? with
  | some (some _) => (A r).bind (callME n m i)
  | _ => .stk
def eApp (i : Nat) (E : EE) : EE := fun r => if isL r[i]? = true then (E r).bind (appE i) else .stk
def eRev (E : EE) : EE := fun r => (E r).bind revE
def iSq (E : EE) : Env → Res (List D) := fun r => (E r).bind itemsE
def iR1 (E : Env → Res (List D)) : Env → Res (List D) := fun r => (E r).bind rng1E
def iR2 (E : Env → Res (List D)) : Env → Res (List D) := fun r => (E r).bind rng2E
def tYes : BE := fun r => .ok true r
def eLc (G : D → Env → Option Env) (T : BE) (E : EE) (vs : List Nat) (I : Env → Res (List D)) : EE := fun r => (I r).bind fun ds r1 => (lcL G T E vs ds [] (wipeE r1 vs)).bind fun acc r2 => .ok (.lst true acc) r2
def sSeq (B C : Env → SR) : Env → SR := fun r => (B r).seq C
def sExpr (E : EE) : Env → SR := fun r => (E r).thn fun _ r1 => .nx r1
def sRet (E : EE) : Env → SR := fun r => (E r).thn fun d r1 => .rt d r1
def sRetN : Env → SR := fun r => .rt .non r
def sIf (T : BE) (B C : Env → SR) : Env → SR := fun r => (T r).thn fun k r1 => if k = true then B r1 else C r1
def sSet (i : Nat) (E : EE) : Env → SR := fun r => (E r).thn (setS i)
def sAsg (G : D → Env → Option Env) (E : EE) : Env → SR := fun r => (E r).thn (asgS G)
def sPar (i j : Nat) (E : Env → Res (List D)) : Env → SR := fun r => (E r).thn (parS i j)
def sAug (i : Nat) (g : D → D → Option D) (E : EE) : Env → SR := fun r => match r[i]? with
  | some (some d0) => if d0.sh = true then (E r).thn (augS i g d0) else .stk
  | _ => .stk
def sFor (I : Env → Res (List D)) (G : D → Env → Option Env) (B : Env → SR) : Env → SR := fun r => (I r).thn (forL G B)
def sWhile (n : Nat) (T : BE) (B : Env → SR) : Env → SR := whileL T B n
/-! ### the rules -/
section
variable {X : Cx} {W : WX} {fx : List Nat} {e a b c tg : Expr} {es : List Expr} {st : Stmt} {sts : List Stmt} {pos p p2 pos2 apos : Pos} {x : Str}
variable {A B C : EP} {E G : EE} {M : Env → Res (List D)} {PM : Env → PR (List D)}
theorem n_sh (h : DP X W e A) : DE X W e (eSh A) := de_of_dp h
theorem n_int {i j pos} : DP X W (.Constant (.int i) j pos) (pC (.int i)) := dp_int
theorem n_bl {b j pos} : DP X W (.Constant (.bool b) j pos) (pC (.bl b)) := dp_bl
theorem n_non {j pos} : DP X W (.Constant .none j pos) (pC .non) := dp_non
theorem n_str {z j pos} : DP X W (.Constant (.str z) j pos) (pC (.str z)) := dp_str
theorem n_pop {op : Operator} {q : R2} {g : D → D → Option D} (ho : OpR X (binaryOp op) q) (v : V2 X.K q g) (ha : DP X W a A) (hb : DP X W b B) : DP X W (.BinOp a op b pos) (pOp g A B) := dp_op ho v ha hb
theorem n_epop {op : Operator} {q : R2} {g : D → D → Option D} (ho : OpR X (binaryOp op) q) (v : V2 X.K q g) (ha : DP X W a A) (hb : DP X W b B) : DE X W (.BinOp a op b pos) (eUp (pOp g A B)) := dpe_op ho v ha hb
theorem n_eop {op : Operator} {q : R2} {g : D → D → Option D} (ho : OpR X (binaryOp op) q) (v : V2 X.K q g) (ha : DE X W a E) (hb : DE X W b G) : DE X W (.BinOp a op b pos) (eOp g E G) := de_op ho v ha hb
theorem n_pun {op : UnaryOp} {q : V → Hp → VK → Prop} {g : D → Option D} (ho : UnR X (unaryOp op) q) (v : V1 X.K q g) (ha : DP X W a A) : DP X W (.UnaryOp op a pos) (pUn g A) := dp_un ho v ha
theorem n_eun {op : UnaryOp} {q : V → Hp → VK → Prop} {g : D → Option D} (ho : UnR X (unaryOp op) q) (v : V1 X.K q g) (ha : DE X W a E) : DE X W (.UnaryOp op a pos) (eUn g E) := de_un ho v (dr_of_de ha)
theorem n_pcmp {op : CmpOp} {q : R2} {g : D → D → Option D} (ho : OpR X (compareOp op) q) (v : V2 X.K q g) (hm : behindInMarks op b = false) (ha : DP X W a A) (hb : DP X W b B) : DP X W (.Compare a [op] [b] pos) (pOp g A B) := dp_cmp ho v hm ha hb
theorem n_ecmp {op : CmpOp} {q : R2} {g : D → D → Option D} (ho : OpR X (compareOp op) q) (v : V2 X.K q g) (hm : behindInMarks op b = false) (ha : DE X W a E) (hb : DE X W b G) : DE X W (.Compare a [op] [b] pos) (eOp g E G) := de_cmp ho v hm ha hb
theorem n_tpcmp {op : CmpOp} {q : R2} {g : D → D → Option D} (ho : OpR X (compareOp op) q) (v : V2 X.K q g) (hm : behindInMarks op b = false) (ha : DP X W a A) (hb : DP X W b B) : DTp X W (.Compare a [op] [b] pos) (bP (pOp g A B)) := dtp_cmp ho v hm ha hb
theorem n_tcmp {op : CmpOp} {q : R2} {g : D → D → Option D} (ho : OpR X (compareOp op) q) (v : V2 X.K q g) (hm : behindInMarks op b = false) (ha : DE X W a E) (hb : DE X W b G) : DT X W (.Compare a [op] [b] pos) (bE (eOp g E G)) := dt_cmp ho v hm ha hb
theorem n_pch {op op' : CmpOp} {q q' : R2} {g g' : D → D → Option D} (ho : OpR X (compareOp op) q) (ho' : OpR X (compareOp op') q') (v : V2 X.K q g) (v' : V2 X.K q' g') (ha : DP X W a A) (hb : DP X W b B) (hc : DP X W c C)
    (hm : lastMarks [op, op'] [b, c] = false := by with_unfolding_all rfl) : DP X W (.Compare a [op, op'] [b, c] pos) (chP g g' A B C) := dp_chain ho ho' v v' ha hb hc hm
theorem n_tpch {op op' : CmpOp} {q q' : R2} {g g' : D → D → Option D} (ho : OpR X (compareOp op) q) (ho' : OpR X (compareOp op') q') (v : V2 X.K q g) (v' : V2 X.K q' g') (ha : DP X W a A) (hb : DP X W b B) (hc : DP X W c C)
    (hm : lastMarks [op, op'] [b, c] = false := by with_unfolding_all rfl) : DTp X W (.Compare a [op, op'] [b, c] pos) (bP (chP g g' A B C)) := dtp_chain ho ho' v v' ha hb hc hm
theorem n_tup_ {P : BP} (h : DTp X W e P) : DT X W e (tUp P) := dt_of_dtp h
theorem n_tval (h : DE X W e E) (he : ∀ whole, isTrue e X.env whole = (do let v ← whole; standAt e.pos; holding [v] (truthy v)) := by intro _; rfl) : DT X W e (bE E) := dt_val (dr_of_de h) he
theorem n_tpval (h : DP X W e A) (he : ∀ whole, isTrue e X.env whole = (do let v ← whole; standAt e.pos; holding [v] (truthy v)) := by intro _; rfl) : DTp X W e (bP A) := dtp_val h he
theorem n_tnot {T : BE} (h : DT X W a T) : DT X W (.UnaryOp .Not a pos) (tNot T) := dt_not h
theorem n_tpnot {T : BP} (h : DTp X W a T) : DTp X W (.UnaryOp .Not a pos) (tpNot T) := dtp_not h
theorem n_wand {rest : List Expr} {T U : BE} (h : DT X W a T) (h' : DW X W (.BoolOp .And (b :: rest) pos) U) : DW X W (.BoolOp .And (a :: b :: rest) pos) (tAnd T U) := dw_and h h'
theorem n_wor {rest : List Expr} {T U : BE} (h : DT X W a T) (h' : DW X W (.BoolOp .Or (b :: rest) pos) U) : DW X W (.BoolOp .Or (a :: b :: rest) pos) (tOr T U) := dw_or h h'
theorem n_wpand {rest : List Expr} {T U : BP} (h : DTp X W a T) (h' : DWp X W (.BoolOp .And (b :: rest) pos) U) : DWp X W (.BoolOp .And (a :: b :: rest) pos) (tpAnd T U) := dwp_and h h'
theorem n_wpor {rest : List Expr} {T U : BP} (h : DTp X W a T) (h' : DWp X W (.BoolOp .Or (b :: rest) pos) U) : DWp X W (.BoolOp .Or (a :: b :: rest) pos) (tpOr T U) := dwp_or h h'
theorem n_pand {rest : List Expr} (h : DP X W a A) (h' : DP X W (.BoolOp .And (b :: rest) pos) B) : DP X W (.BoolOp .And (a :: b :: rest) pos) (pAnd A B) := dp_and h h'
theorem n_por {rest : List Expr} (h : DP X W a A) (h' : DP X W (.BoolOp .Or (b :: rest) pos) B) : DP X W (.BoolOp .Or (a :: b :: rest) pos) (pOr A B) := dp_or h h'
theorem n_eand {rest : List Expr} (h : DE X W a E) (h' : DE X W (.BoolOp .And (b :: rest) pos) G) : DE X W (.BoolOp .And (a :: b :: rest) pos) (eAnd E G) := de_and h h'
theorem n_eor {rest : List Expr} (h : DE X W a E) (h' : DE X W (.BoolOp .Or (b :: rest) pos) G) : DE X W (.BoolOp .Or (a :: b :: rest) pos) (eOr E G) := de_or h h'
theorem n_pnot (h : DP X W a A) : DP X W (.UnaryOp .Not a pos) (pNot A) := dp_not h
theorem n_eif {T : BE} (h : DT X W c T) (ha : DE X W a E) (hb : DE X W b G) : DE X W (.IfExp c a b pos) (eIf T E G) := de_if h ha hb
theorem n_pif {T : BP} (h : DTp X W c T) (ha : DP X W a A) (hb : DP X W b B) : DP X W (.IfExp c a b pos) (pIf T A B) := dp_if h ha hb
theorem n_pix (ha : DP X W a A) (hb : DP X W b B) (hs : PlainIx b := by intro _ _; rfl) : DP X W (.Subscript a b pos) (pIx A B) := dp_ix ha hb hs
theorem n_eix (ha : DE X W a E) (hb : DE X W b G) (hs : PlainIx b := by intro _ _; rfl) : DE X W (.Subscript a b pos) (eIx E G) := de_ix ha hb hs
theorem n_anil : DA X W [] aNil := da_nil
theorem n_acons (ha : DE X W e E) (hb : DA X W es M) (hs : starEach (e :: es) X.env = (false, eval e X.env) :: starEach es X.env := by rfl) : DA X W (e :: es) (aCons E M) := da_cons ha hb hs
theorem n_panil : DPA X W [] paNil := dpa_nil
theorem n_pacons (ha : DP X W e A) (hb : DPA X W es PM) (hs : starEach (e :: es) X.env = (false, eval e X.env) :: starEach es X.env := by rfl) : DPA X W (e :: es) (paCons A PM) := dpa_cons ha hb hs
theorem n_etup {k : Nat} (h : DA X W es M) : DE X W (.Tuple es k pos) (eTup M) := de_tup h
theorem n_ptup {k : Nat} (h : DPA X W es PM) : DP X W (.Tuple es k pos) (pTup PM) := dp_tup h
theorem n_elst (h : DA X W es M) : DE X W (.List es pos) (eLst M) := de_lst h
theorem n_plst (h : DPA X W es PM) : DP X W (.List es pos) (pLst PM) := dp_lst h
variable {id T0 : String} {q : List V → Hp → VK → Prop} {g : List D → Option D}
theorem n_ecb (hc : CallR X (.builtin id) q) (v : VL X.K q g) (hm : X.mg x = none) (hv : bootBuiltins x = some (.builtin id)) (ha : DA X W (e :: es) M) (hg : Gl X x := by rfl) (hn : x ≠ "__name__" := by decide) (hdb : (x == ("__debug__" : Str)) = false := by decide)
    (hs : starEach (e :: es) X.env = (false, eval e X.env) :: starEach es X.env := by rfl) (hp : (backTo pos (starEach es X.env)).any (·.1) = false := by rfl) : DE X W (.Call (.Name x p) (e :: es) [] pos) (eCB g M) := de_callB hc v hg hm hv ha hn hdb hs hp
theorem n_pcb (hc : CallR X (.builtin id) q) (v : VL X.K q g) (hm : X.mg x = none) (hv : bootBuiltins x = some (.builtin id)) (ha : DPA X W (e :: es) PM) (hg : Gl X x := by rfl) (hn : x ≠ "__name__" := by decide) (hdb : (x == ("__debug__" : Str)) = false := by decide)
    (hs : starEach (e :: es) X.env = (false, eval e X.env) :: starEach es X.env := by rfl) (hp : (backTo pos (starEach es X.env)).any (·.1) = false := by rfl) : DP X W (.Call (.Name x p) (e :: es) [] pos) (pCB g PM) := dp_callB hc v hg hm hv ha hn hdb hs hp
theorem n_epcb (hc : CallR X (.builtin id) q) (v : VL X.K q g) (hm : X.mg x = none) (hv : bootBuiltins x = some (.builtin id)) (ha : DPA X W (e :: es) PM) (hg : Gl X x := by rfl) (hn : x ≠ "__name__" := by decide) (hdb : (x == ("__debug__" : Str)) = false := by decide)
    (hs : starEach (e :: es) X.env = (false, eval e X.env) :: starEach es X.env := by rfl) (hp : (backTo pos (starEach es X.env)).any (·.1) = false := by rfl) : DE X W (.Call (.Name x p) (e :: es) [] pos) (epCB g PM) := dpe_callB hc v hg hm hv ha hn hdb hs hp
theorem n_ect (hc : CallR X (.type T0) q) (v : VL X.K q g) (hm : X.mg x = none) (hv : bootBuiltins x = some (.type T0)) (ha : DA X W (e :: es) M) (hg : Gl X x := by rfl) (hn : x ≠ "__name__" := by decide) (hdb : (x == ("__debug__" : Str)) = false := by decide)
    (hs : starEach (e :: es) X.env = (false, eval e X.env) :: starEach es X.env := by rfl) (hp : (backTo pos (starEach es X.env)).any (·.1) = false := by rfl) : DE X W (.Call (.Name x p) (e :: es) [] pos) (eCB g M) := de_callT hc v hg hm hv ha hn hdb hs hp
theorem n_pct (hc : CallR X (.type T0) q) (v : VL X.K q g) (hm : X.mg x = none) (hv : bootBuiltins x = some (.type T0)) (ha : DPA X W (e :: es) PM) (hg : Gl X x := by rfl) (hn : x ≠ "__name__" := by decide) (hdb : (x == ("__debug__" : Str)) = false := by decide)
    (hs : starEach (e :: es) X.env = (false, eval e X.env) :: starEach es X.env := by rfl) (hp : (backTo pos (starEach es X.env)).any (·.1) = false := by rfl) : DP X W (.Call (.Name x p) (e :: es) [] pos) (pCB g PM) := dp_callT hc v hg hm hv ha hn hdb hs hp
theorem n_epct (hc : CallR X (.type T0) q) (v : VL X.K q g) (hm : X.mg x = none) (hv : bootBuiltins x = some (.type T0)) (ha : DPA X W (e :: es) PM) (hg : Gl X x := by rfl) (hn : x ≠ "__name__" := by decide) (hdb : (x == ("__debug__" : Str)) = false := by decide)
    (hs : starEach (e :: es) X.env = (false, eval e X.env) :: starEach es X.env := by rfl) (hp : (backTo pos (starEach es X.env)).any (·.1) = false := by rfl) : DE X W (.Call (.Name x p) (e :: es) [] pos) (epCB g PM) := dpe_callT hc v hg hm hv ha hn hdb hs hp
theorem n_isi (t : Ty) (hm : X.mg "isinstance" = none) (hmT : X.mg x = none) (hbT : bootBuiltins x = some (.type t.nm)) (ha : DP X W e A) (hg : Gl X "isinstance" := by rfl) (hgT : Gl X x := by rfl) (hn : x ≠ "__name__" := by decide) (hd : (x == ("__debug__" : Str)) = false := by decide)
    (hs : starEach [e, .Name x p2] X.env = (false, eval e X.env) :: starEach [.Name x p2] X.env := by rfl) (hs2 : starEach [.Name x p2] X.env = (false, eval (.Name x p2) X.env) :: starEach [] X.env := by rfl)
    (hp : (backTo pos (starEach [.Name x p2] X.env)).any (·.1) = false := by rfl) : DP X W (.Call (.Name "isinstance" p) [e, .Name x p2] [] pos) (pUn (dIsi t) A) := dp_isi t hg hm hgT hmT hbT ha hn hd hs hs2 hp
variable {k : Nat} {f : Addr} {fd : FuncData} {ps : List Str}
theorem n_ecall {m : List D → PR D} (tk : Takes X W) (Gf : FnD X.prog X.w X.K X.mg X.base k f fd ps m) (hr : Room k X.A) (hm : X.mg x = some (.ref f)) (hk : PySem.W.keepIn X.K (.ref f) = true) (hb : Binds X.K fd ps []) (ha : DA X W (e :: es) M) (hg : Gl X x := by rfl)
    (hdb : (x == ("__debug__" : Str)) = false := by decide) (he : starEach (e :: es) X.env = (false, eval e X.env) :: starEach es X.env := by rfl) (hpl : (backTo pos (starEach es X.env)).any (·.1) = false := by rfl) : DE X W (.Call (.Name x p) (e :: es) [] pos) (eCall ps.length m M) := de_call tk Gf hr hg hm hk hb ha hdb he hpl
theorem n_pcall {m : List D → PR D} (tk : Takes X W) (Gf : FnD X.prog X.w X.K X.mg X.base k f fd ps m) (hr : Room k X.A) (hm : X.mg x = some (.ref f)) (hk : PySem.W.keepIn X.K (.ref f) = true) (hb : Binds X.K fd ps []) (ha : DPA X W (e :: es) PM) (hg : Gl X x := by rfl)
    (hdb : (x == ("__debug__" : Str)) = false := by decide) (he : starEach (e :: es) X.env = (false, eval e X.env) :: starEach es X.env := by rfl) (hpl : (backTo pos (starEach es X.env)).any (·.1) = false := by rfl) : DP X W (.Call (.Name x p) (e :: es) [] pos) (pCall ps.length m PM) := dp_call tk Gf hr hg hm hk hb ha hdb he hpl
theorem n_epcall {m : List D → PR D} (tk : Takes X W) (Gf : FnD X.prog X.w X.K X.mg X.base k f fd ps m) (hr : Room k X.A) (hm : X.mg x = some (.ref f)) (hk : PySem.W.keepIn X.K (.ref f) = true) (hb : Binds X.K fd ps []) (ha : DPA X W (e :: es) PM) (hg : Gl X x := by rfl)
    (hdb : (x == ("__debug__" : Str)) = false := by decide) (he : starEach (e :: es) X.env = (false, eval e X.env) :: starEach es X.env := by rfl) (hpl : (backTo pos (starEach es X.env)).any (·.1) = false := by rfl) : DE X W (.Call (.Name x p) (e :: es) [] pos) (eUp (pCall ps.length m PM)) := dpe_call tk Gf hr hg hm hk hb ha hdb he hpl
theorem n_callM (i : Nat) {y : Str} {m : List D → MR} (tk : Takes X W) (Gf : FnM X.prog X.w X.K X.mg X.base k f fd ps m) (hr : Room k X.A) (hm : X.mg x = some (.ref f)) (hk : PySem.W.keepIn X.K (.ref f) = true) (hb : Binds X.K fd ps []) (ha : DA X W es M) (hg : Gl X x := by rfl)
    (hN : X.N[i]? = some y := by rfl) (hv : Vis X.env.scope y := by first | exact Or.inl rfl | exact Or.inr (Or.inl rfl) | exact Or.inr (Or.inr rfl)) (hdy : (y == ("__debug__" : Str)) = false := by decide) (hcd : (y == ("__classdict__" : Str)) = false := by decide)
    (hdb : (x == ("__debug__" : Str)) = false := by decide) (he : starEach (.Name y p2 :: es) X.env = (false, eval (.Name y p2) X.env) :: starEach es X.env := by rfl) (hpl : (backTo pos (starEach es X.env)).any (·.1) = false := by rfl) : DE X W (.Call (.Name x p) (.Name y p2 :: es) [] pos) (eCallM ps.length m i M) :=
  de_callM i tk Gf hr hg hm hk hb ha hN hv hdy hcd hdb he hpl
theorem n_app (i : Nat) (he : DE X W e E) (hN : X.N[i]? = some x := by rfl) (hv : Vis X.env.scope x := by first | exact Or.inl rfl | exact Or.inr (Or.inl rfl) | exact Or.inr (Or.inr rfl)) (hd : (x == ("__debug__" : Str)) = false := by decide) (hcd : (x == ("__classdict__" : Str)) = false := by decide)
    (hbase : attributeBase (.Name x p) "append" X.env (eval (.Name x p) X.env) = eval (.Name x p) X.env := by rfl)
    (hfew : ((backTo pos (starEach [e] X.env)).all (fun x => !x.1) && (backToKw pos (keywordEach [] X.env)).all (fun x => x.1.isSome) && decide ([e].length + ([] : List Keyword).length + (if ([] : List Keyword).isEmpty then 0 else 1) < 30)) = true := by rfl)
    (hline : (apos.endLine == pos.line) = true := by rfl) (hs : starEach [e] X.env = (false, eval e X.env) :: starEach [] X.env := by rfl) (hplain : (backTo pos (starEach [] X.env)).any (·.1) = false := by rfl) : DE X W (.Call (.Attribute (.Name x p) "append" apos) [e] [] pos) (eApp i E) := de_append i he hN hv hd hcd hbase hfew hline hs hplain
theorem n_rev (hc : X.calm = true) (hm : X.mg "list" = none) (hm2 : X.mg "reversed" = none) (he : DR X W e E) (hg : Gl X "list" := by rfl) (hg2 : Gl X "reversed" := by rfl) (hs : starEach [e] X.env = (false, eval e X.env) :: starEach [] X.env := by rfl)
    (hs2 : starEach [.Call (.Name "reversed" p2) [e] [] pos2] X.env = (false, eval (.Call (.Name "reversed" p2) [e] [] pos2) X.env) :: starEach [] X.env := by rfl) : DE X W (.Call (.Name "list" p) [.Call (.Name "reversed" p2) [e] [] pos2] [] pos) (eRev E) := de_lstRev hc hg hm hg2 hm2 he hs hs2
theorem n_isq (h : DE X W e E) : DI X W tg e (iSq E) := di_seq h
theorem n_ir1 (hm : X.mg "range" = none) (h : DA X W [a] M) (hg : Gl X "range" := by rfl) (hs : starEach [a] X.env = [(false, eval a X.env)] := by rfl) : DI X W tg (.Call (.Name "range" p) [a] [] pos) (iR1 M) := di_rng1 hg hm h hs
theorem n_ir2 (hm : X.mg "range" = none) (h : DA X W [a, b] M) (hg : Gl X "range" := by rfl) (hs : starEach [a, b] X.env = [(false, eval a X.env), (false, eval b X.env)] := by rfl) (hs2 : starEach [b] X.env = [(false, eval b X.env)] := by rfl) : DI X W tg (.Call (.Name "range" p) [a, b] [] pos) (iR2 M) := di_rng2 hg hm h hs hs2
theorem n_tyes : DTs X W [] tYes := dts_nil
theorem n_lc {elt iter : Expr} {ifs : List Expr} {scope : Scope} (own : List (Str × Nat)) {ws : List Nat} {I : Env → Res (List D)} {Gt : D → Env → Option Env} {Tt : BE} {Et : EE} (hc : X.calm = true) (hN : X.N.Nodup) (hi : DI X W tg iter I)
    (ok : BlkOk X.N X.env.scope scope own) (hg : ∀ (s : Shared) (H : Hp) (C : Addr) (cl : List (Str × Addr)) (fp : List Addr), DG (X.blk s H scope (compEnvC scope cl C X.env) fp) ws tg Gt)
    (ht : ∀ (s : Shared) (H : Hp) (C : Addr) (cl : List (Str × Addr)) (fp : List Addr), DTs (X.blk s H scope (compEnvC scope cl C X.env) fp) W0 ifs Tt)
    (he : ∀ (s : Shared) (H : Hp) (C : Addr) (cl : List (Str × Addr)) (fp : List Addr), DE (X.blk s H scope (compEnvC scope cl C X.env) fp) W0 elt Et) (hws : ∀ j ∈ ws, j ∈ own.map (·.2) := by decide) (hs : ∀ x, foldedSetIterable iter X.env x = pure x := by intro _; rfl) :
    DE X W (.ListComp elt [⟨tg, iter, ifs, 0⟩] scope pos) (eLc Gt Tt Et (own.map (·.2)) I) := de_lc hc hN hi ok hws hg ht he hs
theorem n_nil : DSs X W fx [] .nx := dss_nil
theorem n_cons {S1 S2 : Env → SR} (h1 : DS X W fx st S1) (h2 : DSs X W fx sts S2) : DSs X W fx (st :: sts) (sSeq S1 S2) := dss_cons h1 h2
theorem n_one {S1 : Env → SR} (h1 : DS X W fx st S1) : DSs X W fx [st] S1 := dss_one h1
theorem n_expr (he : DE X W e E) (hs : swapsWith e none pos.line X.env = pure false := by rfl) : DS X W fx (.Expr e pos) (sExpr E) := ds_expr he hs
theorem n_ret (he : DE X W e E) : DS X W fx (.Return (some e) pos) (sRet E) := ds_ret he
theorem n_retN : DS X W fx (.Return none pos) sRetN := ds_retN
theorem n_if {T : BE} {S1 S2 : Env → SR} {sa sb : List Stmt} (hc : DT X W c T) (ha : DSs X W fx sa S1) (hb : DSs X W fx sb S2) : DS X W fx (.If c sa sb pos) (sIf T S1 S2) := ds_if hc ha hb
theorem n_set (i : Nat) (hN : X.N.Nodup) (he : DE X W e E) (hi : X.N[i]? = some x := by rfl) (hx : Loc X.env.scope x := by first | exact Or.inl rfl | exact Or.inr rfl) (hfx : i ∉ fx := by decide) (hs : swapsWith e (some (.Name x p)) pos.line X.env = pure false := by rfl)
    (hf : X.fn x = true ∨ X.env.scope.names.lookup x = some .local := by first | exact .inl rfl | exact .inr rfl | assumption) : DS X W fx (.Assign [.Name x p] e pos) (sSet i E) := ds_set i hN hi hx he hfx hs hf
theorem n_setLc (i : Nat) {elt iter : Expr} {ifs : List Expr} {scope : Scope} (own : List (Str × Nat)) {ws : List Nat} {I : Env → Res (List D)} {Gt : D → Env → Option Env} {Tt : BE} {Et : EE} (hc : X.calm = true) (hN : X.N.Nodup)
    (hsw : swapsWith (.ListComp elt [⟨tg, iter, ifs, 0⟩] scope p2) (some (.Name x p)) pos.line X.env = pure true) (hit : DI X W tg iter I) (ok : BlkOk X.N X.env.scope scope own)
    (hg : ∀ (s : Shared) (H : Hp) (C : Addr) (cl : List (Str × Addr)) (fp : List Addr), DG (X.blk s H scope (compEnvC scope cl C X.env) fp) ws tg Gt)
    (ht : ∀ (s : Shared) (H : Hp) (C : Addr) (cl : List (Str × Addr)) (fp : List Addr), DTs (X.blk s H scope (compEnvC scope cl C X.env) fp) W0 ifs Tt)
    (he : ∀ (s : Shared) (H : Hp) (C : Addr) (cl : List (Str × Addr)) (fp : List Addr), DE (X.blk s H scope (compEnvC scope cl C X.env) fp) W0 elt Et) (hi : X.N[i]? = some x := by rfl) (hx : X.env.scope.names.lookup x = some .local := by rfl)
    (hws : ∀ j ∈ ws, j ∈ own.map (·.2) := by decide) (hfx : i ∉ fx := by decide) (hs : ∀ x, foldedSetIterable iter X.env x = pure x := by intro _; rfl) :
    DS X W fx (.Assign [.Name x p] (.ListComp elt [⟨tg, iter, ifs, 0⟩] scope p2) pos) (sSet i (eLc Gt Tt Et (own.map (·.2)) I)) := ds_setLc i hc hN hi hx hsw hit ok hws hg ht he hfx hs
theorem n_asg {ws : List Nat} {Gt : D → Env → Option Env} (he : DE X W e E) (hg : DG X ws tg Gt) (hw : ∀ i ∈ ws, i ∉ fx := by decide) (hs : swapsWithSole [tg] e pos.line X.env = pure false := by rfl) (hs2 : swappedStores [tg] e X.env = pure none := by rfl)
    (h1 : (assignEach [tg] X.env).map (·.2) = [assign tg X.env] := by rfl) : DS X W fx (.Assign [tg] e pos) (sAsg Gt E) := ds_asg he hg hw hs hs2 h1
theorem n_par (i j : Nat) {y : Str} {px py pt pt2 : Pos} {kt k2 : Nat} (hc : X.calm = true) (hN : X.N.Nodup) (ha : DA X W [a, b] M) (hi : X.N[i]? = some x := by rfl) (hj : X.N[j]? = some y := by rfl) (hx : X.env.scope.names.lookup x = some .local := by rfl) (hy : X.env.scope.names.lookup y = some .local := by rfl)
    (hij : i ≠ j := by decide) (hfi : i ∉ fx := by decide) (hfj : j ∉ fx := by decide) (hw : swappedStores [.Tuple [.Name x px, .Name y py] kt pt] (.Tuple [a, b] k2 pt2) X.env = pure (some [x, y]) := by rfl)
    (hs : swapsWithSole [.Tuple [.Name x px, .Name y py] kt pt] (.Tuple [a, b] k2 pt2) pos.line X.env = pure false := by rfl) : DS X W fx (.Assign [.Tuple [.Name x px, .Name y py] kt pt] (.Tuple [a, b] k2 pt2) pos) (sPar i j M) := ds_par i j hc hN hi hj hx hy ha hij hfi hfj hw hs
theorem n_aug (i : Nat) {op : Operator} {q : R2} {g : D → D → Option D} (ho : OpR X (inplaceOp op) q) (v : V2 X.K q g) (hN : X.N.Nodup) (he : DE X W e E) (hi : X.N[i]? = some x := by rfl) (hx : Loc X.env.scope x := by first | exact Or.inl rfl | exact Or.inr rfl) (hfx : i ∉ fx := by decide)
    (hf : X.fn x = true ∨ X.env.scope.names.lookup x = some .local := by first | exact .inl rfl | exact .inr rfl | assumption) : DS X W fx (.AugAssign (.Name x p) op e pos) (sAug i g E) := ds_aug i ho v hN hi hx he hfx hf
theorem n_for {iter : Expr} {ws : List Nat} {I : Env → Res (List D)} {Gt : D → Env → Option Env} {S1 : Env → SR} (hp : PassesOwn (model X.prog X.w) X.A X.env X.xe) (hc : X.calm = true) (hi : DI X W tg iter I) (hg : DG X ws tg Gt) (hb : DSs X W fx sts S1) (hw : ∀ i ∈ ws, i ∉ fx := by decide)
    (hs : ∀ x, foldedSetIterable iter X.env x = pure x := by intro _; rfl) : DS X W fx (.For tg iter sts [] pos) (sFor I Gt S1) := ds_for hp hc hi hg hb hw hs
theorem n_while (n : Nat) {T : BE} {S1 : Env → SR} (hp : PassesOwn (model X.prog X.w) X.A X.env X.xe) (hc : DT X W c T) (hb : DSs X W fx sts S1) : DS X W fx (.While c sts [] pos) (sWhile n T S1) := ds_while n hp hc hb
theorem n_gname (i : Nat) (hN : X.N.Nodup) (hi : X.N[i]? = some x := by rfl) (hx : Loc X.env.scope x := by first | exact Or.inl rfl | exact Or.inr rfl) (hf : X.fn x = true ∨ X.env.scope.names.lookup x = some .local := by first | exact .inl rfl | exact .inr rfl | assumption) : DG X [i] (.Name x pos) (setG i) := dg_name i hN hi hx hf
end
end DL

/-! DMore: builtins by name, the stuck def, three at once. -/
namespace DL
open PySem PySem.Spec PyProof.Rows L2
theorem bt_len : bootBuiltins "len" = some (.builtin "len") := by decide +kernel
theorem bt_abs : bootBuiltins "abs" = some (.builtin "abs") := by decide +kernel
theorem bt_min : bootBuiltins "min" = some (.builtin "min") := by decide +kernel
theorem bt_max : bootBuiltins "max" = some (.builtin "max") := by decide +kernel
theorem bt_int : bootBuiltins "int" = some (.type "int") := by decide +kernel
theorem bt_bool : bootBuiltins "bool" = some (.type "bool") := by decide +kernel
theorem bt_str : bootBuiltins "str" = some (.type "str") := by decide +kernel
theorem bt_tuple : bootBuiltins "tuple" = some (.type "tuple") := by decide +kernel
theorem bt_list : bootBuiltins "list" = some (.type "list") := by decide +kernel
theorem bt_dict : bootBuiltins "dict" = some (.type "dict") := by decide +kernel
/-- += on ints -/
def dAddI : D → D → Option D := fun a b => match a, b with | .int i, .int j => some (.int (i + j)) | _, _ => none
theorem v2_addI {K : PySem.W.Frag} : V2 K (rI0 fun i j => .int (i + j)) dAddI := v2_int0
section
variable {P : Program} {w : World} {K : PySem.W.Frag} {mg : Str → Option Value} {base : Heap} {f : Addr} {fd : FuncData} {ps : List Str} {k : Nat}
theorem fnD_stk {m : List D → PR D} (h : ∀ ds, m ds = .stk) : FnD P w K mg base k f fd ps m := by
  refine ⟨fun vs H Q E hs => ?_, fun A outer s H args us vs Q E hr I rl hb hs => ?_⟩ <;>
  · obtain ⟨_, S, ds, T, _, _, z⟩ := hs
    rw [h ds] at z
    exact z.elim
theorem fnM_stk {m : List D → MR} (h : ∀ ds, m ds = .stk) : FnM P w K mg base k f fd ps m := by
  refine ⟨fun vs H Q E hs => ?_, fun A outer s H args us vs Q E hr I rl hb hs => ?_⟩ <;>
  · obtain ⟨_, _, S, ds, T, _, _, z⟩ := hs
    rw [h ds] at z
    exact z.elim
end
end DL

/-! DSim: the data functions worked out by simp. -/
namespace DL
open PySem PySem.Spec PyProof.Rows L2
section
variable {α β : Type} {a : α} {r : DL.Env} {c : Str} {d x y : D} {i j : Int} {b : Bool} {ds : List D}
@[simp] theorem Res.bind_ok {f : α → Env → Res β} : (Res.ok a r).bind f = f a r := (rfl)
@[simp] theorem Res.bind_exc {f : α → Env → Res β} : (Res.exc c r).bind f = .exc c r := (rfl)
@[simp] theorem Res.bind_stk {f : α → Env → Res β} : (Res.stk).bind f = .stk := (rfl)
@[simp] theorem PR.bind_ok {f : α → PR β} : (PR.ok a).bind f = f a := (rfl)
@[simp] theorem PR.bind_exc {f : α → PR β} : (PR.exc c).bind f = .exc c := (rfl)
@[simp] theorem PR.bind_stk {f : α → PR β} : (PR.stk).bind f = .stk := (rfl)
@[simp] theorem PR.up_ok : (PR.ok a).up r = .ok a r := (rfl)
@[simp] theorem PR.up_exc : (PR.exc c : PR α).up r = .exc c r := (rfl)
@[simp] theorem Res.thn_ok {f : α → Env → SR} : (Res.ok a r).thn f = f a r := (rfl)
@[simp] theorem Res.thn_exc {f : α → Env → SR} : (Res.exc c r).thn f = .exc c r := (rfl)
@[simp] theorem Res.bindS_ok {f : α → Env → Res β} : (Res.ok a r).bindS f = f a r := (rfl)
@[simp] theorem SR.seq_nx {f : Env → SR} : (SR.nx r).seq f = f r := (rfl)
@[simp] theorem SR.seq_rt {f : Env → SR} : (SR.rt d r).seq f = .rt d r := (rfl)
@[simp] theorem SR.seq_exc {f : Env → SR} : (SR.exc c r).seq f = .exc c r := (rfl)
@[simp] theorem SR.seq_bk {f : Env → SR} : (SR.bk r).seq f = .bk r := (rfl)
@[simp] theorem SR.seq_ct {f : Env → SR} : (SR.ct r).seq f = .ct r := (rfl)
@[simp] theorem SR.loop_nx {f : Env → SR} : (SR.nx r).loop f = f r := (rfl)
@[simp] theorem SR.loop_ct {f : Env → SR} : (SR.ct r).loop f = f r := (rfl)
@[simp] theorem SR.loop_bk {f : Env → SR} : (SR.bk r).loop f = .nx r := (rfl)
@[simp] theorem SR.loop_rt {f : Env → SR} : (SR.rt d r).loop f = .rt d r := (rfl)
@[simp] theorem SR.loop_exc {f : Env → SR} : (SR.exc c r).loop f = .exc c r := (rfl)
@[simp] theorem PR.ite_ok {p : Prop} [Decidable p] {u v : α} : (if p then PR.ok u else PR.ok v) = PR.ok (if p then u else v) := by split <;> rfl
@[simp] theorem Res.ite_ok {p : Prop} [Decidable p] {u v : α} : (if p then Res.ok u r else Res.ok v r) = Res.ok (if p then u else v) r := by split <;> rfl
theorem SR.ite_seq {p : Prop} [Decidable p] {A B : SR} {f : Env → SR} : (if p then A else B).seq f = if p then A.seq f else B.seq f := by split <;> rfl
@[simp] theorem outP_nx : outP (.nx r) = .ok .non := (rfl)
@[simp] theorem outP_rt : outP (.rt d r) = .ok d := (rfl)
@[simp] theorem outP_exc : outP (.exc c r) = .exc c := (rfl)
@[simp] theorem slot0_cons : slot0 (some d :: r) = some d := (rfl)
@[simp] theorem outM_nx : outM (.nx (some x :: r)) = .ok .non x := (rfl)
@[simp] theorem outM_rt : outM (.rt d (some x :: r)) = .ok d x := (rfl)
@[simp] theorem outM_exc : outM (.exc c (some x :: r)) = .exc c x := (rfl)
@[simp] theorem getP_zero : getP 0 (some d :: r) = .ok d := (rfl)
@[simp] theorem getP_succ {o : Option D} {n : Nat} : getP (n + 1) (o :: r) = getP n r := (rfl)
@[simp] theorem takeE_some {n : Nat} (h : r[n]? = some (some d)) : takeE n r = .ok d (r.set n none) := by unfold takeE; rw [h]
@[simp] theorem shO_sh (h : d.sh = true) : shO d r = .ok d r := if_pos h
@[simp] theorem opE_some_ {g : α → Option β} {z : β} (h : g a = some z) : opE g a r = .ok z r := by unfold opE; rw [h]
@[simp] theorem opP_some_ {g : α → Option β} {z : β} (h : g a = some z) : opP g a = .ok z := by unfold opP; rw [h]
@[simp] theorem asB_bl : asB (.bl b) r = .ok b r := (rfl)
@[simp] theorem asBp_bl : asBp (.bl b) = .ok b := (rfl)
@[simp] theorem sh_non : D.sh .non = true := by simp [D.sh]
@[simp] theorem sh_bl : D.sh (.bl b) = true := by simp [D.sh]
@[simp] theorem sh_int : D.sh (.int i) = true := by simp [D.sh]
@[simp] theorem sh_str {z : Str} : D.sh (.str z) = true := by simp [D.sh]
@[simp] theorem sh_scr {ns : List Int} : D.sh (.scr ns) = true := by simp [D.sh]
@[simp] theorem sh_tup : D.sh (.tup ds) = D.shL ds := by simp [D.sh]
@[simp] theorem sh_lstF : D.sh (.lst false ds) = D.shL ds := by simp [D.sh]
@[simp] theorem shL_nil : D.shL [] = true := by simp [D.shL]
@[simp] theorem shL_cons : D.shL (d :: ds) = (d.sh && D.shL ds) := by simp [D.shL]
theorem shL_iff : D.shL ds = true ↔ ∀ d ∈ ds, d.sh = true := by induction ds with
  | nil => simp
  | cons a t ih => simp [ih]
@[simp] theorem shL_append {es : List D} : D.shL (ds ++ es) = (D.shL ds && D.shL es) := by induction ds with
  | nil => simp
  | cons a t ih => simp [ih, Bool.and_assoc]
@[simp] theorem shL_reverse : D.shL ds.reverse = D.shL ds := by
  rw [Bool.eq_iff_iff, shL_iff, shL_iff]; simp
@[simp] theorem shL_ints {L : List Int} : D.shL (L.map .int) = true := shL_iff.mpr (by simp)
theorem shL_map {L : List α} {f : α → D} (h : ∀ a ∈ L, (f a).sh = true) : D.shL (L.map f) = true := shL_iff.mpr (by simpa using h)
@[simp] theorem dAdd_int : dAdd (.int i) (.int j) = some (.int (i + j)) := (rfl)
@[simp] theorem dAddI_int : dAddI (.int i) (.int j) = some (.int (i + j)) := (rfl)
@[simp] theorem dSub_int : dSub (.int i) (.int j) = some (.int (i - j)) := (rfl)
@[simp] theorem dMul_int (h : CMul i j) : dMul (.int i) (.int j) = some (.int (i * j)) := if_pos h
@[simp] theorem dFdiv_int (h : CDiv i j) : dFdiv (.int i) (.int j) = some (.int (i / j)) := if_pos h
@[simp] theorem dMod_int (h : 0 < j) : dMod (.int i) (.int j) = some (.int (i % j)) := if_pos h
@[simp] theorem dPow_int (h : CPow i j) : dPow (.int i) (.int j) = some (.int (i ^ j.toNat)) := if_pos h
@[simp] theorem dShl_int (h : CPow i j) : dShl (.int i) (.int j) = some (.int (i * 2 ^ j.toNat)) := if_pos h
@[simp] theorem dShr_int (h : 0 ≤ j) : dShr (.int i) (.int j) = some (.int (i / 2 ^ j.toNat)) := if_pos h
@[simp] theorem CMul_iff : CMul i j ↔ (-(2 ^ 64) < i ∧ i < 2 ^ 64) ∨ (-(2 ^ 64) < j ∧ j < 2 ^ 64) := Iff.rfl
@[simp] theorem CDiv_iff : CDiv i j ↔ 0 < j ∧ j < 1073741824 := Iff.rfl
@[simp] theorem CPow_iff : CPow i j ↔ 0 ≤ j ∧ j ≤ 1000000 ∧ i.natAbs < 2 ^ 64 := Iff.rfl
@[simp] theorem dLt_int : dLt (.int i) (.int j) = some (.bl (decide (i < j))) := (rfl)
@[simp] theorem dLe_int : dLe (.int i) (.int j) = some (.bl (decide (i ≤ j))) := (rfl)
@[simp] theorem dGt_int : dGt (.int i) (.int j) = some (.bl (decide (j < i))) := (rfl)
@[simp] theorem dGe_int : dGe (.int i) (.int j) = some (.bl (decide (j ≤ i))) := (rfl)
@[simp] theorem dNeg_int : dNeg (.int i) = some (.int (-i)) := (rfl)
@[simp] theorem dep_non : D.dep .non = 0 := by simp [D.dep]
@[simp] theorem dep_bl : D.dep (.bl b) = 0 := by simp [D.dep]
@[simp] theorem dep_int : D.dep (.int i) = 0 := by simp [D.dep]
@[simp] theorem dep_tup : D.dep (.tup ds) = D.depL ds + 1 := by simp [D.dep]
@[simp] theorem dep_lst {o : Bool} : D.dep (.lst o ds) = D.depL ds + 1 := by simp [D.dep]
@[simp] theorem depL_nil : D.depL [] = 0 := by simp [D.depL]
@[simp] theorem depL_cons : D.depL (d :: ds) = max d.dep (D.depL ds) := by simp [D.depL]
theorem depL_le {n : Nat} (h : ∀ d ∈ ds, d.dep ≤ n) : D.depL ds ≤ n := by induction ds with
  | nil => simp
  | cons a t ih =>
    rw [depL_cons]
    have := h a (by simp)
    have := ih fun d hd => h d (by simp [hd])
    omega
@[simp] theorem depL_ints {L : List Int} : D.depL (L.map .int) = 0 := Nat.le_zero.mp (depL_le (by simp))
@[simp] theorem eqv_int : D.eqv (.int i) (.int j) = (i == j) := by simp [D.eqv]
@[simp] theorem eqv_bl {b' : Bool} : D.eqv (.bl b) (.bl b') = (b == b') := by simp [D.eqv]
@[simp] theorem eqv_str {z z' : Str} : D.eqv (.str z) (.str z') = (z == z') := by simp [D.eqv]
@[simp] theorem eqv_non : D.eqv .non .non = true := by simp [D.eqv]
@[simp] theorem eqv_tup {es : List D} : D.eqv (.tup ds) (.tup es) = D.eqvL ds es := by simp [D.eqv]
@[simp] theorem eqv_lst {o o' : Bool} {es : List D} : D.eqv (.lst o ds) (.lst o' es) = D.eqvL ds es := by simp [D.eqv]
@[simp] theorem eqvL_nil : D.eqvL [] [] = true := by simp [D.eqvL]
@[simp] theorem eqvL_cons {es : List D} : D.eqvL (x :: ds) (y :: es) = (D.eqv x y && D.eqvL ds es) := by simp [D.eqvL]
@[simp] theorem eqvL_nc {es : List D} : D.eqvL [] (y :: es) = false := by simp [D.eqvL]
@[simp] theorem eqvL_cn : D.eqvL (x :: ds) [] = false := by simp [D.eqvL]
@[simp] theorem dEq_int : dEq (.int i) (.int j) = some (.bl (i == j)) := by simp [dEq, D.pl]
@[simp] theorem dNe_int : dNe (.int i) (.int j) = some (.bl (i != j)) := by simp [dNe, D.pl, bne]
@[simp] theorem dEq_bl {b' : Bool} : dEq (.bl b) (.bl b') = some (.bl (b == b')) := by simp [dEq, D.pl]
@[simp] theorem dNe_bl {b' : Bool} : dNe (.bl b) (.bl b') = some (.bl (b != b')) := by simp [dNe, D.pl, bne]
theorem dEq_dep (h : x.dep ≤ 64) (h' : y.dep ≤ 64) : dEq x y = some (.bl (D.eqv x y)) := if_pos (.inr ⟨h, h'⟩)
theorem dNe_dep (h : x.dep ≤ 64) (h' : y.dep ≤ 64) : dNe x y = some (.bl (!D.eqv x y)) := if_pos (.inr ⟨h, h'⟩)
@[simp] theorem dNe_nil {o o' : Bool} (h : D.depL ds ≤ 63) : dNe (.lst o ds) (.lst o' []) = some (.bl (!ds.isEmpty)) := by
  rw [dNe_dep (by simpa using h) (by simp)]
  cases ds <;> simp
@[simp] theorem dEq_nil {o o' : Bool} (h : D.depL ds ≤ 63) : dEq (.lst o ds) (.lst o' []) = some (.bl ds.isEmpty) := by
  rw [dEq_dep (by simpa using h) (by simp)]
  cases ds <;> simp
@[simp] theorem dIsN_non : dIsN .non .non = some (.bl true) := (rfl)
@[simp] theorem dIsN_int : dIsN (.int i) .non = some (.bl false) := (rfl)
@[simp] theorem dIsN_bl : dIsN (.bl b) .non = some (.bl false) := (rfl)
@[simp] theorem dIsN_tup : dIsN (.tup ds) .non = some (.bl false) := (rfl)
@[simp] theorem dIsN_lst {o : Bool} : dIsN (.lst o ds) .non = some (.bl false) := (rfl)
@[simp] theorem dIsN_str {z : Str} : dIsN (.str z) .non = some (.bl false) := (rfl)
@[simp] theorem dIsNot_non : dIsNot .non .non = some (.bl false) := (rfl)
@[simp] theorem dIsNot_int : dIsNot (.int i) .non = some (.bl true) := (rfl)
@[simp] theorem dIsNot_tup : dIsNot (.tup ds) .non = some (.bl true) := (rfl)
@[simp] theorem dIsNot_lst {o : Bool} : dIsNot (.lst o ds) .non = some (.bl true) := (rfl)
theorem atI_nat {β : Type} {l : List β} {i : Int} {z : β} (h0 : 0 ≤ i) (h : l[i.toNat]? = some z) : atI l i = some z := by
  unfold atI ixN
  have hl : i.toNat < l.length := (List.getElem?_eq_some_iff.mp h).1
  have : i < l.length := by omega
  rw [if_pos h0, if_pos this]
  exact h
@[simp] theorem atI_zero {β : Type} {l : List β} {z : β} : atI (z :: l) 0 = some z := atI_nat (by decide) rfl
@[simp] theorem atI_one {β : Type} {l : List β} {w z : β} : atI (w :: z :: l) 1 = some z := atI_nat (by decide) rfl
@[simp] theorem atI_two {β : Type} {l : List β} {u w z : β} : atI (u :: w :: z :: l) 2 = some z := atI_nat (by decide) rfl
@[simp] theorem atI_three {β : Type} {l : List β} {t u w z : β} : atI (t :: u :: w :: z :: l) 3 = some z := atI_nat (by decide) rfl
@[simp] theorem dIx_tup : dIx (.tup ds) (.int i) = atI ds i := (rfl)
@[simp] theorem dIx_lst {o : Bool} : dIx (.lst o ds) (.int i) = atI ds i := (rfl)
@[simp] theorem dIx_scr {ns : List Int} : dIx (.scr ns) (.int i) = (atI ns i).map .int := (rfl)
@[simp] theorem dLen_lst {o : Bool} : dLen [.lst o ds] = some (.int ds.length) := (rfl)
@[simp] theorem dLen_tup : dLen [.tup ds] = some (.int ds.length) := (rfl)
@[simp] theorem dLen_scr {ns : List Int} : dLen [.scr ns] = some (.int ns.length) := (rfl)
theorem abs_if : (if i < 0 then -i else i) = (i.natAbs : Int) := by split <;> omega
@[simp] theorem dAbs_int : dAbs [.int i] = some (.int i.natAbs) := by rw [← abs_if]; rfl
@[simp] theorem dInt_int : dInt [.int i] = some (.int i) := (rfl)
@[simp] theorem dInt_bl : dInt [.bl b] = some (.int (if b then 1 else 0)) := (rfl)
@[simp] theorem dMax2_int : dMax2 [.int i, .int j] = some (.int (max i j)) := by
  rw [show max i j = if j > i then j else i from by split <;> omega]; rfl
@[simp] theorem dMin2_int : dMin2 [.int i, .int j] = some (.int (min i j)) := by
  rw [show min i j = if j < i then j else i from by split <;> omega]; rfl
@[simp] theorem dTuple_lst {o : Bool} (h : D.shL ds = true) : dTuple [.lst o ds] = some (.tup ds) := if_pos h
@[simp] theorem dTuple_tup (h : D.shL ds = true) : dTuple [.tup ds] = some (.tup ds) := if_pos h
@[simp] theorem dList_lst {o : Bool} (h : D.shL ds = true) : dList [.lst o ds] = some (.lst true ds) := if_pos h
@[simp] theorem dList_tup (h : D.shL ds = true) : dList [.tup ds] = some (.lst true ds) := if_pos h
@[simp] theorem isi_ii : dIsi .int (.int i) = some (.bl true) := (rfl)
@[simp] theorem isi_ib : dIsi .int (.bl b) = some (.bl true) := (rfl)
@[simp] theorem isi_it : dIsi .int (.tup ds) = some (.bl false) := (rfl)
@[simp] theorem isi_bi : dIsi .bool (.int i) = some (.bl false) := (rfl)
@[simp] theorem isi_bb : dIsi .bool (.bl b) = some (.bl true) := (rfl)
@[simp] theorem isi_bt : dIsi .bool (.tup ds) = some (.bl false) := (rfl)
@[simp] theorem isi_bn : dIsi .bool .non = some (.bl false) := (rfl)
@[simp] theorem isi_tt : dIsi .tuple (.tup ds) = some (.bl true) := (rfl)
@[simp] theorem isi_ti : dIsi .tuple (.int i) = some (.bl false) := (rfl)
@[simp] theorem isi_tb : dIsi .tuple (.bl b) = some (.bl false) := (rfl)
@[simp] theorem isi_tl {o : Bool} : dIsi .tuple (.lst o ds) = some (.bl false) := (rfl)
@[simp] theorem isi_tn : dIsi .tuple .non = some (.bl false) := (rfl)
@[simp] theorem isi_ll {o : Bool} : dIsi .list (.lst o ds) = some (.bl true) := (rfl)
@[simp] theorem isi_lt : dIsi .list (.tup ds) = some (.bl false) := (rfl)
@[simp] theorem isi_li : dIsi .list (.int i) = some (.bl false) := (rfl)
@[simp] theorem isi_lb : dIsi .list (.bl b) = some (.bl false) := (rfl)
@[simp] theorem isi_ln : dIsi .list .non = some (.bl false) := (rfl)
@[simp] theorem isi_ss {z : Str} : dIsi .str (.str z) = some (.bl true) := (rfl)
@[simp] theorem isi_ts {z : Str} : dIsi .tuple (.str z) = some (.bl false) := (rfl)
@[simp] theorem isi_ls {z : Str} : dIsi .list (.str z) = some (.bl false) := (rfl)
@[simp] theorem isi_bs {z : Str} : dIsi .bool (.str z) = some (.bl false) := (rfl)
@[simp] theorem isi_is {z : Str} : dIsi .int (.str z) = some (.bl false) := (rfl)
@[simp] theorem isL_lst {o : Bool} : isL (some (some (.lst o ds))) = true := (rfl)
@[simp] theorem appE_some {n : Nat} (h : r[n]? = some (some (.lst true ds))) (hl : ds.length < sizeLine) : appE n d r = .ok .non (r.set n (some (.lst true (ds ++ [d])))) := by unfold appE; rw [h]; exact if_pos hl
@[simp] theorem popE_some {n : Nat} (h : r[n]? = some (some (.lst true ds))) (hl : ds.getLast? = some d) : popE n r = .ok d (r.set n (some (.lst true ds.dropLast))) := by unfold popE; rw [h]; dsimp only; rw [hl]
@[simp] theorem setS_lt {n : Nat} (h : n < r.length) : setS n d r = .nx (r.set n (some d)) := if_pos h
@[simp] theorem setG_lt {n : Nat} (h : n < r.length) : setG n d r = some (r.set n (some d)) := if_pos h
@[simp] theorem nilG_nil : nilG [] r = some r := (rfl)
@[simp] theorem consG_cons {G : D → Env → Option Env} {G' : List D → Env → Option Env} : consG G G' (d :: ds) r = (G d r).bind fun r1 => G' ds r1 := (rfl)
@[simp] theorem tupG_tup {n : Nat} {G : List D → Env → Option Env} (h : ds.length = n) (h' : D.shL ds = true) : tupG n G (.tup ds) r = G ds r := if_pos ⟨h, h'⟩
@[simp] theorem asgS_some {G : D → Env → Option Env} {r' : Env} (h : G d r = some r') : asgS G d r = .nx r' := by unfold asgS; rw [h]
@[simp] theorem parS_two {m n : Nat} (h : m < r.length) (h' : n < r.length) : parS m n [x, y] r = .nx ((r.set m (some x)).set n (some y)) := if_pos ⟨h, h'⟩
@[simp] theorem itemsE_lst {o : Bool} (h : D.shL ds = true) : itemsE (.lst o ds) r = .ok ds r := if_pos h
@[simp] theorem itemsE_tup (h : D.shL ds = true) : itemsE (.tup ds) r = .ok ds r := if_pos h
@[simp] theorem itemsE_scr {ns : List Int} : itemsE (.scr ns) r = .ok (ns.map .int) r := (rfl)
@[simp] theorem rng1E_int (h : -(2 ^ 62) ≤ j) (h' : j < 2 ^ 62) : rng1E [.int j] r = .ok (rgI 0 j.toNat) r := if_pos ⟨h, h'⟩
@[simp] theorem rng2E_int (h : -(2 ^ 62) ≤ i) (h' : i < 2 ^ 62) (h1 : -(2 ^ 62) ≤ j) (h2 : j < 2 ^ 62) : rng2E [.int i, .int j] r = .ok (rgI i (j - i).toNat) r := if_pos ⟨h, h', h1, h2⟩
@[simp] theorem revE_lst {o : Bool} (h : D.shL ds = true) : revE (.lst o ds) r = .ok (.lst true ds.reverse) r := if_pos h
@[simp] theorem wipeE_nil : wipeE r [] = r := (rfl)
@[simp] theorem wipeE_cons {v : Nat} {vs : List Nat} : wipeE r (v :: vs) = (wipeE r vs).set v none := (rfl)
@[simp] theorem tupE_le (h : ds.length ≤ sizeLine) : tupE ds r = .ok (.tup ds) r := if_pos h
@[simp] theorem lstE_le (h : ds.length ≤ sizeLine) : lstE ds r = .ok (.lst true ds) r := if_pos h
@[simp] theorem sizeLine_val : sizeLine = 16777216 := (rfl)
@[simp] theorem callE_len {n : Nat} {m : List D → PR D} (h : ds.length = n) : callE n m ds r = (m ds).up r := if_pos h
@[simp] theorem callP_len {n : Nat} {m : List D → PR D} (h : ds.length = n) (h' : D.shL ds = true) : callP n m ds = m ds := if_pos ⟨h, h'⟩
theorem callME_ok {n k : Nat} {m : List D → MR} {o : D} (h : r[k]? = some (some x)) (hl : ds.length + 1 = n) (hm : m (x :: ds) = .ok d o) : callME n m k ds r = .ok d (r.set k (some o)) := by
  unfold callME; rw [h]; dsimp only; rw [if_pos hl, hm]
@[simp] theorem augS_some {n : Nat} {g : D → D → Option D} {z : D} (h : g x y = some z) : augS n g x y r = setS n z r := by unfold augS; rw [h]
@[simp] theorem startE_val {n : Nat} : startE n ds = ds.map some ++ List.replicate (n - ds.length) none := (rfl)
end
@[simp] theorem pC_ap {r : DL.Env} {d : D} : pC d r = .ok d := (rfl)
@[simp] theorem eSh_ap {r : DL.Env} {P : EP} : eSh P r = ((P r).up r).bind shO := (rfl)
@[simp] theorem eUp_ap {r : DL.Env} {P : EP} : eUp P r = (P r).up r := (rfl)
@[simp] theorem tUp_ap {r : DL.Env} {P : BP} : tUp P r = (P r).up r := (rfl)
@[simp] theorem pOp_ap {r : DL.Env} {g : D → D → Option D} {A B : EP} : pOp g A B r = (A r).bind fun x => (B r).bind fun y => opP (g x) y := (rfl)
@[simp] theorem eOp_ap {r : DL.Env} {g : D → D → Option D} {A B : EE} : eOp g A B r = (A r).bind fun x r1 => (B r1).bind fun y r2 => opE (g x) y r2 := (rfl)
@[simp] theorem pUn_ap {r : DL.Env} {g : D → Option D} {A : EP} : pUn g A r = (A r).bind (opP g) := (rfl)
@[simp] theorem eUn_ap {r : DL.Env} {g : D → Option D} {A : EE} : eUn g A r = (A r).bind (opE g) := (rfl)
@[simp] theorem bP_ap {r : DL.Env} {P : EP} : bP P r = (P r).bind asBp := (rfl)
@[simp] theorem bE_ap {r : DL.Env} {E : EE} : bE E r = (E r).bind asB := (rfl)
@[simp] theorem tNot_ap {r : DL.Env} {E : BE} : tNot E r = (E r).bind fun k r1 => .ok (!k) r1 := (rfl)
@[simp] theorem tpNot_ap {r : DL.Env} {E : BP} : tpNot E r = (E r).bind fun k => .ok (!k) := (rfl)
@[simp] theorem tAnd_ap {r : DL.Env} {E G : BE} : tAnd E G r = (E r).bind fun k r1 => if k = true then G r1 else .ok false r1 := (rfl)
@[simp] theorem tOr_ap {r : DL.Env} {E G : BE} : tOr E G r = (E r).bind fun k r1 => if k = true then .ok true r1 else G r1 := (rfl)
@[simp] theorem tpAnd_ap {r : DL.Env} {E G : BP} : tpAnd E G r = (E r).bind fun k => if k = true then G r else .ok false := (rfl)
@[simp] theorem tpOr_ap {r : DL.Env} {E G : BP} : tpOr E G r = (E r).bind fun k => if k = true then .ok true else G r := (rfl)
@[simp] theorem pAnd_ap {r : DL.Env} {E G : EP} : pAnd E G r = ((E r).bind asBp).bind fun k => if k = true then G r else .ok (.bl false) := (rfl)
@[simp] theorem pOr_ap {r : DL.Env} {E G : EP} : pOr E G r = ((E r).bind asBp).bind fun k => if k = true then .ok (.bl true) else G r := (rfl)
@[simp] theorem eAnd_ap {r : DL.Env} {E G : EE} : eAnd E G r = ((E r).bind asB).bind fun k r1 => if k = true then G r1 else .ok (.bl false) r1 := (rfl)
@[simp] theorem eOr_ap {r : DL.Env} {E G : EE} : eOr E G r = ((E r).bind asB).bind fun k r1 => if k = true then .ok (.bl true) r1 else G r1 := (rfl)
@[simp] theorem pNot_ap {r : DL.Env} {E : EP} : pNot E r = ((E r).bind asBp).bind fun k => .ok (.bl !k) := (rfl)
@[simp] theorem eIf_ap {r : DL.Env} {E : BE} {A B : EE} : eIf E A B r = (E r).bind fun k r1 => if k = true then A r1 else B r1 := (rfl)
@[simp] theorem pIf_ap {r : DL.Env} {E : BP} {A B : EP} : pIf E A B r = (E r).bind fun k => if k = true then A r else B r := (rfl)
@[simp] theorem pIx_ap {r : DL.Env} {A B : EP} : pIx A B r = (A r).bind fun x => (B r).bind fun y => opP (dIx x) y := (rfl)
@[simp] theorem eIx_ap {r : DL.Env} {A B : EE} : eIx A B r = (A r).bind fun x r1 => (B r1).bind fun y r2 => (opE (dIx x) y r2).bind shO := (rfl)
@[simp] theorem aCons_ap {r : DL.Env} {E : EE} {G : Env → Res (List D)} : aCons E G r = (E r).bind fun d r1 => (G r1).bind fun ds r2 => .ok (d :: ds) r2 := (rfl)
@[simp] theorem paCons_ap {r : DL.Env} {E : EP} {G : Env → PR (List D)} : paCons E G r = (E r).bind fun d => (G r).bind fun ds => .ok (d :: ds) := (rfl)
@[simp] theorem eTup_ap {r : DL.Env} {A : Env → Res (List D)} : eTup A r = (A r).bind tupE := (rfl)
@[simp] theorem pTup_ap {r : DL.Env} {A : Env → PR (List D)} : pTup A r = (A r).bind fun ds => if ds.length ≤ sizeLine then .ok (.tup ds) else .stk := (rfl)
@[simp] theorem eLst_ap {r : DL.Env} {A : Env → Res (List D)} : eLst A r = (A r).bind lstE := (rfl)
@[simp] theorem pLst_ap {r : DL.Env} {A : Env → PR (List D)} : pLst A r = (A r).bind fun ds => if ds.length ≤ sizeLine then .ok (.lst true ds) else .stk := (rfl)
@[simp] theorem eCB_ap {r : DL.Env} {g : List D → Option D} {A : Env → Res (List D)} : eCB g A r = (A r).bind (opE g) := (rfl)
@[simp] theorem pCB_ap {r : DL.Env} {g : List D → Option D} {A : Env → PR (List D)} : pCB g A r = (A r).bind (opP g) := (rfl)
@[simp] theorem epCB_ap {r : DL.Env} {g : List D → Option D} {A : Env → PR (List D)} : epCB g A r = ((A r).up r).bind (opE g) := (rfl)
@[simp] theorem eCall_ap {r : DL.Env} {n : Nat} {m : List D → PR D} {A : Env → Res (List D)} : eCall n m A r = (A r).bind (callE n m) := (rfl)
@[simp] theorem pCall_ap {r : DL.Env} {n : Nat} {m : List D → PR D} {A : Env → PR (List D)} : pCall n m A r = (A r).bind (callP n m) := (rfl)
@[simp] theorem eRev_ap {r : DL.Env} {E : EE} : eRev E r = (E r).bind revE := (rfl)
@[simp] theorem iSq_ap {r : DL.Env} {E : EE} : iSq E r = (E r).bind itemsE := (rfl)
@[simp] theorem iR1_ap {r : DL.Env} {E : Env → Res (List D)} : iR1 E r = (E r).bind rng1E := (rfl)
@[simp] theorem iR2_ap {r : DL.Env} {E : Env → Res (List D)} : iR2 E r = (E r).bind rng2E := (rfl)
@[simp] theorem eLc_ap {r : DL.Env} {G : D → Env → Option Env} {T : BE} {E : EE} {vs : List Nat} {I : Env → Res (List D)} : eLc G T E vs I r = (I r).bind fun ds r1 => (lcL G T E vs ds [] (wipeE r1 vs)).bind fun acc r2 => .ok (.lst true acc) r2 := (rfl)
theorem sSeq_ap {r : DL.Env} {B C : Env → SR} : sSeq B C r = (B r).seq C := (rfl)
@[simp] theorem sExpr_ap {r : DL.Env} {E : EE} : sExpr E r = (E r).thn fun _ r1 => .nx r1 := (rfl)
@[simp] theorem sRet_ap {r : DL.Env} {E : EE} : sRet E r = (E r).thn fun d r1 => .rt d r1 := (rfl)
@[simp] theorem sIf_ap {r : DL.Env} {T : BE} {B C : Env → SR} : sIf T B C r = (T r).thn fun k r1 => if k = true then B r1 else C r1 := (rfl)
@[simp] theorem sSet_ap {r : DL.Env} {i : Nat} {E : EE} : sSet i E r = (E r).thn (setS i) := (rfl)
@[simp] theorem sAsg_ap {r : DL.Env} {G : D → Env → Option Env} {E : EE} : sAsg G E r = (E r).thn (asgS G) := (rfl)
@[simp] theorem sPar_ap {r : DL.Env} {i j : Nat} {E : Env → Res (List D)} : sPar i j E r = (E r).thn (parS i j) := (rfl)
@[simp] theorem sFor_ap {r : DL.Env} {I : Env → Res (List D)} {G : D → Env → Option Env} {B : Env → SR} : sFor I G B r = (I r).thn (forL G B) := (rfl)
@[simp] theorem aNil_ap {r : DL.Env} : aNil r = .ok [] r := (rfl)
@[simp] theorem paNil_ap {r : DL.Env} : paNil r = .ok [] := (rfl)
@[simp] theorem tYes_ap {r : DL.Env} : tYes r = .ok true r := (rfl)
@[simp] theorem sRetN_ap {r : DL.Env} : sRetN r = .rt .non r := (rfl)
@[simp] theorem chP_ap {r : DL.Env} {g g' : D → D → Option D} {A B C : EP} : chP g g' A B C r = (A r).bind fun x => (B r).bind fun y => (opP (g x) y).bind fun z => (asBp z).bind fun k => if k = true then (C r).bind fun w => opP (g' y) w else .ok (.bl false) := (rfl)
@[simp] theorem eApp_ap {i : Nat} {E : EE} {r : DL.Env} (h : isL r[i]? = true) : eApp i E r = (E r).bind (appE i) := if_pos h
@[simp] theorem eCallM_ap {n i : Nat} {m : List D → MR} {A : DL.Env → Res (List D)} {r : DL.Env} {d : D} (h : r[i]? = some (some d)) : eCallM n m i A r = (A r).bind (callME n m i) := by unfold eCallM; rw [h]
@[simp] theorem sAug_ap {i : Nat} {g : D → D → Option D} {E : EE} {r : DL.Env} {d0 : D} (h : r[i]? = some (some d0)) (hs : d0.sh = true) : sAug i g E r = (E r).thn (augS i g d0) := by unfold sAug; rw [h]; exact if_pos hs
@[simp] theorem sWhile_ap {n : Nat} {T : BE} {B : DL.Env → SR} {r : DL.Env} : sWhile n T B r = whileL T B n r := (rfl)
/-! ### loops -/
theorem forL_nil {G : D → DL.Env → Option DL.Env} {B : DL.Env → SR} {r : DL.Env} : forL G B [] r = .nx r := (rfl)
theorem forL_cons {G : D → DL.Env → Option DL.Env} {B : DL.Env → SR} {r r1 : DL.Env} {d : D} {ds : List D} (h : G d r = some r1) : forL G B (d :: ds) r = (B r1).loop (forL G B ds) := by
  show (match G d r with | none => SR.stk | some r1 => (B r1).loop (forL G B ds)) = _
  rw [h]
/-- a loop that is never left -/
theorem forL_inv {G : D → DL.Env → Option DL.Env} {B : DL.Env → SR} (I : Nat → DL.Env → Prop) : ∀ (ds : List D) (k : Nat) (r : DL.Env), I k r →
    (∀ j d r, ds[j]? = some d → I (k + j) r → ∃ r1 r2, G d r = some r1 ∧ (B r1 = .nx r2 ∨ B r1 = .ct r2) ∧ I (k + j + 1) r2) → ∃ r2, forL G B ds r = .nx r2 ∧ I (k + ds.length) r2
  | [], k, r, h, _ => ⟨r, rfl, h⟩
  | d :: ds, k, r, h, st => by
    obtain ⟨r1, r2, e1, e2, h2⟩ := st 0 d r rfl h
    obtain ⟨r3, e3, h3⟩ := forL_inv I ds (k + 1) r2 h2 fun j d' r' e h' => by
      have := st (j + 1) d' r' (by simpa using e) (by rw [show k + (j + 1) = k + 1 + j by omega]; exact h')
      rw [show k + (j + 1) = k + 1 + j by omega] at this
      exact this
    refine ⟨r3, ?_, by rw [List.length_cons, show k + (ds.length + 1) = k + 1 + ds.length by omega]; exact h3⟩
    rw [forL_cons e1]
    rcases e2 with e2 | e2 <;> rw [e2] <;> exact e3
/-- .. or left with an answer -/
theorem forL_post {G : D → DL.Env → Option DL.Env} {B : DL.Env → SR} (I : Nat → DL.Env → Prop) (Q : SR → Prop) : ∀ (ds : List D) (k : Nat) (r : DL.Env), I k r →
    (∀ j d r, ds[j]? = some d → I (k + j) r → ∃ r1, G d r = some r1 ∧ ((∃ r2, (B r1 = .nx r2 ∨ B r1 = .ct r2) ∧ I (k + j + 1) r2) ∨ (∃ r2, B r1 = .bk r2 ∧ Q (.nx r2)) ∨ (∃ v r2, B r1 = .rt v r2 ∧ Q (.rt v r2)) ∨ (∃ c r2, B r1 = .exc c r2 ∧ Q (.exc c r2)))) →
    (∀ r, I (k + ds.length) r → Q (.nx r)) → Q (forL G B ds r)
  | [], k, r, h, _, q => q r h
  | d :: ds, k, r, h, st, q => by
    obtain ⟨r1, e1, h2⟩ := st 0 d r rfl h
    rw [forL_cons e1]
    rcases h2 with ⟨r2, e2, h2⟩ | ⟨r2, e2, h2⟩ | ⟨v, r2, e2, h2⟩ | ⟨c, r2, e2, h2⟩
    · have : (B r1).loop (forL G B ds) = forL G B ds r2 := by rcases e2 with e2 | e2 <;> rw [e2] <;> rfl
      rw [this]
      refine forL_post I Q ds (k + 1) r2 h2 (fun j d' r' e h' => ?_) fun r' h' => q r' ?_
      · have := st (j + 1) d' r' (by simpa using e) (by rw [show k + (j + 1) = k + 1 + j by omega]; exact h')
        rw [show k + (j + 1) = k + 1 + j by omega] at this
        exact this
      · rw [List.length_cons, show k + (ds.length + 1) = k + 1 + ds.length by omega]; exact h'
    all_goals (rw [e2]; exact h2)
theorem whileL_step {T : BE} {B : DL.Env → SR} {n : Nat} {r r1 : DL.Env} {k : Bool} (h : T r = .ok k r1) : whileL T B (n + 1) r = if k = true then (B r1).loop (whileL T B n) else .nx r1 := by
  show (T r).thn _ = _
  rw [h]; rfl
/-- a while that comes to its end: I at the start of each turn, a measure falls -/
theorem whileL_inv {T : BE} {B : DL.Env → SR} (I : Nat → DL.Env → Prop) (Q : DL.Env → Prop) (st : ∀ m r, I m r → ∃ k r1, T r = .ok k r1 ∧ if k = true then ∃ r2 m', (B r1 = .nx r2 ∨ B r1 = .ct r2) ∧ m' < m ∧ I m' r2 else Q r1) :
    ∀ (n m : Nat) (r : DL.Env), I m r → m < n → ∃ r2, whileL T B n r = .nx r2 ∧ Q r2
  | 0, m, r, _, h => absurd h (Nat.not_lt_zero _)
  | n + 1, m, r, hI, h => by
    obtain ⟨k, r1, e1, h1⟩ := st m r hI
    rw [whileL_step e1]
    cases k with
    | false => exact ⟨r1, rfl, by simpa using h1⟩
    | true =>
      rw [if_pos rfl] at h1
      obtain ⟨r2, m', e2, l, h2⟩ := h1
      obtain ⟨r3, e3, h3⟩ := whileL_inv I Q st n m' r2 h2 (by omega)
      refine ⟨r3, ?_, h3⟩
      rw [if_pos rfl]
      rcases e2 with e2 | e2 <;> rw [e2] <;> exact e3
@[simp] theorem rgI_len_ {lo : Int} {n : Nat} : (rgI lo n).length = n := by simp [rgI]
theorem rgI_item {lo : Int} {n j : Nat} {d : D} (h : (rgI lo n)[j]? = some d) : j < n ∧ d = .int (lo + j) := by
  have hj : j < n := by have := (List.getElem?_eq_some_iff.mp h).1; simpa using this
  rw [rgI_get, if_pos hj] at h
  cases h
  exact ⟨hj, rfl⟩
theorem ints_get {L : List Int} {j : Nat} {d : D} (h : (L.map D.int)[j]? = some d) : ∃ i, L[j]? = some i ∧ d = .int i := by
  rw [List.getElem?_map] at h
  cases e : L[j]? with
  | none => rw [e] at h; cases h
  | some i => rw [e] at h; cases h; exact ⟨i, rfl, rfl⟩
@[simp] theorem sh_rgI {lo : Int} {n : Nat} : D.shL (rgI lo n) = true := shL_map fun _ _ => sh_int
end DL

/-! DSat: what holds behind a statement, for data functions; simp walks through, loops by invariants. -/
namespace DL
open PySem PySem.Spec PyProof.Rows L2
structure Po where
  nx : DL.Env → Prop
  rt : D → DL.Env → Prop
  bk : DL.Env → Prop
  ct : DL.Env → Prop
  ex : Str → DL.Env → Prop
def SR.sat (x : SR) (p : Po) : Prop := match x with
  | .nx r => p.nx r
  | .rt d r => p.rt d r
  | .bk r => p.bk r
  | .ct r => p.ct r
  | .exc c r => p.ex c r
  | .stk => False
/-- then C -/
def Po.andd (p : Po) (C : DL.Env → SR) : Po := ⟨fun r => (C r).sat p, p.rt, p.bk, p.ct, p.ex⟩
/-- a turn of a loop -/
def Po.turn (p : Po) (I : DL.Env → Prop) : Po := ⟨I, p.rt, p.nx, I, p.ex⟩
/-- a def's answer -/
def Po.ans (Q : D → DL.Env → Prop) : Po := ⟨Q .non, Q, fun _ => False, fun _ => False, fun _ _ => False⟩
section
variable {p : Po} {r : DL.Env} {d : D} {c : Str} {x : SR} {C B : DL.Env → SR}
@[simp] theorem sat_nx : (SR.nx r).sat p ↔ p.nx r := (Iff.rfl)
@[simp] theorem sat_rt : (SR.rt d r).sat p ↔ p.rt d r := (Iff.rfl)
@[simp] theorem sat_bk : (SR.bk r).sat p ↔ p.bk r := (Iff.rfl)
@[simp] theorem sat_ct : (SR.ct r).sat p ↔ p.ct r := (Iff.rfl)
@[simp] theorem sat_exc : (SR.exc c r).sat p ↔ p.ex c r := (Iff.rfl)
@[simp] theorem sat_stk : ¬ SR.stk.sat p := fun h => h
@[simp] theorem sat_ite {q : Prop} [Decidable q] {a b : SR} : (if q then a else b).sat p ↔ (q → a.sat p) ∧ (¬ q → b.sat p) := by
  split
  · rename_i h; simp [h]
  · rename_i h; simp [h]
theorem sat_seq_ : (x.seq C).sat p ↔ x.sat (p.andd C) := by cases x <;> rfl
@[simp] theorem sat_sSeq : (sSeq B C r).sat p ↔ (B r).sat (p.andd C) := sat_seq_
@[simp] theorem andd_nx : (p.andd C).nx r ↔ (C r).sat p := (Iff.rfl)
@[simp] theorem andd_rt : (p.andd C).rt = p.rt := (rfl)
@[simp] theorem andd_bk : (p.andd C).bk = p.bk := (rfl)
@[simp] theorem andd_ct : (p.andd C).ct = p.ct := (rfl)
@[simp] theorem andd_ex : (p.andd C).ex = p.ex := (rfl)
@[simp] theorem turn_nx {I : DL.Env → Prop} : (p.turn I).nx r ↔ I r := (Iff.rfl)
@[simp] theorem turn_ct {I : DL.Env → Prop} : (p.turn I).ct r ↔ I r := (Iff.rfl)
@[simp] theorem turn_bk {I : DL.Env → Prop} : (p.turn I).bk = p.nx := (rfl)
@[simp] theorem turn_rt {I : DL.Env → Prop} : (p.turn I).rt = p.rt := (rfl)
@[simp] theorem turn_ex {I : DL.Env → Prop} : (p.turn I).ex = p.ex := (rfl)
@[simp] theorem ans_nx {Q : D → DL.Env → Prop} : (Po.ans Q).nx r ↔ Q .non r := (Iff.rfl)
@[simp] theorem ans_rt {Q : D → DL.Env → Prop} : (Po.ans Q).rt d r ↔ Q d r := (Iff.rfl)
@[simp] theorem ans_bk {Q : D → DL.Env → Prop} : ¬ (Po.ans Q).bk r := fun h => h
@[simp] theorem ans_ct {Q : D → DL.Env → Prop} : ¬ (Po.ans Q).ct r := fun h => h
@[simp] theorem ans_ex {Q : D → DL.Env → Prop} : ¬ (Po.ans Q).ex c r := fun h => h
theorem sat_imp {p q : Po} (h : x.sat p) (h1 : ∀ r, p.nx r → q.nx r) (h2 : ∀ d r, p.rt d r → q.rt d r) (h3 : ∀ r, p.bk r → q.bk r) (h4 : ∀ r, p.ct r → q.ct r) (h5 : ∀ c r, p.ex c r → q.ex c r) : x.sat q := by
  cases x with
  | nx r => exact h1 r h
  | rt d r => exact h2 d r h
  | bk r => exact h3 r h
  | ct r => exact h4 r h
  | exc c r => exact h5 c r h
  | stk => exact h.elim
/-- a pure def's answer -/
theorem outP_eq {d : D} (h : x.sat (.ans fun d' _ => d' = d)) : outP x = .ok d := by
  cases x with
  | nx r => have h : D.non = d := h; rw [← h]; rfl
  | rt d' r => have h : d' = d := h; rw [← h]; rfl
  | _ => exact h.elim
theorem outP_ex {Q : D → Prop} (h : x.sat (.ans fun d' _ => Q d')) : ∃ d, outP x = .ok d ∧ Q d := by
  cases x with
  | nx r => exact ⟨_, rfl, h⟩
  | rt d' r => exact ⟨_, rfl, h⟩
  | _ => exact h.elim
theorem outM_ex {Q : D → D → Prop} (h : x.sat (.ans fun d r => ∃ o, slot0 r = some o ∧ Q d o)) : ∃ d o, outM x = .ok d o ∧ Q d o := by
  cases x with
  | nx r =>
    obtain ⟨o, e, q⟩ : ∃ o, slot0 r = some o ∧ Q .non o := h
    exact ⟨_, o, by show Option.elim (slot0 r) _ _ = _; rw [e]; rfl, q⟩
  | rt d r =>
    obtain ⟨o, e, q⟩ : ∃ o, slot0 r = some o ∧ Q d o := h
    exact ⟨_, o, by show Option.elim (slot0 r) _ _ = _; rw [e]; rfl, q⟩
  | _ => exact h.elim
theorem sat_loop : (x.loop C).sat p ↔ x.sat (p.turn fun r => (C r).sat p) := by cases x <;> rfl
theorem sat_for {G : D → DL.Env → Option DL.Env} (I : Nat → DL.Env → Prop) {ds : List D} (h0 : I 0 r)
    (st : ∀ j d r, ds[j]? = some d → I j r → ∃ r1, G d r = some r1 ∧ (B r1).sat (p.turn (I (j + 1)))) (q : ∀ r, I ds.length r → p.nx r) : (forL G B ds r).sat p := by
  have key : ∀ (es : List D) (k : Nat) (r : DL.Env), (∀ j, es[j]? = ds[k + j]?) → k + es.length = ds.length → I k r → (forL G B es r).sat p := by
    intro es
    induction es with
    | nil => intro k r _ hl h; exact q r (by rw [← hl]; exact h)
    | cons e es ih =>
      intro k r he hl h
      obtain ⟨r1, e1, h1⟩ := st k e r (by rw [show k = k + 0 from rfl, ← he 0]; rfl) h
      rw [forL_cons e1, sat_loop]
      have nxt : ∀ r, I (k + 1) r → (forL G B es r).sat p := fun r h => ih (k + 1) r (fun j => by rw [show k + 1 + j = k + (j + 1) by omega, ← he (j + 1)]; rfl) (by rw [← hl, List.length_cons]; omega) h
      exact sat_imp h1 nxt (fun _ _ h => h) (fun _ h => h) nxt (fun _ _ h => h)
  exact key ds 0 r (fun j => by rw [Nat.zero_add]) (by simp) h0
/-- over some list read as data -/
theorem sat_forM {α : Type} {G : D → DL.Env → Option DL.Env} (I : Nat → DL.Env → Prop) {L : List α} {f : α → D} (h0 : I 0 r)
    (st : ∀ j a r, L[j]? = some a → I j r → ∃ r1, G (f a) r = some r1 ∧ (B r1).sat (p.turn (I (j + 1)))) (q : ∀ r, I L.length r → p.nx r) : (forL G B (L.map f) r).sat p := by
  refine sat_for I h0 (fun j d r e h => ?_) (fun r h => q r (by simpa using h))
  rw [List.getElem?_map] at e
  cases e' : L[j]? with
  | none => rw [e'] at e; cases e
  | some a => rw [e'] at e; cases e; exact st j a r e' h
theorem sat_forR {G : D → DL.Env → Option DL.Env} (I : Nat → DL.Env → Prop) {lo : Int} {n : Nat} (h0 : I 0 r)
    (st : ∀ j r, j < n → I j r → ∃ r1, G (.int (lo + j)) r = some r1 ∧ (B r1).sat (p.turn (I (j + 1)))) (q : ∀ r, I n r → p.nx r) : (forL G B (rgI lo n) r).sat p := by
  refine sat_for I h0 (fun j d r e h => ?_) (fun r h => q r (by simpa using h))
  obtain ⟨hj, rfl⟩ := rgI_item e
  exact st j r hj h
theorem sat_while {T : BE} (I : Nat → DL.Env → Prop) {n m : Nat} (hm : m < n) (h0 : I m r)
    (st : ∀ m r, I m r → ∃ k r1, T r = .ok k r1 ∧ (k = true → (B r1).sat (p.turn fun r2 => ∃ m', m' < m ∧ I m' r2)) ∧ (k = false → p.nx r1)) : (whileL T B n r).sat p := by
  induction n generalizing m r with
  | zero => omega
  | succ n ih =>
    obtain ⟨k, r1, e1, h1, h2⟩ := st m r h0
    rw [whileL_step e1]
    cases k with
    | false => rw [if_neg (by decide)]; exact h2 rfl
    | true =>
      rw [if_pos rfl, sat_loop]
      have nxt : ∀ r, (∃ m', m' < m ∧ I m' r) → (whileL T B n r).sat p := fun r ⟨m', l, h⟩ => ih (by omega) h
      exact sat_imp (h1 rfl) nxt (fun _ _ h => h) (fun _ h => h) nxt (fun _ _ h => h)
/-- .. whose test changes nothing -/
theorem sat_whileP {T : BE} (I : Nat → DL.Env → Prop) {n m : Nat} (hm : m < n) (h0 : I m r)
    (st : ∀ m r, I m r → ∃ k, T r = .ok k r ∧ (k = true → (B r).sat (p.turn fun r2 => ∃ m', m' < m ∧ I m' r2)) ∧ (k = false → p.nx r)) : (whileL T B n r).sat p :=
  sat_while I hm h0 fun m r h => by
    obtain ⟨k, e, h1, h2⟩ := st m r h
    exact ⟨k, r, e, h1, h2⟩
end
/-- a list comprehension that leaves the names as they were -/
theorem lcL_eq {G : D → DL.Env → Option DL.Env} {T : BE} {E : EE} {vs : List Nat} {r : DL.Env} (q : D → Bool) (f : D → D) : ∀ (ds acc : List D), acc.length + ds.length < sizeLine →
    (∀ d ∈ ds, ∃ r1, G d r = some r1 ∧ T r1 = .ok (q d) r1 ∧ (q d = true → E r1 = .ok (f d) r1) ∧ wipeE r1 vs = r) → lcL G T E vs ds acc r = .ok (acc ++ (ds.filter q).map f) r
  | [], acc, _, _ => by simp [lcL]
  | d :: ds, acc, hl, h => by
    obtain ⟨r1, e1, e2, e3, e4⟩ := h d (by simp)
    have ih := fun acc hl => lcL_eq (G := G) (T := T) (E := E) (vs := vs) q f ds acc hl fun d hd => h d (by simp [hd])
    unfold lcL
    rw [e1]
    dsimp only
    rw [e2, Res.bindS_ok]
    rw [List.length_cons] at hl
    cases hq : q d with
    | false => rw [if_neg (by decide), e4, ih acc (by omega), List.filter_cons_of_neg (by simp [hq])]
    | true =>
      rw [if_pos rfl, e3 hq, Res.bindS_ok, if_pos (by omega), e4, ih _ (by rw [List.length_append, List.length_singleton]; omega), List.filter_cons_of_pos hq, List.map_cons, List.append_assoc]
      rfl
/-- a call that changes its first argument -/
def MR.at (x : MR) (k : Nat) (r : DL.Env) : Res D := match x with
  | .ok d o => .ok d (r.set k (some o))
  | .exc c o => .exc c (r.set k (some o))
  | .stk => .stk
@[simp] theorem MR.at_ok {d o : D} {k : Nat} {r : DL.Env} : (MR.ok d o).at k r = .ok d (r.set k (some o)) := (rfl)
@[simp] theorem callME_at {n k : Nat} {m : List D → MR} {ds : List D} {r : DL.Env} {x : D} (h : r[k]? = some (some x)) (hl : ds.length + 1 = n) : callME n m k ds r = (m (x :: ds)).at k r := by
  unfold callME; rw [h]; dsimp only; rw [if_pos hl]; rfl
end DL

/-! DLaw: the draws, told once for all laws. -/
namespace DL
open PySem PySem.Spec PyProof.Rows L2
abbrev iL (L : List Int) : D := .lst true (L.map .int)
def b_draws : DL.Env → SR := (sSeq (sSet 1 (eLst aNil))
    (sSeq (sFor (iSq (eSh (getP 0))) (setG 2) (sSeq (sSet 5 (epCB dAbs (paCons (getP 2) paNil)))
    (sSeq (sIf (tUp (bP (pOp dLt (getP 5) (pOp dPow (pC (.int 10)) (pC (.int 18)))))) (sSeq (sSet 6 (eUp (pOp dMod (pCB dInt (paCons (pOp dAdd (pOp dMul (getP 5) (pC (.int 48271))) (pC (.int 11))) paNil)) (pC (.int 2147483647)))))
    (sSeq (sExpr (eApp 1 (eUp (pOp dMod (pCB dInt (paCons (pOp dAdd (pOp dMul (getP 6) (pC (.int 69621))) (getP 5)) paNil)) (pC (.int 2147483629))))))
    (sSeq (sExpr (eApp 1 (eUp (pOp dMod (pCB dInt (paCons (pOp dAdd (getP 6) (pOp dFdiv (getP 5) (pC (.int 7)))) paNil)) (pC (.int 1000003))))))
    (sSet 5 (eSh (pC (.int 0))))))) (.nx))
    (sFor (iR1 (aCons (eSh (pC (.int 60))) aNil)) (setG 4) (sIf (tUp (bP (pOp dGt (getP 5) (pC (.int 0))))) (sSeq (sExpr (eApp 1 (eUp (pOp dMod (pCB dInt (paCons (getP 5) paNil)) (pC (.int 997))))))
    (sSet 5 (eUp (pOp dFdiv (getP 5) (pC (.int 997)))))) (.nx))))))
    (sSeq (sSet 3 (eSh (pC (.int 1))))
    (sSeq (sIf (tUp (bP (pOp dGt (pCB dLen (paCons (getP 0) paNil)) (pC (.int 0))))) (sSet 3 (eUp (pOp dAdd (pC (.int 1)) (pCB dAbs (paCons (pIx (getP 0) (pC (.int 0))) paNil))))) (.nx))
    (sSeq (sFor (iR1 (aCons (eSh (pC (.int 900))) aNil)) (setG 4) (sSeq (sSet 3 (eUp (pOp dMod (pCB dInt (paCons (pOp dAdd (pOp dMul (getP 3) (pC (.int 48271))) (pC (.int 69621))) paNil)) (pC (.int 2147483647)))))
    (sExpr (eApp 1 (eUp (pOp dFdiv (getP 3) (pC (.int 5))))))))
    (sRet (eRev (eUp (getP 1)))))))))
def m_draws (ds : List D) : PR D := outP (b_draws (startE 7 ds))
def b_take : DL.Env → SR := (sSeq (sIf (tUp (bP (pOp dEq (pCB dLen (paCons (getP 0) paNil)) (pC (.int 0))))) (sRet (eSh (pC (.int 0)))) (.nx))
    (sRet (eOp dMod (eCB dInt (aCons (popE 0) aNil)) (eSh (getP 1)))))
def m_take (ds : List D) : MR := outM (b_take (startE 2 ds))

theorem take_ok {L : List Int} {b : Int} (hb : 0 < b) : ∃ (x : Int) (L' : List Int), m_take [iL L, .int b] = .ok (.int x) (iL L') ∧ 0 ≤ x ∧ x < b := by
  unfold m_take b_take iL
  rcases List.eq_nil_or_concat L with rfl | ⟨L', a, rfl⟩
  · refine ⟨0, [], ?_, by omega, hb⟩
    simp [sSeq_ap]
  · refine ⟨a % b, L', ?_, Int.emod_nonneg _ (by omega), Int.emod_lt_of_pos _ hb⟩
    have h0 : ¬ ((L'.length : Int) + 1 = 0) := by omega
    simp [hb, h0, sSeq_ap]
def DrI (ns : List Int) (m : Nat) (r : DL.Env) : Prop := ∃ (L : List Int) (x2 x3 x4 x5 x6 : Option D), L.length ≤ m ∧ r = [some (.scr ns), some (.lst true (L.map .int)), x2, x3, x4, x5, x6]
def DrJ (ns : List Int) (x2 x3 x6 : Option D) (m k : Nat) (r : DL.Env) : Prop := ∃ (L : List Int) (n : Int) (x4 : Option D), L.length ≤ m + (if n = 0 then 2 + k else k) ∧ 0 ≤ n ∧ r = [some (.scr ns), some (.lst true (L.map .int)), x2, x3, x4, some (.int n), x6]
def DrK (ns : List Int) (x2 x5 x6 : Option D) (m : Nat) (r : DL.Env) : Prop := ∃ (L : List Int) (n : Int) (x4 : Option D), L.length ≤ m ∧ r = [some (.scr ns), some (.lst true (L.map .int)), x2, some (.int n), x4, x5, x6]
theorem draws_in {ns : List Int} {j : Nat} {p : Po} (hj : j < 63) (L0 : List Int) (n : Int) (x2 x3 x4 x6 : Option D) (hL0 : L0.length ≤ 62 * j + (if n = 0 then 2 else 0)) (hn : 0 ≤ n) :
    (forL (setG 4) (sIf (tUp (bP (pOp dGt (getP 5) (pC (D.int 0)))))
              (sSeq (sExpr (eApp 1 (eUp (pOp dMod (pCB dInt (paCons (getP 5) paNil)) (pC (D.int 997))))))
                (sSet 5 (eUp (pOp dFdiv (getP 5) (pC (D.int 997)))))) SR.nx) (rgI 0 60) [some (D.scr ns), some (D.lst true (List.map D.int L0)), x2, x3, x4, some (D.int n), x6]).sat (p.turn (DrI ns (62 * (j + 1)))) := by
  refine sat_forR (DrJ ns x2 x3 x6 (62 * j)) ⟨L0, n, x4, by simpa using hL0, hn, rfl⟩ ?_ ?_
  · rintro k r hk ⟨L, n, x4, hL, hn, rfl⟩
    have h1 : L.length < 16777216 := by split at hL <;> omega
    simp [h1]
    refine ⟨fun hp => ⟨L ++ [n % 997], n / 997, _, ?_, Int.ediv_nonneg hn (by omega), by rw [List.map_append]; rfl⟩, fun hz => ⟨L, n, _, ?_, hn, rfl⟩⟩
    · rw [if_neg (by omega)] at hL
      rw [List.length_append, List.length_singleton]
      split <;> omega
    · split at hL <;> split <;> omega
  · rintro r ⟨L, n, x4, hL, hn, rfl⟩
    exact ⟨L, _, _, _, _, _, by split at hL <;> omega, rfl⟩
theorem draws_end {ns : List Int} (h : ns.length ≤ 63) (L : List Int) (hL : L.length ≤ 62 * ns.length) (n : Int) (x2 x4 x5 x6 : Option D) (m : Nat) (hm : m ≤ 1000) : (forL (setG 4)
            (sSeq
              (sSet 3
                (eUp
                  (pOp dMod
                    (pCB dInt (paCons (pOp dAdd (pOp dMul (getP 3) (pC (D.int 48271))) (pC (D.int 69621))) paNil))
                    (pC (D.int 2147483647)))))
              (sExpr (eApp 1 (eUp (pOp dFdiv (getP 3) (pC (D.int 5)))))))
            (rgI 0 m) [some (D.scr ns), some (D.lst true (List.map D.int L)), x2, some (D.int n), x4, x5, x6]).sat
        ((Po.ans fun d' x => ∃ L, d' = iL L).andd (sRet (eRev (eUp (getP 1))))) := by
  refine sat_forR (fun k => DrK ns x2 x5 x6 (62 * 63 + k)) ⟨L, n, x4, by omega, rfl⟩ ?_ ?_
  · rintro k r hk ⟨L, n, x4, hL, rfl⟩
    have h1 : L.length < 16777216 := by omega
    simp [h1]
    exact ⟨L ++ [(n * 48271 + 69621) % 2147483647 / 5], _, _, by rw [List.length_append, List.length_singleton]; omega, by rw [List.map_append]; rfl⟩
  · rintro r ⟨L, n, x4, hL, rfl⟩
    simp
    exact ⟨L.reverse, by rw [List.map_reverse]⟩
theorem draws_ok {ns : List Int} (h : ns.length ≤ 63) : ∃ L : List Int, m_draws [.scr ns] = .ok (iL L) := by
  suffices ∃ d, m_draws [.scr ns] = .ok d ∧ ∃ L, d = iL L by
    obtain ⟨d, e, L, rfl⟩ := this
    exact ⟨L, e⟩
  unfold m_draws b_draws
  refine outP_ex ?_
  simp [List.replicate]
  refine sat_forM (fun k => DrI ns (62 * k)) ⟨[], _, _, _, _, _, by simp, rfl⟩ ?_ ?_
  · rintro j a r hj ⟨L, x2, x3, x4, x5, x6, hL, rfl⟩
    have hj : j < ns.length := (List.getElem?_eq_some_iff.mp hj).1
    have h1 : L.length < 16777216 := by omega
    have h2 : L.length + 1 < 16777216 := by omega
    simp [h1, h2]
    refine ⟨fun _ => ?_, fun hb => draws_in (by omega) L _ _ _ _ _ (by omega) (by omega)⟩
    have e : ∀ (u v : Int), L.map D.int ++ [.int u, .int v] = (L ++ [u, v]).map D.int := fun u v => by rw [List.map_append]; rfl
    rw [e]
    refine draws_in ?_ _ _ _ _ _ _ ?_ ?_
    · omega
    · simp; omega
    · exact Int.le_refl _
  · rintro r ⟨L, x2, x3, x4, x5, x6, hL, rfl⟩
    simp
    refine ⟨fun hp => ?_, fun _ => draws_end h L hL _ _ _ _ _ _ (by decide)⟩
    obtain ⟨a, t, rfl⟩ : ∃ a t, ns = a :: t := by
      cases ns with
      | nil => simp at hp
      | cons a t => exact ⟨a, t, rfl⟩
    simp
    generalize 1 + (a.natAbs : Int) = n
    exact draws_end h L hL n x2 x4 x5 x6 900 (by decide)
end DL

namespace Lw
open PySem PySem.Spec PyProof.Rows L2 DL
abbrev fuel : Nat := 1000000
def topS (i : Nat) : Stmt := PySem.Challenge.pw_packetsheld_k05_whole_pieces_of_spans.main.body.getD i (.Pass ⟨0, 0, 0, 0⟩)
abbrev s__law_draws : Stmt := topS 7
abbrev N__law_draws : List Str := ["script", "draws", "cell", "seed", "k", "number", "first"]
theorem sc__law_draws : FnScope N__law_draws ["script"] (defScope s__law_draws) := ⟨rfl, rfl, rfl, by decide +kernel, rfl, by decide +kernel, by decide +kernel⟩
abbrev s_pieces : Stmt := topS 5
abbrev N_pieces : List Str := ["width", "span", "found", "low", "high", "size"]
theorem sc_pieces : FnScope N_pieces ["width", "span"] (defScope s_pieces) := ⟨rfl, rfl, rfl, by decide +kernel, rfl, by decide +kernel, by decide +kernel⟩
abbrev s__law_take : Stmt := topS 8
abbrev N__law_take : List Str := ["draws", "bound"]
theorem sc__law_take : FnScope N__law_take ["draws", "bound"] (defScope s__law_take) := ⟨rfl, rfl, rfl, by decide +kernel, rfl, by decide +kernel, by decide +kernel⟩
abbrev s_ends : Stmt := topS 4
abbrev N_ends : List Str := ["width", "prefix", "length", "bits"]
theorem sc_ends : FnScope N_ends ["width", "prefix"] (defScope s_ends) := ⟨rfl, rfl, rfl, by decide +kernel, rfl, by decide +kernel, by decide +kernel⟩
abbrev s__law_fewest : Stmt := topS 11
abbrev N__law_fewest : List Str := ["width", "low", "high", "prefix", "first", "last"]
theorem sc__law_fewest : FnScope N__law_fewest ["width", "low", "high", "prefix"] (defScope s__law_fewest) := ⟨rfl, rfl, rfl, by decide +kernel, rfl, by decide +kernel, by decide +kernel⟩
abbrev s_is_number : Stmt := topS 1
abbrev N_is_number : List Str := ["value", "least", "most"]
theorem sc_is_number : FnScope N_is_number ["value", "least", "most"] (defScope s_is_number) := ⟨rfl, rfl, rfl, by decide +kernel, rfl, by decide +kernel, by decide +kernel⟩
abbrev s_is_prefix : Stmt := topS 3
abbrev N_is_prefix : List Str := ["width", "value"]
theorem sc_is_prefix : FnScope N_is_prefix ["width", "value"] (defScope s_is_prefix) := ⟨rfl, rfl, rfl, by decide +kernel, rfl, by decide +kernel, by decide +kernel⟩
abbrev s_law : Stmt := topS 12
abbrev N_law : List Str := ["script", "draws", "most", "width", "told", "prefix", "one", "other", "low", "high", "due", "at", "first", "last", "wide"]
theorem sc_law : FnScope N_law ["script"] (defScope s_law) := ⟨rfl, rfl, rfl, by decide +kernel, rfl, by decide +kernel, by decide +kernel⟩
/-! ### the data functions -/
def b__law_draws : DL.Env → SR := (sSeq (sSet 1 (eLst aNil))
    (sSeq (sFor (iSq (eSh (getP 0))) (setG 2) (sSeq (sSet 5 (epCB dAbs (paCons (getP 2) paNil)))
    (sSeq (sIf (tUp (bP (pOp dLt (getP 5) (pOp dPow (pC (.int 10)) (pC (.int 18)))))) (sSeq (sSet 6 (eUp (pOp dMod (pCB dInt (paCons (pOp dAdd (pOp dMul (getP 5) (pC (.int 48271))) (pC (.int 11))) paNil)) (pC (.int 2147483647)))))
    (sSeq (sExpr (eApp 1 (eUp (pOp dMod (pCB dInt (paCons (pOp dAdd (pOp dMul (getP 6) (pC (.int 69621))) (getP 5)) paNil)) (pC (.int 2147483629))))))
    (sSeq (sExpr (eApp 1 (eUp (pOp dMod (pCB dInt (paCons (pOp dAdd (getP 6) (pOp dFdiv (getP 5) (pC (.int 7)))) paNil)) (pC (.int 1000003))))))
    (sSet 5 (eSh (pC (.int 0))))))) (.nx))
    (sFor (iR1 (aCons (eSh (pC (.int 60))) aNil)) (setG 4) (sIf (tUp (bP (pOp dGt (getP 5) (pC (.int 0))))) (sSeq (sExpr (eApp 1 (eUp (pOp dMod (pCB dInt (paCons (getP 5) paNil)) (pC (.int 997))))))
    (sSet 5 (eUp (pOp dFdiv (getP 5) (pC (.int 997)))))) (.nx))))))
    (sSeq (sSet 3 (eSh (pC (.int 1))))
    (sSeq (sIf (tUp (bP (pOp dGt (pCB dLen (paCons (getP 0) paNil)) (pC (.int 0))))) (sSet 3 (eUp (pOp dAdd (pC (.int 1)) (pCB dAbs (paCons (pIx (getP 0) (pC (.int 0))) paNil))))) (.nx))
    (sSeq (sFor (iR1 (aCons (eSh (pC (.int 900))) aNil)) (setG 4) (sSeq (sSet 3 (eUp (pOp dMod (pCB dInt (paCons (pOp dAdd (pOp dMul (getP 3) (pC (.int 48271))) (pC (.int 69621))) paNil)) (pC (.int 2147483647)))))
    (sExpr (eApp 1 (eUp (pOp dFdiv (getP 3) (pC (.int 5))))))))
    (sRet (eRev (eUp (getP 1)))))))))
def m__law_draws (ds : List D) : PR D := outP (b__law_draws (startE 7 ds))
def b_pieces : DL.Env → SR := (sSeq (sAsg (tupG 2 (consG (setG 3) (consG (setG 4) nilG))) (eSh (getP 1)))
    (sSeq (sSet 2 (eLst aNil))
    (sSeq (sWhile fuel (tUp (bP (pOp dLe (getP 3) (getP 4)))) (sSeq (sSet 5 (eSh (pC (.int 0))))
    (sSeq (sWhile fuel (tUp (tpAnd (bP (pOp dLt (getP 5) (getP 0))) (tpAnd (bP (pOp dEq (pOp dMod (getP 3) (pOp dShl (pC (.int 2)) (getP 5))) (pC (.int 0)))) (bP (pOp dLe (pOp dSub (pOp dAdd (getP 3) (pOp dShl (pC (.int 2)) (getP 5))) (pC (.int 1))) (getP 4)))))) (sAug 5 dAddI (eSh (pC (.int 1)))))
    (sSeq (sExpr (eApp 2 (eTup (aCons (eUp (pOp dSub (getP 0) (getP 5))) (aCons (eUp (pOp dShr (getP 3) (getP 5))) aNil)))))
    (sAug 3 dAddI (eUp (pOp dShl (pC (.int 1)) (getP 5))))))))
    (sRet (epCB dTuple (paCons (getP 2) paNil))))))
def m_pieces (ds : List D) : PR D := outP (b_pieces (startE 6 ds))
def b__law_take : DL.Env → SR := (sSeq (sIf (tUp (bP (pOp dEq (pCB dLen (paCons (getP 0) paNil)) (pC (.int 0))))) (sRet (eSh (pC (.int 0)))) (.nx))
    (sRet (eOp dMod (eCB dInt (aCons (popE 0) aNil)) (eSh (getP 1)))))
def m__law_take (ds : List D) : MR := outM (b__law_take (startE 2 ds))
def b_ends : DL.Env → SR := (sSeq (sAsg (tupG 2 (consG (setG 2) (consG (setG 3) nilG))) (eSh (getP 1)))
    (sRet (eTup (aCons (eUp (pOp dShl (getP 3) (pOp dSub (getP 0) (getP 2)))) (aCons (eUp (pOp dSub (pOp dShl (pOp dAdd (getP 3) (pC (.int 1))) (pOp dSub (getP 0) (getP 2))) (pC (.int 1)))) aNil)))))
def m_ends (ds : List D) : PR D := outP (b_ends (startE 4 ds))
def b__law_fewest (self : List D → PR D) : DL.Env → SR := (sSeq (sPar 4 5 (aCons (eUp (pOp dShl (pIx (getP 3) (pC (.int 1))) (pOp dSub (getP 0) (pIx (getP 3) (pC (.int 0)))))) (aCons (eUp (pOp dSub (pOp dShl (pOp dAdd (pIx (getP 3) (pC (.int 1))) (pC (.int 1))) (pOp dSub (getP 0) (pIx (getP 3) (pC (.int 0))))) (pC (.int 1)))) aNil)))
    (sSeq (sIf (tUp (tpOr (bP (pOp dLt (getP 5) (getP 1))) (bP (pOp dGt (getP 4) (getP 2))))) (sRet (eSh (pC (.int 0)))) (.nx))
    (sSeq (sIf (tUp (tpAnd (bP (pOp dLe (getP 1) (getP 4))) (bP (pOp dLe (getP 5) (getP 2))))) (sRet (eSh (pC (.int 1)))) (.nx))
    (sRet (eUp (pOp dAdd (pCall 4 self (paCons (getP 0) (paCons (getP 1) (paCons (getP 2) (paCons (pTup (paCons (pOp dAdd (pIx (getP 3) (pC (.int 0))) (pC (.int 1))) (paCons (pOp dMul (pC (.int 2)) (pIx (getP 3) (pC (.int 1)))) paNil))) paNil))))) (pCall 4 self (paCons (getP 0) (paCons (getP 1) (paCons (getP 2) (paCons (pTup (paCons (pOp dAdd (pIx (getP 3) (pC (.int 0))) (pC (.int 1))) (paCons (pOp dAdd (pOp dMul (pC (.int 2)) (pIx (getP 3) (pC (.int 1)))) (pC (.int 1))) paNil))) paNil)))))))))))
def m__law_fewest : Nat → List D → PR D
  | 0, _ => .stk
  | k + 1, ds => outP (b__law_fewest (m__law_fewest k) (startE 6 ds))
def b_is_number : DL.Env → SR := (sRet (eSh (pAnd (pUn (dIsi .int) (getP 0)) (pAnd (pNot (pUn (dIsi .bool) (getP 0))) (chP dLe dLe (getP 1) (getP 0) (getP 2))))))
def m_is_number (ds : List D) : PR D := outP (b_is_number (startE 3 ds))
def b_is_prefix : DL.Env → SR := (sSeq (sIf (tUp (tpOr (tpNot (bP (pUn (dIsi .tuple) (getP 1)))) (tpOr (bP (pOp dNe (pCB dLen (paCons (getP 1) paNil)) (pC (.int 2)))) (tpNot (bP (pCall 3 m_is_number (paCons (pIx (getP 1) (pC (.int 0))) (paCons (pC (.int 0)) (paCons (getP 0) paNil))))))))) (sRet (eSh (pC (.bl false)))) (.nx))
    (sRet (eUp (pCall 3 m_is_number (paCons (pIx (getP 1) (pC (.int 1))) (paCons (pC (.int 0)) (paCons (pOp dSub (pOp dShl (pC (.int 1)) (pIx (getP 1) (pC (.int 0)))) (pC (.int 1))) paNil)))))))
def m_is_prefix (ds : List D) : PR D := outP (b_is_prefix (startE 2 ds))
def b_law : DL.Env → SR := (sSeq (sSet 1 (eUp (pCall 1 m__law_draws (paCons (getP 0) paNil))))
    (sSeq (sFor (iSq (eLst (aCons (eSh (pC (.int 5))) (aCons (eSh (pC (.int 16))) aNil)))) (setG 2) (sSeq (sSet 3 (eOp dAdd (eSh (pC (.int 1))) (eCallM 2 m__law_take 1 (aCons (eSh (getP 2)) aNil))))
    (sSeq (sPar 6 7 (aCons (eCallM 2 m__law_take 1 (aCons (eUp (pOp dShl (pC (.int 1)) (getP 3))) aNil)) (aCons (eCallM 2 m__law_take 1 (aCons (eUp (pOp dShl (pC (.int 1)) (getP 3))) aNil)) aNil)))
    (sSeq (sPar 8 9 (aCons (epCB dMin2 (paCons (getP 6) (paCons (getP 7) paNil))) (aCons (epCB dMax2 (paCons (getP 6) (paCons (getP 7) paNil))) aNil)))
    (sSeq (sSet 4 (eUp (pCall 2 m_pieces (paCons (getP 3) (paCons (pTup (paCons (getP 8) (paCons (getP 9) paNil))) paNil)))))
    (sSeq (sIf (tOr (tUp (tpNot (bP (pUn (dIsi .tuple) (getP 4))))) (bE (eOp dNe (eLc (setG 5) (tUp (tpNot (bP (pCall 2 m_is_prefix (paCons (getP 3) (paCons (getP 5) paNil)))))) (eSh (getP 5)) [5] (iSq (eSh (getP 4)))) (eLst aNil)))) (sRet (eSh (pC (.bl false)))) (.nx))
    (sSeq (sPar 10 11 (aCons (eLst aNil) (aCons (eSh (getP 8)) aNil)))
    (sSeq (sFor (iSq (eSh (getP 4))) (setG 5) (sSeq (sAsg (tupG 2 (consG (setG 12) (consG (setG 13) nilG))) (eUp (pCall 2 m_ends (paCons (getP 3) (paCons (getP 5) paNil)))))
    (sSeq (sIf (tUp (tpOr (bP (pOp dNe (getP 12) (getP 11))) (bP (pOp dGt (getP 13) (getP 9))))) (sRet (eSh (pC (.bl false)))) (.nx))
    (sSeq (sSet 11 (eUp (pOp dAdd (getP 13) (pC (.int 1)))))
    (sIf (tUp (bP (pOp dGt (pIx (getP 5) (pC (.int 0))) (pC (.int 0))))) (sSeq (sSet 14 (eUp (pCall 2 m_ends (paCons (getP 3) (paCons (pTup (paCons (pOp dSub (pIx (getP 5) (pC (.int 0))) (pC (.int 1))) (paCons (pOp dFdiv (pIx (getP 5) (pC (.int 1))) (pC (.int 2))) paNil))) paNil)))))
    (sIf (tUp (tpAnd (bP (pOp dLe (getP 8) (pIx (getP 14) (pC (.int 0))))) (bP (pOp dLe (pIx (getP 14) (pC (.int 1))) (getP 9))))) (sRet (eSh (pC (.bl false)))) (.nx))) (.nx))))))
    (sSeq (sIf (tUp (tpOr (bP (pOp dNe (getP 11) (pOp dAdd (getP 9) (pC (.int 1))))) (bP (pOp dNe (pCB dLen (paCons (getP 4) paNil)) (pCall 4 (m__law_fewest 40) (paCons (getP 3) (paCons (getP 8) (paCons (getP 9) (paCons (pTup (paCons (pC (.int 0)) (paCons (pC (.int 0)) paNil))) paNil))))))))) (sRet (eSh (pC (.bl false)))) (.nx))
    (sIf (tUp (bP (pOp dGt (pCB dLen (paCons (getP 4) paNil)) (pCB dMax2 (paCons (pC (.int 1)) (paCons (pOp dSub (pOp dMul (pC (.int 2)) (getP 3)) (pC (.int 2))) paNil)))))) (sRet (eSh (pC (.bl false)))) (.nx)))))))))))
    (sRet (eSh (pC (.bl true))))))
def m_law (ds : List D) : PR D := outP (b_law (startE 15 ds))
/-! ### the text behind the top -/
structure Txt (K : PySem.W.Frag) (mg : Str → Option Value) where
  f__law_draws : Addr
  d__law_draws : FuncData
  F__law_draws : Fun K "_law_draws" "_law_draws" s__law_draws f__law_draws d__law_draws
  g__law_draws : mg "_law_draws" = some (.ref f__law_draws)
  b__law_draws : Binds K d__law_draws ["script"] []
  f_pieces : Addr
  d_pieces : FuncData
  F_pieces : Fun K "pieces" "pieces" s_pieces f_pieces d_pieces
  g_pieces : mg "pieces" = some (.ref f_pieces)
  b_pieces : Binds K d_pieces ["width", "span"] []
  f__law_take : Addr
  d__law_take : FuncData
  F__law_take : Fun K "_law_take" "_law_take" s__law_take f__law_take d__law_take
  g__law_take : mg "_law_take" = some (.ref f__law_take)
  b__law_take : Binds K d__law_take ["draws", "bound"] []
  f_ends : Addr
  d_ends : FuncData
  F_ends : Fun K "ends" "ends" s_ends f_ends d_ends
  g_ends : mg "ends" = some (.ref f_ends)
  b_ends : Binds K d_ends ["width", "prefix"] []
  f__law_fewest : Addr
  d__law_fewest : FuncData
  F__law_fewest : Fun K "_law_fewest" "_law_fewest" s__law_fewest f__law_fewest d__law_fewest
  g__law_fewest : mg "_law_fewest" = some (.ref f__law_fewest)
  b__law_fewest : Binds K d__law_fewest ["width", "low", "high", "prefix"] []
  f_is_number : Addr
  d_is_number : FuncData
  F_is_number : Fun K "is_number" "is_number" s_is_number f_is_number d_is_number
  g_is_number : mg "is_number" = some (.ref f_is_number)
  b_is_number : Binds K d_is_number ["value", "least", "most"] []
  f_is_prefix : Addr
  d_is_prefix : FuncData
  F_is_prefix : Fun K "is_prefix" "is_prefix" s_is_prefix f_is_prefix d_is_prefix
  g_is_prefix : mg "is_prefix" = some (.ref f_is_prefix)
  b_is_prefix : Binds K d_is_prefix ["width", "value"] []
  f_law : Addr
  d_law : FuncData
  F_law : Fun K "law" "law" s_law f_law d_law
  g_law : mg "law" = some (.ref f_law)
  b_law : Binds K d_law ["script"] []
  z_abs : mg "abs" = none
  z_bool : mg "bool" = none
  z_int : mg "int" = none
  z_isinstance : mg "isinstance" = none
  z_len : mg "len" = none
  z_list : mg "list" = none
  z_max : mg "max" = none
  z_min : mg "min" = none
  z_range : mg "range" = none
  z_reversed : mg "reversed" = none
  z_tuple : mg "tuple" = none
section
variable {P : Program} {w : World} {K : PySem.W.Frag} {mg : Str → Option Value} {base : Heap}
theorem ok__law_draws (T : Txt K mg) : FnD P w K mg base 1 T.f__law_draws T.d__law_draws ["script"] m__law_draws := fnD_of (k := 0) T.F__law_draws sc__law_draws (fun cdv A outer s H E hr => (n_cons (n_set 1 sc__law_draws.nd (n_elst n_anil))
    (n_cons (n_for (passes_of rfl) rfl (n_isq (n_sh (dp_var 0))) (n_gname 2 sc__law_draws.nd) (n_cons (n_set 5 sc__law_draws.nd (n_epcb call_abs vl_abs T.z_abs bt_abs (n_pacons (dp_var 2) n_panil)))
    (n_cons (n_if (n_tup_ (n_tpcmp op_lt v2_lt (nomark _) (dp_var 5) (n_pop op_pow v2_pow n_int n_int))) (n_cons (n_set 6 sc__law_draws.nd (n_epop op_mod v2_mod (n_pct call_int1 vl_int T.z_int bt_int (n_pacons (n_pop op_addA v2_add (n_pop op_mul v2_mul (dp_var 5) n_int) n_int) n_panil)) n_int))
    (n_cons (n_expr (n_app 1 (n_epop op_mod v2_mod (n_pct call_int1 vl_int T.z_int bt_int (n_pacons (n_pop op_addA v2_add (n_pop op_mul v2_mul (dp_var 6) n_int) (dp_var 5)) n_panil)) n_int)))
    (n_cons (n_expr (n_app 1 (n_epop op_mod v2_mod (n_pct call_int1 vl_int T.z_int bt_int (n_pacons (n_pop op_addA v2_add (dp_var 6) (n_pop op_fdiv v2_fdiv (dp_var 5) n_int)) n_panil)) n_int)))
    (n_one (n_set 5 sc__law_draws.nd (n_sh n_int)))))) n_nil)
    (n_one (n_for (passes_of rfl) rfl (n_ir1 T.z_range (n_acons (n_sh n_int) n_anil)) (n_gname 4 sc__law_draws.nd) (n_one (n_if (n_tup_ (n_tpcmp op_gt v2_gt (nomark _) (dp_var 5) n_int)) (n_cons (n_expr (n_app 1 (n_epop op_mod v2_mod (n_pct call_int1 vl_int T.z_int bt_int (n_pacons (dp_var 5) n_panil)) n_int)))
    (n_one (n_set 5 sc__law_draws.nd (n_epop op_fdiv v2_fdiv (dp_var 5) n_int)))) n_nil)))))))
    (n_cons (n_set 3 sc__law_draws.nd (n_sh n_int))
    (n_cons (n_if (n_tup_ (n_tpcmp op_gt v2_gt (nomark _) (n_pcb call_len vl_len T.z_len bt_len (n_pacons (dp_var 0) n_panil)) n_int)) (n_one (n_set 3 sc__law_draws.nd (n_epop op_addA v2_add n_int (n_pcb call_abs vl_abs T.z_abs bt_abs (n_pacons (n_pix (dp_var 0) n_int) n_panil))))) n_nil)
    (n_cons (n_for (passes_of rfl) rfl (n_ir1 T.z_range (n_acons (n_sh n_int) n_anil)) (n_gname 4 sc__law_draws.nd) (n_cons (n_set 3 sc__law_draws.nd (n_epop op_mod v2_mod (n_pct call_int1 vl_int T.z_int bt_int (n_pacons (n_pop op_addA v2_add (n_pop op_mul v2_mul (dp_var 3) n_int) n_int) n_panil)) n_int))
    (n_one (n_expr (n_app 1 (n_epop op_fdiv v2_fdiv (dp_var 3) n_int))))))
    (n_one (n_ret (n_rev rfl T.z_list T.z_reversed (dr_of_dp (dp_var 1))))))))))) (fun _ _ => rfl)
theorem ok_pieces (T : Txt K mg) : FnD P w K mg base 1 T.f_pieces T.d_pieces ["width", "span"] m_pieces := fnD_of (k := 0) T.F_pieces sc_pieces (fun cdv A outer s H E hr => (n_cons (n_asg (n_sh (dp_var 1)) (dg_tup (n := 2) rfl (dgs_cons (n_gname 3 sc_pieces.nd) (dgs_cons (n_gname 4 sc_pieces.nd) dgs_nil))))
    (n_cons (n_set 2 sc_pieces.nd (n_elst n_anil))
    (n_cons (n_while fuel (passes_of rfl) (n_tup_ (n_tpcmp op_le v2_le (nomark _) (dp_var 3) (dp_var 4))) (n_cons (n_set 5 sc_pieces.nd (n_sh n_int))
    (n_cons (n_while fuel (passes_of rfl) (n_tup_ (dtp_of_dw (n_wpand (n_tpcmp op_lt v2_lt (nomark _) (dp_var 5) (dp_var 0)) (n_wpand (n_tpcmp (op_eqA hr.units) v2_eq (nomark _) (n_pop op_mod v2_mod (dp_var 3) (n_pop op_shl v2_shl n_int (dp_var 5))) n_int) (dwp_and1 (n_tpcmp op_le v2_le (nomark _) (n_pop op_sub v2_sub (n_pop op_addA v2_add (dp_var 3) (n_pop op_shl v2_shl n_int (dp_var 5))) n_int) (dp_var 4))))))) (n_one (n_aug 5 iop_add v2_addI sc_pieces.nd (n_sh n_int))))
    (n_cons (n_expr (n_app 2 (n_etup (n_acons (n_epop op_sub v2_sub (dp_var 0) (dp_var 5)) (n_acons (n_epop op_shr v2_shr (dp_var 3) (dp_var 5)) n_anil)))))
    (n_one (n_aug 3 iop_add v2_addI sc_pieces.nd (n_epop op_shl v2_shl n_int (dp_var 5))))))))
    (n_one (n_ret (n_epct call_tuple_of vl_tuple T.z_tuple bt_tuple (n_pacons (dp_var 2) n_panil)))))))) (fun _ _ => rfl)
theorem ok__law_take (T : Txt K mg) : FnM P w K mg base 1 T.f__law_take T.d__law_take ["draws", "bound"] m__law_take := fnM_of (k := 0) T.F__law_take sc__law_take (by decide) (fun cdv A outer s H E hr => (n_cons (n_if (n_tup_ (n_tpcmp (op_eqA hr.units) v2_eq (nomark _) (n_pcb call_len vl_len T.z_len bt_len (n_pacons (dp_var 0) n_panil)) n_int)) (n_one (n_ret (n_sh n_int))) n_nil)
    (n_one (n_ret (n_eop op_mod v2_mod (n_ect call_int1 vl_int T.z_int bt_int (n_acons (de_pop 0) n_anil)) (n_sh (dp_var 1))))))) (fun _ _ => rfl)
theorem ok_ends (T : Txt K mg) : FnD P w K mg base 1 T.f_ends T.d_ends ["width", "prefix"] m_ends := fnD_of (k := 0) T.F_ends sc_ends (fun cdv A outer s H E hr => (n_cons (n_asg (n_sh (dp_var 1)) (dg_tup (n := 2) rfl (dgs_cons (n_gname 2 sc_ends.nd) (dgs_cons (n_gname 3 sc_ends.nd) dgs_nil))))
    (n_one (n_ret (n_etup (n_acons (n_epop op_shl v2_shl (dp_var 3) (n_pop op_sub v2_sub (dp_var 0) (dp_var 2))) (n_acons (n_epop op_sub v2_sub (n_pop op_shl v2_shl (n_pop op_addA v2_add (dp_var 3) n_int) (n_pop op_sub v2_sub (dp_var 0) (dp_var 2))) n_int) n_anil))))))) (fun _ _ => rfl)
theorem ok__law_fewest (T : Txt K mg) : ∀ k : Nat, FnD P w K mg base (1 + k) T.f__law_fewest T.d__law_fewest ["width", "low", "high", "prefix"] (m__law_fewest k)
  | 0 => fnD_stk (fun _ => rfl)
  | k + 1 => by
    have ih := ok__law_fewest T k
    exact fnD_of (k := 1 + k) T.F__law_fewest sc__law_fewest (fun cdv A outer s H E hr => (n_cons (n_par 4 5 rfl sc__law_fewest.nd (n_acons (n_epop op_shl v2_shl (n_pix (dp_var 3) n_int) (n_pop op_sub v2_sub (dp_var 0) (n_pix (dp_var 3) n_int))) (n_acons (n_epop op_sub v2_sub (n_pop op_shl v2_shl (n_pop op_addA v2_add (n_pix (dp_var 3) n_int) n_int) (n_pop op_sub v2_sub (dp_var 0) (n_pix (dp_var 3) n_int))) n_int) n_anil)))
    (n_cons (n_if (n_tup_ (dtp_of_dw (n_wpor (n_tpcmp op_lt v2_lt (nomark _) (dp_var 5) (dp_var 1)) (dwp_or1 (n_tpcmp op_gt v2_gt (nomark _) (dp_var 4) (dp_var 2)))))) (n_one (n_ret (n_sh n_int))) n_nil)
    (n_cons (n_if (n_tup_ (dtp_of_dw (n_wpand (n_tpcmp op_le v2_le (nomark _) (dp_var 1) (dp_var 4)) (dwp_and1 (n_tpcmp op_le v2_le (nomark _) (dp_var 5) (dp_var 2)))))) (n_one (n_ret (n_sh n_int))) n_nil)
    (n_one (n_ret (n_epop op_addA v2_add (n_pcall takes_body ih hr T.g__law_fewest T.F__law_fewest.kp T.b__law_fewest (n_pacons (dp_var 0) (n_pacons (dp_var 1) (n_pacons (dp_var 2) (n_pacons (n_ptup (n_pacons (n_pop op_addA v2_add (n_pix (dp_var 3) n_int) n_int) (n_pacons (n_pop op_mul v2_mul n_int (n_pix (dp_var 3) n_int)) n_panil))) n_panil))))) (n_pcall takes_body ih hr T.g__law_fewest T.F__law_fewest.kp T.b__law_fewest (n_pacons (dp_var 0) (n_pacons (dp_var 1) (n_pacons (dp_var 2) (n_pacons (n_ptup (n_pacons (n_pop op_addA v2_add (n_pix (dp_var 3) n_int) n_int) (n_pacons (n_pop op_addA v2_add (n_pop op_mul v2_mul n_int (n_pix (dp_var 3) n_int)) n_int) n_panil))) n_panil)))))))))))) (fun _ _ => rfl)
theorem ok_is_number (T : Txt K mg) : FnD P w K mg base 1 T.f_is_number T.d_is_number ["value", "least", "most"] m_is_number := fnD_of (k := 0) T.F_is_number sc_is_number (fun cdv A outer s H E hr => (n_one (n_ret (n_sh (n_pand (n_isi .int T.z_isinstance T.z_int bt_int (dp_var 0)) (n_pand (n_pnot (n_isi .bool T.z_isinstance T.z_bool bt_bool (dp_var 0))) (dp_one (n_pch op_le op_le v2_le v2_le (dp_var 1) (dp_var 0) (dp_var 2))))))))) (fun _ _ => rfl)
theorem ok_is_prefix (T : Txt K mg) : FnD P w K mg base 2 T.f_is_prefix T.d_is_prefix ["width", "value"] m_is_prefix := fnD_of (k := 1) T.F_is_prefix sc_is_prefix (fun cdv A outer s H E hr => (n_cons (n_if (n_tup_ (dtp_of_dw (n_wpor (n_tpnot (n_tpval (n_isi .tuple T.z_isinstance T.z_tuple bt_tuple (dp_var 1)))) (n_wpor (n_tpcmp (op_neA hr.units) v2_ne (nomark _) (n_pcb call_len vl_len T.z_len bt_len (n_pacons (dp_var 1) n_panil)) n_int) (dwp_or1 (n_tpnot (n_tpval (n_pcall takes_body (ok_is_number T) (hr.mono (by omega)) T.g_is_number T.F_is_number.kp T.b_is_number (n_pacons (n_pix (dp_var 1) n_int) (n_pacons n_int (n_pacons (dp_var 0) n_panil))))))))))) (n_one (n_ret (n_sh n_bl))) n_nil)
    (n_one (n_ret (n_epcall takes_body (ok_is_number T) (hr.mono (by omega)) T.g_is_number T.F_is_number.kp T.b_is_number (n_pacons (n_pix (dp_var 1) n_int) (n_pacons n_int (n_pacons (n_pop op_sub v2_sub (n_pop op_shl v2_shl n_int (n_pix (dp_var 1) n_int)) n_int) n_panil)))))))) (fun _ _ => rfl)
theorem ok_law (T : Txt K mg) : FnD P w K mg base 42 T.f_law T.d_law ["script"] m_law := fnD_of (k := 41) T.F_law sc_law (fun cdv A outer s H E hr => (n_cons (n_set 1 sc_law.nd (n_epcall takes_body (ok__law_draws T) (hr.mono (by omega)) T.g__law_draws T.F__law_draws.kp T.b__law_draws (n_pacons (dp_var 0) n_panil)))
    (n_cons (n_for (passes_of rfl) rfl (n_isq (n_elst (n_acons (n_sh n_int) (n_acons (n_sh n_int) n_anil)))) (n_gname 2 sc_law.nd) (n_cons (n_set 3 sc_law.nd (n_eop op_addA v2_add (n_sh n_int) (n_callM 1 takes_body (ok__law_take T) (hr.mono (by omega)) T.g__law_take T.F__law_take.kp T.b__law_take (n_acons (n_sh (dp_var 2)) n_anil))))
    (n_cons (n_par 6 7 rfl sc_law.nd (n_acons (n_callM 1 takes_body (ok__law_take T) (hr.mono (by omega)) T.g__law_take T.F__law_take.kp T.b__law_take (n_acons (n_epop op_shl v2_shl n_int (dp_var 3)) n_anil)) (n_acons (n_callM 1 takes_body (ok__law_take T) (hr.mono (by omega)) T.g__law_take T.F__law_take.kp T.b__law_take (n_acons (n_epop op_shl v2_shl n_int (dp_var 3)) n_anil)) n_anil)))
    (n_cons (n_par 8 9 rfl sc_law.nd (n_acons (n_epcb (call_min2 rfl) vl_min2 T.z_min bt_min (n_pacons (dp_var 6) (n_pacons (dp_var 7) n_panil))) (n_acons (n_epcb (call_max2 rfl) vl_max2 T.z_max bt_max (n_pacons (dp_var 6) (n_pacons (dp_var 7) n_panil))) n_anil)))
    (n_cons (n_set 4 sc_law.nd (n_epcall takes_body (ok_pieces T) (hr.mono (by omega)) T.g_pieces T.F_pieces.kp T.b_pieces (n_pacons (dp_var 3) (n_pacons (n_ptup (n_pacons (dp_var 8) (n_pacons (dp_var 9) n_panil))) n_panil))))
    (n_cons (n_if (dt_of_dw (n_wor (n_tup_ (n_tpnot (n_tpval (n_isi .tuple T.z_isinstance T.z_tuple bt_tuple (dp_var 4))))) (dw_or1 (n_tcmp (op_neA hr.units) v2_ne (nomark _) (n_lc [("prefix", 5)] rfl sc_law.nd (n_isq (n_sh (dp_var 4))) (blkOk_by (N := N_law) (sc := defScope s_law) (own := [("prefix", 5)]) (by decide +kernel)) (fun _ _ _ _ _ => (n_gname 5 sc_law.nd)) (fun _ _ _ _ _ => (dts_one (n_tup_ (n_tpnot (n_tpval (n_pcall takes0 (ok_is_prefix T) (hr.mono (by omega)) T.g_is_prefix T.F_is_prefix.kp T.b_is_prefix (n_pacons (dp_var 3) (n_pacons (dp_var 5) n_panil)))))))) (fun _ _ _ _ _ => (n_sh (dp_var 5)))) (n_elst n_anil))))) (n_one (n_ret (n_sh n_bl))) n_nil)
    (n_cons (n_par 10 11 rfl sc_law.nd (n_acons (n_elst n_anil) (n_acons (n_sh (dp_var 8)) n_anil)))
    (n_cons (n_for (passes_of rfl) rfl (n_isq (n_sh (dp_var 4))) (n_gname 5 sc_law.nd) (n_cons (n_asg (n_epcall takes_body (ok_ends T) (hr.mono (by omega)) T.g_ends T.F_ends.kp T.b_ends (n_pacons (dp_var 3) (n_pacons (dp_var 5) n_panil))) (dg_tup (n := 2) rfl (dgs_cons (n_gname 12 sc_law.nd) (dgs_cons (n_gname 13 sc_law.nd) dgs_nil))))
    (n_cons (n_if (n_tup_ (dtp_of_dw (n_wpor (n_tpcmp (op_neA hr.units) v2_ne (nomark _) (dp_var 12) (dp_var 11)) (dwp_or1 (n_tpcmp op_gt v2_gt (nomark _) (dp_var 13) (dp_var 9)))))) (n_one (n_ret (n_sh n_bl))) n_nil)
    (n_cons (n_set 11 sc_law.nd (n_epop op_addA v2_add (dp_var 13) n_int))
    (n_one (n_if (n_tup_ (n_tpcmp op_gt v2_gt (nomark _) (n_pix (dp_var 5) n_int) n_int)) (n_cons (n_set 14 sc_law.nd (n_epcall takes_body (ok_ends T) (hr.mono (by omega)) T.g_ends T.F_ends.kp T.b_ends (n_pacons (dp_var 3) (n_pacons (n_ptup (n_pacons (n_pop op_sub v2_sub (n_pix (dp_var 5) n_int) n_int) (n_pacons (n_pop op_fdiv v2_fdiv (n_pix (dp_var 5) n_int) n_int) n_panil))) n_panil))))
    (n_one (n_if (n_tup_ (dtp_of_dw (n_wpand (n_tpcmp op_le v2_le (nomark _) (dp_var 8) (n_pix (dp_var 14) n_int)) (dwp_and1 (n_tpcmp op_le v2_le (nomark _) (n_pix (dp_var 14) n_int) (dp_var 9)))))) (n_one (n_ret (n_sh n_bl))) n_nil))) n_nil))))))
    (n_cons (n_if (n_tup_ (dtp_of_dw (n_wpor (n_tpcmp (op_neA hr.units) v2_ne (nomark _) (dp_var 11) (n_pop op_addA v2_add (dp_var 9) n_int)) (dwp_or1 (n_tpcmp (op_neA hr.units) v2_ne (nomark _) (n_pcb call_len vl_len T.z_len bt_len (n_pacons (dp_var 4) n_panil)) (n_pcall takes_body (ok__law_fewest T 40) (hr.mono (by omega)) T.g__law_fewest T.F__law_fewest.kp T.b__law_fewest (n_pacons (dp_var 3) (n_pacons (dp_var 8) (n_pacons (dp_var 9) (n_pacons (n_ptup (n_pacons n_int (n_pacons n_int n_panil))) n_panil)))))))))) (n_one (n_ret (n_sh n_bl))) n_nil)
    (n_one (n_if (n_tup_ (n_tpcmp op_gt v2_gt (nomark _) (n_pcb call_len vl_len T.z_len bt_len (n_pacons (dp_var 4) n_panil)) (n_pcb (call_max2 rfl) vl_max2 T.z_max bt_max (n_pacons n_int (n_pacons (n_pop op_sub v2_sub (n_pop op_mul v2_mul n_int (dp_var 3)) n_int) n_panil))))) (n_one (n_ret (n_sh n_bl))) n_nil)))))))))))
    (n_one (n_ret (n_sh n_bl)))))) (fun _ _ => rfl)
end
theorem all_mk {l : PySem.W.OpenLaw} {w : World} {K : PySem.W.Frag} {h : Heap} {mg : Str → Option Value} {fa : Addr} (X : K.In h) (G : h.Ns mainGlobals mg) (hfa : mg "law" = some (.ref fa))
    {f0 : Addr} {od0 an0 : Option Addr} {sl0 : Array (Option Value)} {oc0 kV0 dc0 pm0 cd0 ct0 : Value}
    {f1 : Addr} {od1 an1 : Option Addr} {sl1 : Array (Option Value)} {oc1 kV1 dc1 pm1 cd1 ct1 : Value}
    {f2 : Addr} {od2 an2 : Option Addr} {sl2 : Array (Option Value)} {oc2 kV2 dc2 pm2 cd2 ct2 : Value}
    {f3 : Addr} {od3 an3 : Option Addr} {sl3 : Array (Option Value)} {oc3 kV3 dc3 pm3 cd3 ct3 : Value}
    {f4 : Addr} {od4 an4 : Option Addr} {sl4 : Array (Option Value)} {oc4 kV4 dc4 pm4 cd4 ct4 : Value}
    {f5 : Addr} {od5 an5 : Option Addr} {sl5 : Array (Option Value)} {oc5 kV5 dc5 pm5 cd5 ct5 : Value}
    {f6 : Addr} {od6 an6 : Option Addr} {sl6 : Array (Option Value)} {oc6 kV6 dc6 pm6 cd6 ct6 : Value}
    {f7 : Addr} {od7 an7 : Option Addr} {sl7 : Array (Option Value)} {oc7 kV7 dc7 pm7 cd7 ct7 : Value}
    (a0 : PySem.W.nsIn K mainGlobals "_law_draws" = some (some (.ref f0))) (l0 : K.lookup f0 = some ⟨oc0, od0, .func (PySem.W.fnOf "_law_draws" "_law_draws" (defArgs s__law_draws) (defBody s__law_draws) (defScope s__law_draws) .none kV0 dc0 pm0 an0 cd0 ct0), sl0⟩) (c0 : PySem.W.codeIn K cd0 "_law_draws" = true) (k0 : PySem.W.keepIn K (.ref f0) = true)
    (a1 : PySem.W.nsIn K mainGlobals "pieces" = some (some (.ref f1))) (l1 : K.lookup f1 = some ⟨oc1, od1, .func (PySem.W.fnOf "pieces" "pieces" (defArgs s_pieces) (defBody s_pieces) (defScope s_pieces) .none kV1 dc1 pm1 an1 cd1 ct1), sl1⟩) (c1 : PySem.W.codeIn K cd1 "pieces" = true) (k1 : PySem.W.keepIn K (.ref f1) = true)
    (a2 : PySem.W.nsIn K mainGlobals "_law_take" = some (some (.ref f2))) (l2 : K.lookup f2 = some ⟨oc2, od2, .func (PySem.W.fnOf "_law_take" "_law_take" (defArgs s__law_take) (defBody s__law_take) (defScope s__law_take) .none kV2 dc2 pm2 an2 cd2 ct2), sl2⟩) (c2 : PySem.W.codeIn K cd2 "_law_take" = true) (k2 : PySem.W.keepIn K (.ref f2) = true)
    (a3 : PySem.W.nsIn K mainGlobals "ends" = some (some (.ref f3))) (l3 : K.lookup f3 = some ⟨oc3, od3, .func (PySem.W.fnOf "ends" "ends" (defArgs s_ends) (defBody s_ends) (defScope s_ends) .none kV3 dc3 pm3 an3 cd3 ct3), sl3⟩) (c3 : PySem.W.codeIn K cd3 "ends" = true) (k3 : PySem.W.keepIn K (.ref f3) = true)
    (a4 : PySem.W.nsIn K mainGlobals "_law_fewest" = some (some (.ref f4))) (l4 : K.lookup f4 = some ⟨oc4, od4, .func (PySem.W.fnOf "_law_fewest" "_law_fewest" (defArgs s__law_fewest) (defBody s__law_fewest) (defScope s__law_fewest) .none kV4 dc4 pm4 an4 cd4 ct4), sl4⟩) (c4 : PySem.W.codeIn K cd4 "_law_fewest" = true) (k4 : PySem.W.keepIn K (.ref f4) = true)
    (a5 : PySem.W.nsIn K mainGlobals "is_number" = some (some (.ref f5))) (l5 : K.lookup f5 = some ⟨oc5, od5, .func (PySem.W.fnOf "is_number" "is_number" (defArgs s_is_number) (defBody s_is_number) (defScope s_is_number) .none kV5 dc5 pm5 an5 cd5 ct5), sl5⟩) (c5 : PySem.W.codeIn K cd5 "is_number" = true) (k5 : PySem.W.keepIn K (.ref f5) = true)
    (a6 : PySem.W.nsIn K mainGlobals "is_prefix" = some (some (.ref f6))) (l6 : K.lookup f6 = some ⟨oc6, od6, .func (PySem.W.fnOf "is_prefix" "is_prefix" (defArgs s_is_prefix) (defBody s_is_prefix) (defScope s_is_prefix) .none kV6 dc6 pm6 an6 cd6 ct6), sl6⟩) (c6 : PySem.W.codeIn K cd6 "is_prefix" = true) (k6 : PySem.W.keepIn K (.ref f6) = true)
    (a7 : PySem.W.nsIn K mainGlobals "law" = some (some (.ref f7))) (l7 : K.lookup f7 = some ⟨oc7, od7, .func (PySem.W.fnOf "law" "law" (defArgs s_law) (defBody s_law) (defScope s_law) .none kV7 dc7 pm7 an7 cd7 ct7), sl7⟩) (c7 : PySem.W.codeIn K cd7 "law" = true) (k7 : PySem.W.keepIn K (.ref f7) = true)
    (z_abs : PySem.W.nsIn K mainGlobals "abs" = some none)
    (z_bool : PySem.W.nsIn K mainGlobals "bool" = some none)
    (z_int : PySem.W.nsIn K mainGlobals "int" = some none)
    (z_isinstance : PySem.W.nsIn K mainGlobals "isinstance" = some none)
    (z_len : PySem.W.nsIn K mainGlobals "len" = some none)
    (z_list : PySem.W.nsIn K mainGlobals "list" = some none)
    (z_max : PySem.W.nsIn K mainGlobals "max" = some none)
    (z_min : PySem.W.nsIn K mainGlobals "min" = some none)
    (z_range : PySem.W.nsIn K mainGlobals "range" = some none)
    (z_reversed : PySem.W.nsIn K mainGlobals "reversed" = some none)
    (z_tuple : PySem.W.nsIn K mainGlobals "tuple" = some none)
    (hm : ∀ ns : List Int, ns.length ≤ 63 → m_law [.scr ns] = .ok (.bl true)) :
    ∃ fd : FuncData, (∀ (s : Shared) (v : Value), BindsTo s fd ⟨[v], []⟩ [("script", v)]) ∧ ∀ base : Heap, K.In base → base.Ns mainGlobals mg → FnOk l.prog w K mg base (L2.CX l.prog w) 42 fa fd ["script"] (spLaw K) := by
  have e := hfa.symm.trans (PySem.W.mg_of X G a7)
  cases e
  have F0 := fun_mk (st := s__law_draws) l0 c0 k0
  have B0 := F0.binds (ps := ["script"]) fun _ _ _ _ _ _ us hl => match us, hl with | [_], _ => rfl
  have F1 := fun_mk (st := s_pieces) l1 c1 k1
  have B1 := F1.binds (ps := ["width", "span"]) fun _ _ _ _ _ _ us hl => match us, hl with | [_, _], _ => rfl
  have F2 := fun_mk (st := s__law_take) l2 c2 k2
  have B2 := F2.binds (ps := ["draws", "bound"]) fun _ _ _ _ _ _ us hl => match us, hl with | [_, _], _ => rfl
  have F3 := fun_mk (st := s_ends) l3 c3 k3
  have B3 := F3.binds (ps := ["width", "prefix"]) fun _ _ _ _ _ _ us hl => match us, hl with | [_, _], _ => rfl
  have F4 := fun_mk (st := s__law_fewest) l4 c4 k4
  have B4 := F4.binds (ps := ["width", "low", "high", "prefix"]) fun _ _ _ _ _ _ us hl => match us, hl with | [_, _, _, _], _ => rfl
  have F5 := fun_mk (st := s_is_number) l5 c5 k5
  have B5 := F5.binds (ps := ["value", "least", "most"]) fun _ _ _ _ _ _ us hl => match us, hl with | [_, _, _], _ => rfl
  have F6 := fun_mk (st := s_is_prefix) l6 c6 k6
  have B6 := F6.binds (ps := ["width", "value"]) fun _ _ _ _ _ _ us hl => match us, hl with | [_, _], _ => rfl
  have F7 := fun_mk (st := s_law) l7 c7 k7
  have B7 := F7.binds (ps := ["script"]) fun _ _ _ _ _ _ us hl => match us, hl with | [_], _ => rfl
  let T : Txt K mg := { f__law_draws := f0, d__law_draws := _, F__law_draws := F0, g__law_draws := PySem.W.mg_of X G a0, b__law_draws := B0, f_pieces := f1, d_pieces := _, F_pieces := F1, g_pieces := PySem.W.mg_of X G a1, b_pieces := B1, f__law_take := f2, d__law_take := _, F__law_take := F2, g__law_take := PySem.W.mg_of X G a2, b__law_take := B2, f_ends := f3, d_ends := _, F_ends := F3, g_ends := PySem.W.mg_of X G a3, b_ends := B3, f__law_fewest := f4, d__law_fewest := _, F__law_fewest := F4, g__law_fewest := PySem.W.mg_of X G a4, b__law_fewest := B4, f_is_number := f5, d_is_number := _, F_is_number := F5, g_is_number := PySem.W.mg_of X G a5, b_is_number := B5, f_is_prefix := f6, d_is_prefix := _, F_is_prefix := F6, g_is_prefix := PySem.W.mg_of X G a6, b_is_prefix := B6, f_law := fa, d_law := _, F_law := F7, g_law := PySem.W.mg_of X G a7, b_law := B7, z_abs := PySem.W.mg_none_of X G z_abs, z_bool := PySem.W.mg_none_of X G z_bool, z_int := PySem.W.mg_none_of X G z_int, z_isinstance := PySem.W.mg_none_of X G z_isinstance, z_len := PySem.W.mg_none_of X G z_len, z_list := PySem.W.mg_none_of X G z_list, z_max := PySem.W.mg_none_of X G z_max, z_min := PySem.W.mg_none_of X G z_min, z_range := PySem.W.mg_none_of X G z_range, z_reversed := PySem.W.mg_none_of X G z_reversed, z_tuple := PySem.W.mg_none_of X G z_tuple }
  exact ⟨PySem.W.fnOf "law" "law" (defArgs s_law) (defBody s_law) (defScope s_law) .none kV7 dc7 pm7 an7 cd7 ct7, fun s v => .of_eq rfl, fun base _ _ => law_imp rfl (ok_law T) hm⟩
end Lw

namespace Lw
/-! ### the plain law -/
structure Gs (w c hi s : Nat) : Prop where
  le : s ≤ w
  dv : 2 ^ s ∣ c
  fit : c + 2 ^ s ≤ hi + 1
  mx : ¬ (s < w ∧ 2 ^ (s + 1) ∣ c ∧ c + 2 ^ (s + 1) ≤ hi + 1)
inductive Pcs (w hi : Nat) : Nat → List (Nat × Nat) → Prop where
  | nil {c} : hi < c → Pcs w hi c []
  | cons {c s l} : c ≤ hi → Gs w c hi s → Pcs w hi (c + 2 ^ s) l → Pcs w hi c ((s, c) :: l)
theorem two_pos (k : Nat) : 0 < 2 ^ k := Nat.pow_pos (by decide)
theorem pow_le {a b : Nat} (h : a ≤ b) : 2 ^ a ≤ 2 ^ b := Nat.pow_le_pow_right (by decide) h
/-- no wider block than a piece that ends before lies within -/
def Mxl (w lo hi c : Nat) : Prop := ∀ s, s < w → lo + 2 ^ s ≤ c → 2 ^ s ∣ c → ¬ 2 ^ (s + 1) ∣ c → hi + 1 < c + 2 ^ s
theorem Mxl.start {w lo hi : Nat} : Mxl w lo hi lo := fun s _ h => absurd h (by have := two_pos s; omega)
theorem even_of {m t : Nat} (h : ¬ 2 ^ (t + 1) ∣ (m + 1) * 2 ^ t) : 2 ^ (t + 1) ∣ m * 2 ^ t := by
  rcases Nat.mod_two_eq_zero_or_one m with e | e
  · exact ⟨m / 2, by rw [Nat.pow_succ, show m * 2 ^ t = (2 * (m / 2)) * 2 ^ t by rw [show 2 * (m / 2) = m by omega], Nat.mul_comm 2 (m / 2), Nat.mul_assoc, Nat.mul_comm (2 ^ t) 2, Nat.mul_comm (m / 2)]⟩
  · exact absurd ⟨(m + 1) / 2, by rw [Nat.pow_succ, show (m + 1) * 2 ^ t = (2 * ((m + 1) / 2)) * 2 ^ t by rw [show 2 * ((m + 1) / 2) = m + 1 by omega], Nat.mul_comm 2 ((m + 1) / 2), Nat.mul_assoc, Nat.mul_comm (2 ^ t) 2, Nat.mul_comm ((m + 1) / 2)]⟩ h
theorem Mxl.step {w lo hi c t : Nat} (h : Mxl w lo hi c) (g : Gs w c hi t) : Mxl w lo hi (c + 2 ^ t) := by
  intro s hs hl hd hn
  refine Decidable.byContradiction fun hc => ?_
  have hc : c + 2 ^ t + 2 ^ s ≤ hi + 1 := by omega
  rcases Nat.lt_trichotomy s t with hst | hst | hst
  · have d1 : 2 ^ (s + 1) ∣ 2 ^ t := Nat.pow_dvd_pow 2 hst
    exact hn ((Nat.dvd_add_right (Nat.dvd_trans d1 g.dv)).mpr d1)
  · subst hst
    obtain ⟨m, hm⟩ := g.dv
    have e : c + 2 ^ s = (m + 1) * 2 ^ s := by rw [hm, Nat.add_mul, Nat.mul_comm, Nat.one_mul]
    rw [e] at hn
    refine g.mx ⟨hs, ?_, ?_⟩
    · rw [hm, Nat.mul_comm]; exact even_of hn
    · rw [Nat.pow_succ]; omega
  · have d1 : 2 ^ (t + 1) ∣ 2 ^ s := Nat.pow_dvd_pow 2 hst
    have p1 : 2 ^ (t + 1) ≤ 2 ^ s := pow_le hst
    have p2 := Nat.pow_succ (n := 2) (m := t)
    have d2 : 2 ^ (t + 1) ∣ c + 2 ^ t := Nat.dvd_trans d1 hd
    have n2 : ¬ 2 ^ (t + 1) ∣ c := fun d => by
      have := (Nat.dvd_add_right d).mp d2
      have := Nat.le_of_dvd (two_pos t) this
      have := two_pos t
      omega
    have := h t (by omega) (by omega) g.dv n2
    omega
/-- the block one wider does not lie within -/
theorem Mxl.wide {w lo hi c s : Nat} (h : Mxl w lo hi c) (g : Gs w c hi s) (hs : s < w) : ¬ (lo ≤ c / 2 ^ s / 2 * 2 ^ (s + 1) ∧ (c / 2 ^ s / 2 + 1) * 2 ^ (s + 1) ≤ hi + 1) := by
  rintro ⟨h1, h2⟩
  obtain ⟨m, hm⟩ := g.dv
  have em : c / 2 ^ s = m := by rw [hm]; exact Nat.mul_div_cancel_left _ (two_pos s)
  rw [em] at h1 h2
  have p2 := Nat.pow_succ (n := 2) (m := s)
  rcases Nat.mod_two_eq_zero_or_one m with e | e
  · have ec : m / 2 * 2 ^ (s + 1) = c := by
      rw [hm, p2, Nat.mul_comm (2 ^ s) 2, ← Nat.mul_assoc, show m / 2 * 2 = m by omega, Nat.mul_comm]
    rw [Nat.add_mul, Nat.one_mul, ec] at h2
    exact g.mx ⟨hs, ⟨m / 2, by rw [← ec, Nat.mul_comm]⟩, h2⟩
  · have ec : m / 2 * 2 ^ (s + 1) + 2 ^ s = c := by
      rw [hm, p2, Nat.mul_comm (2 ^ s) 2, ← Nat.mul_assoc, show m / 2 * 2 = m - 1 by omega, Nat.mul_comm (2 ^ s) m]
      have : m = (m - 1) + 1 := by omega
      rw [this, Nat.add_mul, Nat.one_mul]; simp
    have n2 : ¬ 2 ^ (s + 1) ∣ c := fun ⟨q, hq⟩ => by
      have : 2 ^ s * m = 2 ^ s * (2 * q) := by rw [← hm, hq, p2, Nat.mul_assoc]
      have := Nat.eq_of_mul_eq_mul_left (two_pos s) this
      omega
    have := h s hs (by omega) g.dv n2
    rw [Nat.add_mul, Nat.one_mul] at h2
    omega
/-- the fewest, by halves -/
def few (lo hi : Nat) : Nat → Nat → Nat
  | 0, b => if b < lo ∨ hi < b then 0 else 1
  | k + 1, b => if (b + 1) * 2 ^ (k + 1) ≤ lo ∨ hi < b * 2 ^ (k + 1) then 0 else if lo ≤ b * 2 ^ (k + 1) ∧ (b + 1) * 2 ^ (k + 1) ≤ hi + 1 then 1 else few lo hi k (2 * b) + few lo hi k (2 * b + 1)
theorem half (b k : Nat) : 2 * b * 2 ^ k = b * 2 ^ (k + 1) := by rw [Nat.pow_succ, Nat.mul_comm 2 b, Nat.mul_assoc, Nat.mul_comm 2]
theorem half2 (b k : Nat) : (2 * b + 1 + 1) * 2 ^ k = (b + 1) * 2 ^ (k + 1) := by rw [show 2 * b + 1 + 1 = 2 * (b + 1) by omega, half]
def cur (lo hi y : Nat) : Nat := max lo (min (hi + 1) y)
theorem Gs.eq {w lo hi k b s : Nat} (hk : k ≤ w) (h2 : (b + 1) * 2 ^ k ≤ hi + 1) (h1 : lo ≤ b * 2 ^ k) (hp : k = w ∨ ¬ (lo ≤ b / 2 * 2 ^ (k + 1) ∧ (b / 2 + 1) * 2 ^ (k + 1) ≤ hi + 1)) (g : Gs w (b * 2 ^ k) hi s) : s = k := by
  rw [Nat.add_mul, Nat.one_mul] at h2
  rcases Nat.lt_trichotomy s k with h | h | h
  · refine absurd ⟨by omega, Nat.dvd_trans (Nat.pow_dvd_pow 2 h) ⟨b, Nat.mul_comm _ _⟩, ?_⟩ g.mx
    have := pow_le (a := s + 1) (b := k) h
    omega
  · exact h
  · have hkw : k ≠ w := by have := g.le; omega
    have hp := hp.resolve_left hkw
    have d : 2 ^ (k + 1) ∣ b * 2 ^ k := Nat.dvd_trans (Nat.pow_dvd_pow 2 h) g.dv
    obtain ⟨q, hq⟩ := d
    have e : b * 2 ^ k = 2 * q * 2 ^ k := by rw [hq, half, Nat.mul_comm]
    have eb := Nat.eq_of_mul_eq_mul_right (two_pos k) e
    have e2 : b / 2 = q := by omega
    rw [e2] at hp
    refine absurd ⟨?_, ?_⟩ hp
    · rw [← half, ← eb]; exact h1
    · rw [Nat.add_mul, Nat.one_mul, ← half, ← eb]
      have := pow_le (a := k + 1) (b := s) h
      have := g.fit
      omega
theorem cur_lo {lo hi y : Nat} (h : y ≤ lo) : cur lo hi y = lo := by unfold cur; omega
theorem few_count {w lo hi : Nat} (hlh : lo ≤ hi) : ∀ (k b : Nat) (l : List (Nat × Nat)), k ≤ w → (k = w ∨ ¬ (lo ≤ b / 2 * 2 ^ (k + 1) ∧ (b / 2 + 1) * 2 ^ (k + 1) ≤ hi + 1)) → Pcs w hi (cur lo hi (b * 2 ^ k)) l →
    ∃ l2, l.length = few lo hi k b + l2.length ∧ Pcs w hi (cur lo hi ((b + 1) * 2 ^ k)) l2
  | k, b, l, hk, hp, h => by
    have hb1 : (b + 1) * 2 ^ k = b * 2 ^ k + 2 ^ k := by rw [Nat.add_mul, Nat.one_mul]
    have hpos := two_pos k
    by_cases c1 : (b + 1) * 2 ^ k ≤ lo ∨ hi < b * 2 ^ k
    · have e0 : few lo hi k b = 0 := by
        cases k with
        | zero => unfold few; rw [if_pos (by simpa [Nat.succ_le_iff] using c1)]
        | succ k => unfold few; rw [if_pos c1]
      have ec : cur lo hi (b * 2 ^ k) = cur lo hi ((b + 1) * 2 ^ k) := by unfold cur; omega
      exact ⟨l, by omega, by rw [← ec]; exact h⟩
    · have c1a : lo < (b + 1) * 2 ^ k := by omega
      have c1b : b * 2 ^ k ≤ hi := by omega
      by_cases c2 : lo ≤ b * 2 ^ k ∧ (b + 1) * 2 ^ k ≤ hi + 1
      · have e1 : few lo hi k b = 1 := by
          cases k with
          | zero => unfold few; rw [if_neg (by simp at c1a c1b; omega)]
          | succ k => unfold few; rw [if_neg c1, if_pos c2]
        have ec : cur lo hi (b * 2 ^ k) = b * 2 ^ k := by unfold cur; omega
        have ec2 : cur lo hi ((b + 1) * 2 ^ k) = (b + 1) * 2 ^ k := by unfold cur; omega
        rw [ec] at h
        cases h with
        | nil hc => omega
        | cons hc g h =>
          rename_i s l2
          have es : s = k := Gs.eq hk c2.2 c2.1 hp g
          subst es
          refine ⟨l2, by rw [e1, List.length_cons]; omega, ?_⟩
          rw [ec2, hb1]; exact h
      · cases k with
        | zero => simp at c1a c1b c2; omega
        | succ k =>
          have e2 : few lo hi (k + 1) b = few lo hi k (2 * b) + few lo hi k (2 * b + 1) := by
            rw [few, if_neg c1, if_neg c2]
          have q1 : (k = w ∨ ¬ (lo ≤ 2 * b / 2 * 2 ^ (k + 1) ∧ (2 * b / 2 + 1) * 2 ^ (k + 1) ≤ hi + 1)) := .inr (by rw [show 2 * b / 2 = b by omega]; exact c2)
          have q2 : (k = w ∨ ¬ (lo ≤ (2 * b + 1) / 2 * 2 ^ (k + 1) ∧ ((2 * b + 1) / 2 + 1) * 2 ^ (k + 1) ≤ hi + 1)) := .inr (by rw [show (2 * b + 1) / 2 = b by omega]; exact c2)
          obtain ⟨l1, a1, a2⟩ := few_count hlh k (2 * b) l (by omega) q1 (by rw [half]; exact h)
          obtain ⟨l2, b1, b2⟩ := few_count hlh k (2 * b + 1) l1 (by omega) q2 a2
          exact ⟨l2, by omega, by rw [← half2]; exact b2⟩
theorem few_out {lo hi k b : Nat} (h : (b + 1) * 2 ^ k ≤ lo ∨ hi < b * 2 ^ k) : few lo hi k b = 0 := by
  cases k with
  | zero => unfold few; rw [if_pos (by simpa [Nat.succ_le_iff] using h)]
  | succ k => unfold few; rw [if_pos h]
theorem few_in {lo hi k b : Nat} (h : lo ≤ b * 2 ^ k ∧ (b + 1) * 2 ^ k ≤ hi + 1) : few lo hi k b ≤ 1 := by
  cases k with
  | zero => unfold few; split <;> omega
  | succ k =>
    unfold few
    split
    · omega
    · exact Nat.le_refl _
theorem few_suf {lo hi : Nat} : ∀ (k b : Nat), (b + 1) * 2 ^ k ≤ hi + 1 → few lo hi k b ≤ max k 1
  | 0, b, h => by unfold few; split <;> omega
  | k + 1, b, h => by
    unfold few
    split
    · omega
    split
    · omega
    rename_i c1 c2
    have hb1 : (2 * b + 1) * 2 ^ k = b * 2 ^ (k + 1) + 2 ^ k := by rw [Nat.add_mul, Nat.one_mul, half]
    have hp2 := Nat.pow_succ (n := 2) (m := k)
    have hb2 : (b + 1) * 2 ^ (k + 1) = b * 2 ^ (k + 1) + 2 ^ (k + 1) := by rw [Nat.add_mul, Nat.one_mul]
    have r2 := few_suf (lo := lo) (hi := hi) k (2 * b + 1) (by rw [half2]; exact h)
    by_cases hl : (2 * b + 1) * 2 ^ k ≤ lo
    · rw [few_out (k := k) (b := 2 * b) (.inl hl)]; omega
    · have r3 : few lo hi k (2 * b + 1) ≤ 1 := few_in ⟨by omega, by rw [half2]; exact h⟩
      have r1 := few_suf (lo := lo) (hi := hi) k (2 * b) (by have := two_pos k; omega)
      cases k with
      | zero => exfalso; simp at hl c2 h hb1 hb2; omega
      | succ k => omega
theorem few_pre {lo hi : Nat} : ∀ (k b : Nat), lo ≤ b * 2 ^ k → few lo hi k b ≤ max k 1
  | 0, b, h => by unfold few; split <;> omega
  | k + 1, b, h => by
    unfold few
    split
    · omega
    split
    · omega
    rename_i c1 c2
    have hb1 : (2 * b + 1) * 2 ^ k = b * 2 ^ (k + 1) + 2 ^ k := by rw [Nat.add_mul, Nat.one_mul, half]
    have hp2 := Nat.pow_succ (n := 2) (m := k)
    have hb2 : (b + 1) * 2 ^ (k + 1) = b * 2 ^ (k + 1) + 2 ^ (k + 1) := by rw [Nat.add_mul, Nat.one_mul]
    have hb0 := half b k
    have r1 := few_pre (lo := lo) (hi := hi) k (2 * b) (by rw [half]; exact h)
    by_cases hl : hi < (2 * b + 1) * 2 ^ k
    · rw [few_out (k := k) (b := 2 * b + 1) (.inr hl)]; omega
    · have r3 : few lo hi k (2 * b) ≤ 1 := few_in ⟨by rw [half]; exact h, by omega⟩
      have r2 := few_pre (lo := lo) (hi := hi) k (2 * b + 1) (by omega)
      cases k with
      | zero => exfalso; simp at hl c2 h hb1 hb2; omega
      | succ k => omega
theorem few_le {lo hi : Nat} : ∀ (k b : Nat), few lo hi k b ≤ max 1 (2 * k - 2)
  | 0, b => by unfold few; split <;> omega
  | k + 1, b => by
    unfold few
    split
    · omega
    split
    · omega
    rename_i c1 c2
    have hb1 : (2 * b + 1) * 2 ^ k = b * 2 ^ (k + 1) + 2 ^ k := by rw [Nat.add_mul, Nat.one_mul, half]
    have hp2 := Nat.pow_succ (n := 2) (m := k)
    have hb2 : (b + 1) * 2 ^ (k + 1) = b * 2 ^ (k + 1) + 2 ^ (k + 1) := by rw [Nat.add_mul, Nat.one_mul]
    have hb0 := half b k
    have s1 := few_le (lo := lo) (hi := hi) k (2 * b)
    have s2 := few_le (lo := lo) (hi := hi) k (2 * b + 1)
    by_cases hl : (2 * b + 1) * 2 ^ k ≤ lo
    · rw [few_out (k := k) (b := 2 * b) (.inl hl)]; omega
    by_cases hr : hi < (2 * b + 1) * 2 ^ k
    · rw [few_out (k := k) (b := 2 * b + 1) (.inr hr)]; omega
    have r1 := few_suf (lo := lo) (hi := hi) k (2 * b) (by omega)
    have r2 := few_pre (lo := lo) (hi := hi) k (2 * b + 1) (by omega)
    cases k with
    | zero => exfalso; simp at hl hr c2 hb1 hb2; omega
    | succ k => omega
theorem pieces_count {w lo hi : Nat} {l : List (Nat × Nat)} (hlh : lo ≤ hi) (hh : hi < 2 ^ w) (h : Pcs w hi lo l) : l.length = few lo hi w 0 := by
  obtain ⟨l2, e, h2⟩ := few_count hlh w 0 l (Nat.le_refl _) (.inl rfl) (by rw [cur_lo (by omega)]; exact h)
  have ec : cur lo hi ((0 + 1) * 2 ^ w) = hi + 1 := by unfold cur; omega
  rw [ec] at h2
  cases h2 with
  | nil => simpa using e
  | cons hc => omega
end Lw

namespace Lw
open PySem PySem.Spec PyProof.Rows L2 DL
theorem d_draws : m__law_draws = m_draws := rfl
theorem d_take : m__law_take = m_take := rfl
theorem e_num {v lo hi : Int} : m_is_number [.int v, .int lo, .int hi] = .ok (.bl (decide (lo ≤ v ∧ v ≤ hi))) := by
  unfold m_is_number b_is_number
  by_cases h1 : lo ≤ v <;> by_cases h2 : v ≤ hi <;> simp [h1, h2]
theorem e_pre {w l b : Nat} (hw : w ≤ 16) (hl : l ≤ w) (hb : b < 2 ^ l) : m_is_prefix [.int w, .tup [.int l, .int b]] = .ok (.bl true) := by
  unfold m_is_prefix b_is_prefix
  have h1 : (l : Int) ≤ w := by omega
  have h2 : (l : Int) ≤ 1000000 := by omega
  have h3 : (b : Int) ≤ 2 ^ l - 1 := by
    have : ((2 ^ l : Nat) : Int) = 2 ^ l := by simp
    omega
  simp [sSeq_ap, e_num, h1, h2, h3]
theorem e_ends {w l b : Int} {k : Nat} (hk : w - l = k) (h2 : (k : Int) ≤ 1000000) (h3 : 0 ≤ b) (h4 : b < 2 ^ 60) : m_ends [.int w, .tup [.int l, .int b]] = .ok (.tup [.int (b * 2 ^ k), .int ((b + 1) * 2 ^ k - 1)]) := by
  unfold m_ends b_ends
  have h5 : b.natAbs < 18446744073709551616 := by omega
  have h6 : (b + 1).natAbs < 18446744073709551616 := by omega
  simp [sSeq_ap, hk, h2, h5, h6]
theorem cast_pow (k : Nat) : ((2 ^ k : Nat) : Int) = 2 ^ k := by simp
theorem e_few {w lo hi : Nat} (hw : w ≤ 16) : ∀ (n k b : Nat), k < n → k ≤ w → b < 2 ^ (w - k) → m__law_fewest n [.int w, .int lo, .int hi, .tup [.int ((w : Int) - k), .int b]] = .ok (.int (few lo hi k b))
  | 0, k, b, hn, hk, hb => by omega
  | n + 1, k, b, hn, hk, hb => by
    have hb : b < 2 ^ 16 := Nat.lt_of_lt_of_le hb (pow_le (by omega))
    have h5 : b < 18446744073709551616 := by omega
    have h6 : ((b : Int) + 1).natAbs < 18446744073709551616 := by omega
    have hk0 : (w : Int) - ((w : Int) - k) = k := by omega
    have hk2 : (k : Int) ≤ 1000000 := by omega
    have cp := cast_pow k
    have e1 : (((b + 1) * 2 ^ k : Nat) : Int) = ((b : Int) + 1) * 2 ^ k := by rw [Int.natCast_mul, cp]; rfl
    have e2 : ((b * 2 ^ k : Nat) : Int) = (b : Int) * 2 ^ k := by rw [Int.natCast_mul, cp]
    have hpos := two_pos k
    have e3 : (b + 1) * 2 ^ k = b * 2 ^ k + 2 ^ k := by rw [Nat.add_mul, Nat.one_mul]
    unfold m__law_fewest b__law_fewest
    apply outP_eq
    simp [hk0, h5, h6, hk2]
    refine ⟨fun h => ?_, fun h1 h2 => ?_⟩
    · rw [few_out (by omega)]; rfl
    · have h : ¬ ((b + 1) * 2 ^ k ≤ lo ∨ hi < b * 2 ^ k) := by omega
      have h' : (b + 1) * 2 ^ k > lo ∧ b * 2 ^ k ≤ hi := by omega
      refine ⟨fun h3 h4 => ?_, fun h3 => ?_⟩
      · have e : few lo hi k b = 1 := by
          cases k with
          | zero => unfold few; rw [if_neg (by simp at h'; omega)]
          | succ k => unfold few; rw [if_neg h, if_pos (by omega)]
        rw [e]; rfl
      · cases k with
        | zero => simp at h' h3; omega
        | succ k =>
          have e : few lo hi (k + 1) b = few lo hi k (2 * b) + few lo hi k (2 * b + 1) := by
            rw [few, if_neg h, if_neg (by omega)]
          have hb2 : 2 * b + 1 < 2 ^ (w - k) := by
            rw [show w - k = (w - (k + 1)) + 1 by omega, Nat.pow_succ]; omega
          have q1 := e_few (lo := lo) (hi := hi) hw n k (2 * b) (by omega) (by omega) (by omega)
          have q2 := e_few (lo := lo) (hi := hi) hw n k (2 * b + 1) (by omega) (by omega) hb2
          have ek : (w : Int) - ((k + 1 : Nat) : Int) + 1 = (w : Int) - k := by omega
          have ek' : (w : Int) - ((k : Int) + 1) + 1 = (w : Int) - k := by omega
          push_cast at q1 q2
          simp [ek', q1, q2, e]
def encP (w : Nat) (x : Nat × Nat) : D := .tup [.int ((w : Int) - x.1), .int ((x.2 / 2 ^ x.1 : Nat) : Int)]
def PcI (w hi c : Nat) (sp : Option D) (acc : D) (m : Nat) (r : DL.Env) : Prop := ∃ s : Nat, m = w - s ∧ s ≤ w ∧ 2 ^ s ∣ c ∧ c + 2 ^ s ≤ hi + 1 ∧ r = [some (.int w), sp, some acc, some (.int c), some (.int hi), some (.int s)]
theorem pc_in {w hi c : Nat} {sp : Option D} {acc : D} {p : Po} (hw : w ≤ 16) (hc : c ≤ hi) (q : ∀ s : Nat, Gs w c hi s → p.nx [some (.int w), sp, some acc, some (.int c), some (.int hi), some (.int s)]) :
    (whileL (tUp (tpAnd (bP (pOp dLt (getP 5) (getP 0))) (tpAnd (bP (pOp dEq (pOp dMod (getP 3) (pOp dShl (pC (.int 2)) (getP 5))) (pC (.int 0)))) (bP (pOp dLe (pOp dSub (pOp dAdd (getP 3) (pOp dShl (pC (.int 2)) (getP 5))) (pC (.int 1))) (getP 4)))))) (sAug 5 dAddI (eSh (pC (.int 1)))) fuel [some (.int w), sp, some acc, some (.int c), some (.int hi), some (.int 0)]).sat p := by
  refine sat_whileP (PcI w hi c sp acc) (m := w) (by show w < 1000000; omega) ⟨0, by omega, by omega, ⟨c, by simp⟩, by omega, rfl⟩ ?_
  rintro m r ⟨s, rfl, hs, hd, hf, rfl⟩
  have h2 : (s : Int) ≤ 1000000 := by omega
  have cp := cast_pow s
  have hpos := two_pos s
  have hp : (0 : Int) < 2 * 2 ^ s := by omega
  have ep : (2 : Int) * 2 ^ s = ((2 ^ (s + 1) : Nat) : Int) := by rw [Nat.pow_succ, Nat.mul_comm, Int.natCast_mul, cp]; rfl
  have ed : (c : Int) % (2 * 2 ^ s) = 0 ↔ 2 ^ (s + 1) ∣ c := by
    rw [ep, ← Int.natCast_emod, Nat.dvd_iff_mod_eq_zero]; omega
  refine ⟨decide (s < w ∧ 2 ^ (s + 1) ∣ c ∧ c + 2 ^ (s + 1) ≤ hi + 1), ?_, fun h => ?_, fun h => ?_⟩
  · simp [h2, hp, ed]
    have e3 := Nat.pow_succ (n := 2) (m := s)
    rw [Bool.eq_iff_iff]
    simp [ed]
    intros
    omega
  · have h := of_decide_eq_true h
    simp
    refine ⟨w - (s + 1), by omega, s + 1, rfl, by omega, h.2.1, h.2.2, by simp⟩
  · have h := of_decide_eq_false h
    exact q s ⟨hs, hd, hf, h⟩
def PoI (w lo hi : Nat) (m : Nat) (r : DL.Env) : Prop := ∃ (c : Nat) (acc : List (Nat × Nat)) (x5 : Option D), m = hi + 1 - c ∧ acc.length ≤ c - lo ∧ lo ≤ c ∧ c ≤ hi + 1 ∧ (∀ l, Pcs w hi c l → Pcs w hi lo (acc ++ l)) ∧
  r = [some (.int w), some (.tup [.int lo, .int hi]), some (.lst true (acc.map (encP w))), some (.int c), some (.int hi), x5]
theorem e_pieces {w lo hi : Nat} (hw : w ≤ 16) (hlh : lo ≤ hi) (hh : hi < 2 ^ w) : ∃ l, m_pieces [.int w, .tup [.int lo, .int hi]] = .ok (.tup (l.map (encP w))) ∧ Pcs w hi lo l := by
  suffices ∃ d, m_pieces [.int w, .tup [.int lo, .int hi]] = .ok d ∧ ∃ l, d = .tup (l.map (encP w)) ∧ Pcs w hi lo l by
    obtain ⟨d, e, l, rfl, h⟩ := this
    exact ⟨l, e, h⟩
  have hh : hi < 2 ^ 16 := Nat.lt_of_lt_of_le hh (pow_le hw)
  unfold m_pieces b_pieces
  refine outP_ex ?_
  simp [List.replicate]
  refine sat_whileP (PoI w lo hi) (m := hi + 1 - lo) (by show _ < 1000000; omega) ⟨lo, [], _, rfl, by simp, by omega, by omega, fun l h => h, rfl⟩ ?_
  rintro m r ⟨c, acc, x5, rfl, hl, hlc, hch, hp, rfl⟩
  refine ⟨decide (c ≤ hi), ?_, fun h => ?_, fun h => ?_⟩
  · simp
  · have h := of_decide_eq_true h
    simp
    refine pc_in hw h fun s g => ?_
    have h1 : acc.length < 16777216 := by omega
    have h2 : (s : Int) ≤ 1000000 := by have := g.le; omega
    simp [h1, h2]
    have cp := cast_pow s
    have e1 : (c : Int) / 2 ^ s = ((c / 2 ^ s : Nat) : Int) := by rw [Int.natCast_ediv, cp]
    have e2 : (c : Int) + 2 ^ s = ((c + 2 ^ s : Nat) : Int) := by omega
    have hpos := two_pos s
    have := g.fit
    refine ⟨_, ?_, c + 2 ^ s, acc ++ [(s, c)], some (.int s), rfl, ?_, by omega, by omega, fun l h' => ?_, ?_⟩
    · omega
    · rw [List.length_append, List.length_singleton]; omega
    · rw [List.append_assoc]; exact hp _ (.cons h g h')
    · rw [e1, e2, List.map_append]; rfl
  · have h := of_decide_eq_false h
    have hs : D.shL (acc.map (encP w)) = true := shL_map fun _ _ => by simp [encP]
    simp [hs]
    exact ⟨acc, rfl, by simpa using hp [] (.nil (by omega))⟩

theorem Pcs.mem {w hi c : Nat} {l : List (Nat × Nat)} (h : Pcs w hi c l) : ∀ x ∈ l, x.1 ≤ w ∧ x.2 ≤ hi := by
  induction h with
  | nil => simp
  | cons hc g _ ih =>
    intro x hx
    rcases List.mem_cons.mp hx with rfl | hx
    · exact ⟨g.le, hc⟩
    · exact ih x hx
theorem take_nat {L : List Int} {b : Int} (hb : 0 < b) : ∃ (x : Nat) (L' : List Int), m_take [iL L, .int b] = .ok (.int x) (iL L') ∧ (x : Int) < b := by
  obtain ⟨x, L', e, h0, h1⟩ := take_ok (L := L) hb
  obtain ⟨n, rfl⟩ := Int.eq_ofNat_of_zero_le h0
  exact ⟨n, L', e, h1⟩
theorem div_lt {w s c : Nat} (hs : s ≤ w) (h : c < 2 ^ w) : c / 2 ^ s < 2 ^ (w - s) := by
  rw [Nat.div_lt_iff_lt_mul (two_pos s), ← Nat.pow_add, show w - s + s = w by omega]; exact h
theorem e_lc {w hi : Nat} {l : List (Nat × Nat)} {x0 x1 x2 x4 x6 x7 x8 x9 x10 x11 x12 x13 x14 : Option D} (hw : w ≤ 16) (hh : hi < 2 ^ w) (hl : l.length < 1000000) (h : ∀ x ∈ l, x.1 ≤ w ∧ x.2 ≤ hi) :
    lcL (setG 5) (tUp (tpNot (bP (pCall 2 m_is_prefix (paCons (getP 3) (paCons (getP 5) paNil)))))) (eSh (getP 5)) [5] (l.map (encP w)) [] [x0, x1, x2, some (.int w), x4, none, x6, x7, x8, x9, x10, x11, x12, x13, x14] = .ok [] [x0, x1, x2, some (.int w), x4, none, x6, x7, x8, x9, x10, x11, x12, x13, x14] := by
  rw [lcL_eq (fun _ => false) id]
  · simp
  · simp; omega
  · intro d hd
    obtain ⟨⟨s, c⟩, hx, rfl⟩ := List.mem_map.mp hd
    have h' := h _ hx
    dsimp only at h'
    have e := e_pre (w := w) (l := w - s) (b := c / 2 ^ s) hw (by omega) (div_lt h'.1 (by omega))
    rw [show ((w - s : Nat) : Int) = (w : Int) - s by omega] at e
    have ee : encP w (s, c) = .tup [.int ((w : Int) - s), .int ((c / 2 ^ s : Nat) : Int)] := rfl
    rw [ee]
    generalize c / 2 ^ s = m at *
    simp [e]
def ChI (w lo hi : Nat) (l : List (Nat × Nat)) (x0 x1 x2 x4 x6 x7 x10 : Option D) (j : Nat) (r : DL.Env) : Prop := ∃ (a : Nat) (x5 x12 x13 x14 : Option D), Pcs w hi a (l.drop j) ∧ lo ≤ a ∧ a ≤ hi + 1 ∧ Mxl w lo hi a ∧
  r = [x0, x1, x2, some (.int w), x4, x5, x6, x7, some (.int lo), some (.int hi), x10, some (.int a), x12, x13, x14]
theorem e_chk {w lo hi : Nat} {l : List (Nat × Nat)} {x0 x1 x2 x4 x5 x6 x7 x10 x12 x13 x14 : Option D} {p : Po} (hw : w ≤ 16) (hlh : lo ≤ hi) (hh : hi < 2 ^ w) (h : Pcs w hi lo l)
    (q : ∀ (x5 x12 x13 x14 : Option D), p.nx [x0, x1, x2, some (.int w), x4, x5, x6, x7, some (.int lo), some (.int hi), x10, some (.int (hi + 1)), x12, x13, x14]) :
    (forL (setG 5) (sSeq (sAsg (tupG 2 (consG (setG 12) (consG (setG 13) nilG))) (eUp (pCall 2 m_ends (paCons (getP 3) (paCons (getP 5) paNil)))))
    (sSeq (sIf (tUp (tpOr (bP (pOp dNe (getP 12) (getP 11))) (bP (pOp dGt (getP 13) (getP 9))))) (sRet (eSh (pC (.bl false)))) (.nx))
    (sSeq (sSet 11 (eUp (pOp dAdd (getP 13) (pC (.int 1)))))
    (sIf (tUp (bP (pOp dGt (pIx (getP 5) (pC (.int 0))) (pC (.int 0))))) (sSeq (sSet 14 (eUp (pCall 2 m_ends (paCons (getP 3) (paCons (pTup (paCons (pOp dSub (pIx (getP 5) (pC (.int 0))) (pC (.int 1))) (paCons (pOp dFdiv (pIx (getP 5) (pC (.int 1))) (pC (.int 2))) paNil))) paNil)))))
    (sIf (tUp (tpAnd (bP (pOp dLe (getP 8) (pIx (getP 14) (pC (.int 0))))) (bP (pOp dLe (pIx (getP 14) (pC (.int 1))) (getP 9))))) (sRet (eSh (pC (.bl false)))) (.nx))) (.nx))))) (l.map (encP w))
      [x0, x1, x2, some (.int w), x4, x5, x6, x7, some (.int lo), some (.int hi), x10, some (.int lo), x12, x13, x14]).sat p := by
  refine sat_forM (ChI w lo hi l x0 x1 x2 x4 x6 x7 x10) ⟨lo, x5, x12, x13, x14, h, by omega, by omega, Mxl.start, rfl⟩ ?_ ?_
  · rintro j ⟨s, c⟩ r hj ⟨a, x5, x12, x13, x14, hp, hla, hah, hm, rfl⟩
    obtain ⟨hjl, ej⟩ := List.getElem?_eq_some_iff.mp hj
    rw [List.drop_eq_getElem_cons hjl, ej] at hp
    cases hp with
    | cons hc g hp =>
      have gle := g.le
      have h16 : hi < 2 ^ 16 := Nat.lt_of_lt_of_le hh (pow_le hw)
      have hq : c / 2 ^ s ≤ c := Nat.div_le_self _ _
      have em : c / 2 ^ s * 2 ^ s = c := Nat.div_mul_cancel g.dv
      have cp := cast_pow s
      have cp1 := cast_pow (s + 1)
      have ee : encP w (s, c) = .tup [.int ((w : Int) - s), .int ((c / 2 ^ s : Nat) : Int)] := rfl
      have hmx := hm.wide g
      have nx := hm.step g
      have fit := g.fit
      rw [ee]
      generalize c / 2 ^ s = m at *
      have e1 := e_ends (w := w) (l := (w : Int) - s) (b := m) (k := s) (by omega) (by omega) (by omega) (by omega)
      have e2 := e_ends (w := w) (l := (w : Int) - s - 1) (b := (m / 2 : Nat)) (k := s + 1) (by omega) (by omega) (by omega) (by omega)
      have v1 : (m : Int) * 2 ^ s = c := by rw [← cp, ← Int.natCast_mul, em]
      have v2 : ((m : Int) + 1) * 2 ^ s = ((c + 2 ^ s : Nat) : Int) := by rw [Int.add_mul, v1]; omega
      have v3 : ((m / 2 : Nat) : Int) * 2 ^ (s + 1) = ((m / 2 * 2 ^ (s + 1) : Nat) : Int) := by rw [Int.natCast_mul, cp1]
      have v4 : (((m / 2 : Nat) : Int) + 1) * 2 ^ (s + 1) = (((m / 2 + 1) * 2 ^ (s + 1) : Nat) : Int) := by rw [Int.natCast_mul, cp1]; rfl
      rw [v1, v2] at e1
      rw [v3, v4] at e2
      have v5 : (m : Int) / 2 = ((m / 2 : Nat) : Int) := by omega
      clear v1 v2 v3 v4
      generalize m / 2 * 2 ^ (s + 1) = u at *
      generalize (m / 2 + 1) * 2 ^ (s + 1) = v at *
      generalize m / 2 = m2 at *
      obtain ⟨t, ht⟩ : ∃ t : Nat, c + 2 ^ s = t := ⟨_, rfl⟩
      rw [ht] at e1 hp nx fit
      have hpos := two_pos s
      simp [e1]
      refine ⟨by omega, ?_⟩
      intro _
      refine ⟨fun hs => ?_, fun hs => ⟨t, _, _, _, _, hp, by omega, fit, nx, rfl⟩⟩
      have hmx := hmx hs
      simp [v5, e2]
      refine ⟨fun h1 h2 => absurd ⟨h1, by omega⟩ hmx, fun h1 => ⟨t, _, _, _, _, hp, by omega, fit, nx, rfl⟩⟩
  · rintro r ⟨a, x5, x12, x13, x14, hp, hla, hah, hm, rfl⟩
    rw [List.drop_length] at hp
    cases hp with
    | nil hc =>
      have : a = hi + 1 := by omega
      subst this
      exact q _ _ _ _

theorem Pcs.len {w hi c : Nat} {l : List (Nat × Nat)} (h : Pcs w hi c l) : c ≤ hi + 1 → l.length + c ≤ hi + 1 := by
  induction h with
  | nil => simp
  | cons hc g _ ih =>
    rename_i c s l _
    have := two_pos s
    intro _
    have := ih g.fit
    rw [List.length_cons]; omega
def LwI (ns : List Int) (k : Nat) (r : DL.Env) : Prop := ∃ (L : List Int) (x2 x3 x4 x5 x6 x7 x8 x9 x10 x11 x12 x13 x14 : Option D), r = [some (.scr ns), some (iL L), x2, x3, x4, x5, x6, x7, x8, x9, x10, x11, x12, x13, x14]
theorem law_true (ns : List Int) (h : ns.length ≤ 63) : m_law [.scr ns] = .ok (.bl true) := by
  obtain ⟨L0, e0⟩ := draws_ok h
  unfold m_law b_law
  refine outP_eq ?_
  simp [List.replicate, d_draws, e0]
  refine sat_for (LwI ns) ⟨L0, _, _, _, _, _, _, _, _, _, _, _, _, _, rfl⟩ ?_ ?_
  · rintro j d r hj ⟨L, x2, x3, x4, x5, x6, x7, x8, x9, x10, x11, x12, x13, x14, rfl⟩
    obtain ⟨b, rfl, hb, hb'⟩ : ∃ b : Int, d = .int b ∧ 0 < b ∧ b ≤ 16 := by
      rcases j with _ | _ | j
      · cases hj; exact ⟨5, rfl, by decide, by decide⟩
      · cases hj; exact ⟨16, rfl, by decide, by decide⟩
      · simp at hj
    obtain ⟨x, L1, e1, h1⟩ := take_nat (L := L) hb
    obtain ⟨w, hw⟩ : ∃ w : Nat, 1 + (x : Int) = w := ⟨x + 1, by omega⟩
    have hw16 : w ≤ 16 := by omega
    have hwm : (w : Int) ≤ 1000000 := by omega
    have cp := cast_pow w
    have hpos := two_pos w
    obtain ⟨y, L2, e2, h2⟩ := take_nat (L := L1) (b := 2 ^ w) (by omega)
    obtain ⟨z, L3, e3, h3⟩ := take_nat (L := L2) (b := 2 ^ w) (by omega)
    obtain ⟨lo, hlo⟩ : ∃ n : Nat, min (y : Int) z = n := ⟨min y z, by omega⟩
    obtain ⟨hi, hhi⟩ : ∃ n : Nat, max (y : Int) z = n := ⟨max y z, by omega⟩
    have hlh : lo ≤ hi := by omega
    have hh : hi < 2 ^ w := by omega
    obtain ⟨l, e4, hp⟩ := e_pieces hw16 hlh hh
    have hlen := pieces_count hlh hh hp
    have hfl := few_le (lo := lo) (hi := hi) w 0
    have hll : l.length < 1000000 := by have := hp.len (by omega); have := pow_le hw16; omega
    have efew := e_few (lo := lo) (hi := hi) hw16 40 w 0 (by omega) (by omega) (two_pos _)
    rw [show (w : Int) - w = 0 by omega] at efew
    have sht : D.shL (l.map (encP w)) = true := shL_map fun _ _ => by simp [encP]
    refine ⟨_, setG_lt (by simp), ?_⟩
    simp [d_take, e1, hw, hwm, e2, e3, hlo, hhi, e4, sht]
    rw [e_lc hw16 hh hll hp.mem]
    simp [sht]
    refine e_chk hw16 hlh hh hp ?_
    intro x5 x12 x13 x14
    have efew' : m__law_fewest 40 [.int w, .int lo, .int hi, .tup [.int 0, .int 0]] = .ok (.int (few lo hi w 0)) := efew
    simp [hlen, efew']
    refine ⟨by omega, fun _ => ⟨L3, _, _, _, _, _, _, _, _, _, _, _, _, _, rfl⟩⟩
  · rintro r ⟨L, x2, x3, x4, x5, x6, x7, x8, x9, x10, x11, x12, x13, x14, rfl⟩
    simp
end Lw

open PySem PySem.W PyProof.Rows
set_option maxHeartbeats 0 in
theorem PySem.Challenge.cw_packetsheld_k05_whole_pieces_of_spans_holds : PySem.Challenge.rw_packetsheld_k05_whole_pieces_of_spans.Holds := by
  w_on; o_law; k_head; (case hw => w_witness2)
  k_fill
  refine L2.walk_of (l := PySem.Challenge.rw_packetsheld_k05_whole_pieces_of_spans) (n := 63) (k := 42) (x := "script") (CX := fun w => L2.CX PySem.Challenge.rw_packetsheld_k05_whole_pieces_of_spans.prog w) (sp := fun w => DL.spLaw _) rfl (by decide) rfl ⟨rfl, by decide, by decide⟩ (fun w h Y => PySem.W.kIn_of Y) ?F (fun _ _ a ns hl ho hS => ⟨a, ns, rfl, hl, ho, hS, fun _ => rfl⟩) (fun _ _ _ _ _ h => by
    obtain ⟨_, _, _, _, _, _, _, _, _, _, _, _, z⟩ := h
    exact z)
  case F =>
    intro w mg fa h KX G hmg
    refine' Lw.all_mk KX G hmg ?a0 ?l0 ?c0 ?k0 ?a1 ?l1 ?c1 ?k1 ?a2 ?l2 ?c2 ?k2 ?a3 ?l3 ?c3 ?k3 ?a4 ?l4 ?c4 ?k4 ?a5 ?l5 ?c5 ?k5 ?a6 ?l6 ?c6 ?k6 ?a7 ?l7 ?c7 ?k7 ?z_abs ?z_bool ?z_int ?z_isinstance ?z_len ?z_list ?z_max ?z_min ?z_range ?z_reversed ?z_tuple Lw.law_true
    (case a0 => k_is); (case l0 => k_is); (case c0 => k_is); (case k0 => k_is); (case a1 => k_is); (case l1 => k_is); (case c1 => k_is); (case k1 => k_is); (case a2 => k_is); (case l2 => k_is); (case c2 => k_is); (case k2 => k_is); (case a3 => k_is); (case l3 => k_is); (case c3 => k_is); (case k3 => k_is); (case a4 => k_is); (case l4 => k_is); (case c4 => k_is); (case k4 => k_is); (case a5 => k_is); (case l5 => k_is); (case c5 => k_is); (case k5 => k_is); (case a6 => k_is); (case l6 => k_is); (case c6 => k_is); (case k6 => k_is); (case a7 => k_is); (case l7 => k_is); (case c7 => k_is); (case k7 => k_is); (case z_abs => k_is); (case z_bool => k_is); (case z_int => k_is); (case z_isinstance => k_is); (case z_len => k_is); (case z_list => k_is); (case z_max => k_is); (case z_min => k_is); (case z_range => k_is); (case z_reversed => k_is); (case z_tuple => k_is)
