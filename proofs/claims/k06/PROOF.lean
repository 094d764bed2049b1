import PyProof.Rows.All
import Wide.All
import OpenK.AllK
import Wide.FinOn
import HandS.ForMost
import HandS.ForExc
import HandS.ExcCtx
import HandS.HotCalls
import HandS.TupAny
import HandS.TupLe
import HandS.IsInst
import HandS.Flow
import HandS.Deep
import HandS.Rev
import HandS.RevRange
import HandS.Style
import HandS.RevTup
import KE.KDictList
import HandS.EndOwn
import KE.KNest
import HandS.GenList
import HandS.AnyAll
import HandS.TupMul
import HandS.SortInts
import HandS.Zip
import KE.GoesMore
import KE.GoesEnum
import KE.DataCmp
import KE.DataMinMax
import KE.SortData
import HandS.Star
import KE.KTupSum
import HandS.ExcIs
import HandS.Dict
import HandS.WordsDict
import HandS.Small
import HandS.Iter
import HandS.More
import HandS.DictComp
import HandS.Conv
import HandS.Gcd
import HandS.Wide
import HandS.SetBool
import HandS.Strs
import HandS.DictEq
import HandS.TupLen
import PySem.Challenge.RW_packetsheld_k06_plans_judged_and_looked
set_option Elab.async false
set_option linter.all false
set_option maxRecDepth 100000
set_option maxHeartbeats 8000000
/-! DCore: values as data, footprints, the judgements of the data layer. -/
namespace DL
open PySem PySem.Spec PyProof.Rows L2

/-- data: lists and dicts bear a mark, true where this value alone owns the object -/
inductive D where
  | non
  | bl (b : Bool)
  | int (i : Int)
  | str (x : Str)
  | tup (xs : List D)
  | lst (own : Bool) (xs : List D)
  | scr (ns : List Int)
  | exc (c : Str)
  /-- a dict: its keys (ints and texts; t: tuples of these) and values, in their order -/
  | dic (own t : Bool) (ks : List (List Key)) (vs : List D)

abbrev DKey := List Key
def hdK (k : DKey) : Key := k.headD (.inl 0)
def dicO : Bool → List DKey → List V → HO
  | true, ks, vs => .dT (ks.zip vs)
  | false, ks, vs => .dK ((ks.map hdK).zip vs)
/-- keys as a dict has them -/
def KOk (t : Bool) (ks : List DKey) : Prop := t = true ∨ ∀ k ∈ ks, k.length = 1
/-- a dict that may be read, and is not another's own: locked -/
def DcF (S : Addr → Prop) (H : Hp) (a : Addr) (t : Bool) (ks : List DKey) (vs : List V) : Prop := (∃ o, H a = some (.frz o (dicO t ks vs))) ∧ S a
abbrev Fp := List Addr
/-- a list of the written part -/
def Kw (K : PySem.W.Frag) (a : Addr) (xs : List V) : Prop := ∃ (o : Obj) (its : Array Value) (n : Nat), K.lookup a = some o ∧ o.cls = .type "list" ∧ o.dict = none ∧ o.data = .seq its n ∧ its.size ≤ sizeLine ∧ Vals xs its.toList
/-- a list that may be read, and is not another's own -/
def SqF (S : Addr → Prop) (H : Hp) (a : Addr) (vs : List V) : Prop := H a = some (.lst vs) ∧ S a
/-- the script -/
def Scr (K : PySem.W.Frag) (S : Addr → Prop) (H : Hp) (a : Addr) (vs : List V) : Prop := ((∃ o, H a = some (.frz o (.lst vs))) ∨ SqF S H a vs) ∨ Kw K a vs
theorem SqF.read {K : PySem.W.Frag} {S : Addr → Prop} {H : Hp} {a : Addr} {vs : List V} (h : SqF S H a vs) : SqL K H a vs := .inl (.inl h.1)
theorem Scr.read {K : PySem.W.Frag} {S : Addr → Prop} {H : Hp} {a : Addr} {vs : List V} (h : Scr K S H a vs) : SqL K H a vs := by
  rcases h with (⟨o, h⟩ | h) | h
  · exact .inl (.inr ⟨o, h⟩)
  · exact h.read
  · exact .inr h

mutual
def Rep (K : PySem.W.Frag) (S : Addr → Prop) (H : Hp) : D → V → Fp → Prop
  | .non, v, F => v = .non ∧ F = []
  | .bl b, v, F => v = .bl b ∧ F = []
  | .int i, v, F => v = .int i ∧ F = []
  | .str x, v, F => v = .str x ∧ F = []
  | .tup ds, v, F => ∃ a vs, v = .ref a ∧ H a = some (.tup vs) ∧ RepL K S H ds vs F
  | .lst true ds, v, F => ∃ a vs G, v = .ref a ∧ H a = some (.lst vs) ∧ F = a :: G ∧ RepL K S H ds vs G
  | .lst false ds, v, F => F = [] ∧ ∃ a vs, v = .ref a ∧ SqF S H a vs ∧ RepL K S H ds vs []
  | .scr ns, v, F => F = [] ∧ ∃ a, v = .ref a ∧ Scr K S H a (ns.map V.int)
  | .exc _, _, _ => False
  | .dic true t ks ds, v, F => ks.length = ds.length ∧ KOk t ks ∧ ∃ a vs G, v = .ref a ∧ H a = some (dicO t ks vs) ∧ F = a :: G ∧ RepL K S H ds vs G
  | .dic false t ks ds, v, F => F = [] ∧ ks.length = ds.length ∧ KOk t ks ∧ ∃ a vs, v = .ref a ∧ DcF S H a t ks vs ∧ RepL K S H ds vs []
def RepL (K : PySem.W.Frag) (S : Addr → Prop) (H : Hp) : List D → List V → Fp → Prop
  | [], vs, F => vs = [] ∧ F = []
  | d :: ds, vs, F => ∃ v r F1 F2, vs = v :: r ∧ F = F1 ++ F2 ∧ Rep K S H d v F1 ∧ RepL K S H ds r F2
end

/-- what may be another's own -/
def Mt : Option HO → Prop
  | some (.lst _) => True
  | some (.dK _) => True
  | some (.dT _) => True
  | some (.ins _ _ _) => True
  | some (.own _) => True
  | some (.ext _) => True
  | _ => False
theorem Mt.some {o : Option HO} (h : Mt o) : o ≠ none := by intro e; subst e; exact h

instance sqtCoe {K : PySem.W.Frag} {H : Hp} {a : Addr} {vs : List V} : Coe (H a = some (.tup vs)) (SqT K H a vs) := ⟨fun h => .inl (.inl h)⟩
/-- a footprint -/
structure Ft (S : Addr → Prop) (H : Hp) (F : Fp) : Prop where
  nd : F.Nodup
  dj : ∀ a ∈ F, ¬ S a
  mu : ∀ a ∈ F, Mt (H a)
  sd : ∀ a, S a → H a ≠ none
/-- no table of code objects -/
def NTb : HO → Prop
  | .tbl _ => False
  | _ => True
/-- a table of code objects -/
def TabG (H : Hp) (a : Addr) : Prop := ∃ ps : Array Value, H a = some (.tbl ps) ∧ TriplesOk ps.toList
theorem Mt.ntb {o : Option HO} {u : HO} (e : o = Option.some u) (h : Mt o) : NTb u := by subst e; cases u <;> first | trivial | exact h.elim
/-- from a state with the footprint F to one with F' -/
structure Go (S : Addr → Prop) (H : Hp) (F : Fp) (S' : Addr → Prop) (H' : Hp) (F' : Fp) : Prop where
  sS : ∀ a, S a → S' a
  fr : ∀ a o, H a = some o → a ∉ F → NTb o → H' a = some o
  tb : ∀ a, TabG H a → TabG H' a
  dom : ∀ a, H a ≠ none → H' a ≠ none
  new : ∀ a ∈ F', a ∈ F ∨ H a = none
  newS : ∀ a, S' a → S a ∨ a ∈ F ∨ H a = none

section
variable {K : PySem.W.Frag} {S S' S1 S2 : Addr → Prop} {H H' H1 H2 : Hp} {F F' F1 F2 T G : Fp}
theorem Go.refl (S : Addr → Prop) (H : Hp) (F : Fp) : Go S H F S H F := ⟨fun _ h => h, fun _ _ h _ _ => h, fun _ h => h, fun _ h => h, fun _ h => .inl h, fun _ h => .inl h⟩
/-- a step that leaves tables as they are -/
theorem Go.mk' (sS : ∀ a, S a → S' a) (fr : ∀ a o, H a = some o → a ∉ F → H' a = some o) (dom : ∀ a, H a ≠ none → H' a ≠ none) (new : ∀ a ∈ F', a ∈ F ∨ H a = none) (newS : ∀ a, S' a → S a ∨ a ∈ F ∨ H a = none) (hF : ∀ a ∈ F, Mt (H a)) : Go S H F S' H' F' :=
  ⟨sS, fun a o e n _ => fr a o e n, fun a ⟨ps, e, t⟩ => ⟨ps, fr a _ e fun z => by have := hF a z; rw [e] at this; exact this, t⟩, dom, new, newS⟩
theorem Go.trans (a : Go S H F S1 H1 F1) (b : Go S1 H1 F1 S2 H2 F2) : Go S H F S2 H2 F2 := by
  have key : ∀ c, H1 c = none → H c = none := fun c e => by
    cases q : H c with
    | none => rfl
    | some o => exact absurd e (a.dom c (by rw [q]; simp))
  refine ⟨fun c h => b.sS c (a.sS c h), fun c o e n nt => ?_, fun c h => b.tb c (a.tb c h), fun c h => b.dom c (a.dom c h), fun c h => ?_, fun c h => ?_⟩
  · refine b.fr c o (a.fr c o e n nt) (fun z => ?_) nt
    rcases a.new c z with z | z
    · exact n z
    · rw [e] at z; cases z
  · rcases b.new c h with z | z
    · exact a.new c z
    · exact .inr (key c z)
  · rcases b.newS c h with z | z | z
    · exact a.newS c z
    · exact (a.new c z).elim (fun z => .inr (.inl z)) fun z => .inr (.inr z)
    · exact .inr (.inr (key c z))
theorem Go.sub (a : Go S H F S1 H1 F1) (h : ∀ c ∈ F2, c ∈ F1) : Go S H F S1 H1 F2 := ⟨a.sS, a.fr, a.tb, a.dom, fun c z => a.new c (h c z), a.newS⟩
/-- less may be changed than is said -/
theorem Go.wide (a : Go S H F S1 H1 F1) (h : ∀ c ∈ F, c ∈ F2) : Go S H F2 S1 H1 F1 := ⟨a.sS, fun c o e n nt => a.fr c o e (fun z => n (h c z)) nt, a.tb, a.dom, fun c z => (a.new c z).imp (h c) id, fun c z => (a.newS c z).imp id fun z => z.imp (h c) id⟩
theorem Go.frame (a : Go S H F S1 H1 F1) (T : Fp) : Go S H (T ++ F) S1 H1 (T ++ F1) := by
  refine ⟨a.sS, fun c o e n nt => a.fr c o e (fun z => n (List.mem_append_right _ z)) nt, a.tb, a.dom, fun c z => ?_, fun c z => ?_⟩
  · rcases List.mem_append.mp z with z | z
    · exact .inl (List.mem_append_left _ z)
    · exact (a.new c z).imp (fun z => List.mem_append_right _ z) id
  · rcases a.newS c z with z | z | z
    · exact .inl z
    · exact .inr (.inl (List.mem_append_right _ z))
    · exact .inr (.inr z)
theorem Go.frameR (a : Go S H F S1 H1 F1) (T : Fp) : Go S H (F ++ T) S1 H1 (F1 ++ T) := ((a.frame T).sub (F2 := F1 ++ T) (fun c z => by simp only [List.mem_append] at z ⊢; exact z.symm)).wide (fun c z => by simp only [List.mem_append] at z ⊢; exact z.symm)
theorem Ft.nil (h : ∀ a, S a → H a ≠ none) : Ft S H [] := ⟨.nil, (fun _ z => by cases z), (fun _ z => by cases z), h⟩
theorem Ft.left (h : Ft S H (T ++ F)) : Ft S H T := ⟨(List.nodup_append.mp h.nd).1, fun a z => h.dj a (List.mem_append_left _ z), fun a z => h.mu a (List.mem_append_left _ z), h.sd⟩
theorem Ft.right (h : Ft S H (T ++ F)) : Ft S H F := ⟨(List.nodup_append.mp h.nd).2.1, fun a z => h.dj a (List.mem_append_right _ z), fun a z => h.mu a (List.mem_append_right _ z), h.sd⟩
theorem Ft.perm (h : Ft S H F) (p : F.Perm F') : Ft S H F' := ⟨p.nodup_iff.mp h.nd, fun a z => h.dj a (p.mem_iff.mpr z), fun a z => h.mu a (p.mem_iff.mpr z), h.sd⟩
theorem Ft.comm (h : Ft S H (T ++ F)) : Ft S H (F ++ T) := h.perm List.perm_append_comm
theorem Ft.apart (h : Ft S H (T ++ F)) : ∀ a ∈ T, a ∉ F := fun a x y => (List.nodup_append.mp h.nd).2.2 a x a y rfl
theorem Ft.apart' (h : Ft S H (T ++ F)) : ∀ a ∈ F, a ∉ T := fun a x y => h.apart a y x
/-- a footprint beside, over a step -/
theorem Ft.frame (h : Ft S H (T ++ F)) (g : Go S H F S' H' G) (h' : Ft S' H' G) : Ft S' H' (T ++ G) := by
  refine ⟨List.nodup_append.mpr ⟨h.left.nd, h'.nd, fun a x b y e => ?_⟩, fun a z => ?_, fun a z => ?_, h'.sd⟩
  · subst e
    rcases g.new a y with z | z
    · exact h.apart a x z
    · exact (h.left.mu a x).some z
  · rcases List.mem_append.mp z with z | z
    · intro q
      rcases g.newS a q with y | y | y
      · exact h.left.dj a z y
      · exact h.apart a z y
      · exact (h.left.mu a z).some y
    · exact h'.dj a z
  · rcases List.mem_append.mp z with z | z
    · have m := h.left.mu a z
      cases q : H a with
      | none => exact absurd q m.some
      | some o => rw [g.fr a o q (h.apart a z) (Mt.ntb q m), ← q]; exact m
    · exact h'.mu a z
theorem SqT.go (g : Go S H F S' H' F') (f : ∀ a ∈ F, Mt (H a)) {a : Addr} {vs : List V} (h : SqT K H a vs) : SqT K H' a vs := by
  rcases h with (h | ⟨o, h⟩) | h
  · exact .inl (.inl (g.fr _ _ h (fun z => by have := f a z; rw [h] at this; exact this) trivial))
  · exact .inl (.inr ⟨o, g.fr _ _ h (fun z => by have := f a z; rw [h] at this; exact this) trivial⟩)
  · exact .inr h
theorem tup_go (g : Go S H F S' H' F') (f : ∀ a ∈ F, Mt (H a)) {a : Addr} {vs : List V} (h : H a = some (.tup vs)) : H' a = some (.tup vs) := g.fr _ _ h (fun z => by have := f a z; rw [h] at this; exact this) trivial
theorem ntb_dic {t : Bool} {ks : List DKey} {vs : List V} : NTb (dicO t ks vs) := by cases t <;> trivial
theorem mt_dic {t : Bool} {ks : List DKey} {vs : List V} : Mt (some (dicO t ks vs)) := by cases t <;> trivial
theorem DcF.go (g : Go S H F S' H' F') (f : Ft S H F) {a : Addr} {t : Bool} {ks : List DKey} {vs : List V} (h : DcF S H a t ks vs) : DcF S' H' a t ks vs := by
  obtain ⟨⟨o, e⟩, s⟩ := h
  exact ⟨⟨o, g.fr _ _ e (fun z => f.dj a z s) trivial⟩, g.sS a s⟩
theorem SqF.go (g : Go S H F S' H' F') (f : Ft S H F) {a : Addr} {vs : List V} (h : SqF S H a vs) : SqF S' H' a vs := ⟨g.fr _ _ h.1 (fun z => f.dj a z h.2) trivial, g.sS a h.2⟩
theorem Scr.go (g : Go S H F S' H' F') (f : Ft S H F) {a : Addr} {vs : List V} (h : Scr K S H a vs) : Scr K S' H' a vs := by
  rcases h with (⟨o, h⟩ | h) | h
  · exact .inl (.inl ⟨o, g.fr _ _ h (fun z => by have := f.mu a z; rw [h] at this; exact this) trivial⟩)
  · exact .inl (.inr (h.go g f))
  · exact .inr h
mutual
theorem Rep.go (g : Go S H F S' H' F') (f : Ft S H F) : ∀ (d : D) (v : V) (T : Fp), (∀ a ∈ T, a ∉ F) → Rep K S H d v T → Rep K S' H' d v T
  | .non, v, T, _, h => h
  | .bl _, v, T, _, h => h
  | .int _, v, T, _, h => h
  | .str _, v, T, _, h => h
  | .tup ds, v, T, n, h => by
    obtain ⟨a, vs, e, q, r⟩ := h
    exact ⟨a, vs, e, tup_go g f.mu q, RepL.go g f ds vs T n r⟩
  | .lst true ds, v, T, n, h => by
    obtain ⟨a, vs, G, e, q, e2, r⟩ := h
    subst e2
    exact ⟨a, vs, G, e, g.fr _ _ q (n a (by simp)) trivial, rfl, RepL.go g f ds vs G (fun b hb => n b (by simp [hb])) r⟩
  | .lst false ds, v, T, n, h => by
    obtain ⟨e0, a, vs, e, q, r⟩ := h
    exact ⟨e0, a, vs, e, SqF.go g f q, RepL.go g f ds vs [] (fun b hb => nomatch hb) r⟩
  | .scr ns, v, T, _, h => by obtain ⟨e0, a, e, q⟩ := h; exact ⟨e0, a, e, Scr.go g f q⟩
  | .exc _, v, T, _, h => h
  | .dic true t ks ds, v, T, n, h => by
    obtain ⟨hl, hk, a, vs, G, e, q, e2, r⟩ := h
    subst e2
    exact ⟨hl, hk, a, vs, G, e, g.fr _ _ q (n a (by simp)) ntb_dic, rfl, RepL.go g f ds vs G (fun b hb => n b (by simp [hb])) r⟩
  | .dic false t ks ds, v, T, n, h => by
    obtain ⟨e0, hl, hk, a, vs, e, q, r⟩ := h
    exact ⟨e0, hl, hk, a, vs, e, DcF.go g f q, RepL.go g f ds vs [] (fun b hb => nomatch hb) r⟩
theorem RepL.go (g : Go S H F S' H' F') (f : Ft S H F) : ∀ (ds : List D) (vs : List V) (T : Fp), (∀ a ∈ T, a ∉ F) → RepL K S H ds vs T → RepL K S' H' ds vs T
  | [], vs, T, _, h => h
  | d :: ds, vs, T, n, h => by
    obtain ⟨v, r, F1, F2, e1, e2, h1, h2⟩ := h
    subst e2
    exact ⟨v, r, F1, F2, e1, rfl, Rep.go g f d v F1 (fun b hb => n b (by simp [hb])) h1, RepL.go g f ds r F2 (fun b hb => n b (by simp [hb])) h2⟩
end
end

/-! ### shared data -/
mutual
def D.sh : D → Bool
  | .tup ds => D.shL ds
  | .lst o ds => !o && D.shL ds
  | .exc _ => false
  | .dic o _ _ ds => !o && D.shL ds
  | _ => true
def D.shL : List D → Bool
  | [] => true
  | d :: ds => D.sh d && D.shL ds
end
section
variable {K : PySem.W.Frag} {S S' S1 S2 : Addr → Prop} {H H' H1 H2 : Hp} {F F' F1 F2 T G : Fp}
mutual
theorem Rep.sh : ∀ (d : D) (v : V) (F : Fp), d.sh = true → Rep K S H d v F → F = []
  | .non, _, _, _, h => h.2
  | .bl _, _, _, _, h => h.2
  | .int _, _, _, _, h => h.2
  | .str _, _, _, _, h => h.2
  | .tup ds, v, F, q, h => by
    obtain ⟨a, vs, e, _, r⟩ := h
    exact RepL.sh ds vs F (by simpa [D.sh] using q) r
  | .lst true ds, v, F, q, h => by simp [D.sh] at q
  | .lst false ds, v, F, q, h => h.1
  | .scr _, v, F, q, h => h.1
  | .exc _, _, _, _, h => h.elim
  | .dic true t ks ds, v, F, q, h => by simp [D.sh] at q
  | .dic false t ks ds, v, F, q, h => h.1
theorem RepL.sh : ∀ (ds : List D) (vs : List V) (F : Fp), D.shL ds = true → RepL K S H ds vs F → F = []
  | [], _, _, _, h => h.2
  | d :: ds, vs, F, q, h => by
    obtain ⟨v, r, F1, F2, e1, e2, h1, h2⟩ := h
    simp only [D.shL, Bool.and_eq_true] at q
    rw [e2, Rep.sh d v F1 q.1 h1, RepL.sh ds r F2 q.2 h2]
    rfl
end
theorem RepL.len : ∀ {ds : List D} {vs : List V} {F : Fp}, RepL K S H ds vs F → ds.length = vs.length
  | [], _, _, h => by rw [h.1]; rfl
  | d :: ds, vs, F, h => by
    obtain ⟨v, r, F1, F2, e1, e2, h1, h2⟩ := h
    subst e1
    rw [List.length_cons, List.length_cons, RepL.len h2]
theorem RepL.append : ∀ {ds es : List D} {vs ws : List V} {F G : Fp}, RepL K S H ds vs F → RepL K S H es ws G → RepL K S H (ds ++ es) (vs ++ ws) (F ++ G)
  | [], es, vs, ws, F, G, h, h' => by obtain ⟨rfl, rfl⟩ := h; exact h'
  | d :: ds, es, vs, ws, F, G, h, h' => by
    obtain ⟨v, r, F1, F2, e1, e2, h1, h2⟩ := h
    subst e1 e2
    exact ⟨v, r ++ ws, F1, F2 ++ G, rfl, by rw [List.append_assoc], h1, RepL.append h2 h'⟩
theorem RepL.one {d : D} {v : V} (h : Rep K S H d v F) : RepL K S H [d] [v] F := ⟨v, [], F, [], rfl, by simp, h, rfl, rfl⟩
theorem RepL.get : ∀ {ds : List D} {vs : List V} {F : Fp} {i : Nat} {d : D}, RepL K S H ds vs F → ds[i]? = some d → ∃ v G, vs[i]? = some v ∧ Rep K S H d v G ∧ ∀ a ∈ G, a ∈ F
  | [], _, _, _, _, _, e => by simp at e
  | d :: ds, vs, F, 0, d', h, e => by
    obtain ⟨v, r, F1, F2, e1, e2, h1, h2⟩ := h
    simp at e; subst e1 e2 e
    exact ⟨v, F1, rfl, h1, fun a z => List.mem_append_left _ z⟩
  | d :: ds, vs, F, i + 1, d', h, e => by
    obtain ⟨v, r, F1, F2, e1, e2, h1, h2⟩ := h
    subst e1 e2
    obtain ⟨w, G, h3, h4, h5⟩ := RepL.get (i := i) h2 (by simpa using e)
    exact ⟨w, G, by simpa using h3, h4, fun a z => List.mem_append_right _ (h5 a z)⟩
/-- all that is shared: each item stands by itself -/
theorem RepL.items : ∀ {ds : List D} {vs : List V}, RepL K S H ds vs [] → ∀ {i : Nat} {d : D}, ds[i]? = some d → ∃ v, vs[i]? = some v ∧ Rep K S H d v [] := fun h i d e => by
  obtain ⟨v, G, h1, h2, h3⟩ := RepL.get h e
  have : G = [] := List.eq_nil_iff_forall_not_mem.mpr fun a z => nomatch h3 a z
  subst this
  exact ⟨v, h1, h2⟩
end

/-! ### the names -/
abbrev Env := List (Option D)
inductive Res (α : Type) where
  | ok (a : α) (r : Env)
  | exc (c : Str) (r : Env)
  | stk
inductive PR (α : Type) where
  | ok (a : α)
  | exc (c : Str)
  | stk
inductive SR where
  | nx (r : Env)
  | rt (d : D) (r : Env)
  | bk (r : Env)
  | ct (r : Env)
  | exc (c : Str) (r : Env)
  | stk

def RepE (K : PySem.W.Frag) (S : Addr → Prop) (H : Hp) : Env → L2.St → Fp → Prop
  | [], σ, F => σ = [] ∧ F = []
  | none :: r, σ, F => ∃ x t, σ = x :: t ∧ RepE K S H r t F
  | some d :: r, σ, F => ∃ v t F1 F2, σ = some v :: t ∧ F = F1 ++ F2 ∧ Rep K S H d v F1 ∧ RepE K S H r t F2
structure At (K : PySem.W.Frag) (tb : List Addr) (S : Addr → Prop) (H : Hp) (r : Env) (σ : L2.St) (F : Fp) : Prop where
  ft : Ft S H F
  env : RepE K S H r σ F
  tab : ∀ P ∈ tb, TabG H P

section
variable {K : PySem.W.Frag} {tb : List Addr} {S S' S1 S2 : Addr → Prop} {H H' H1 H2 : Hp} {F F' F1 F2 T G : Fp} {r : Env} {σ : L2.St}
theorem RepE.len : ∀ {r : Env} {σ : L2.St} {F : Fp}, RepE K S H r σ F → r.length = σ.length
  | [], _, _, h => by rw [h.1]; rfl
  | none :: r, σ, F, h => by obtain ⟨x, t, e, h⟩ := h; subst e; rw [List.length_cons, List.length_cons, RepE.len h]
  | some d :: r, σ, F, h => by obtain ⟨v, t, F1, F2, e, _, _, h⟩ := h; subst e; rw [List.length_cons, List.length_cons, RepE.len h]
theorem RepE.go (g : Go S H F S' H' F') (f : Ft S H F) : ∀ {r : Env} {σ : L2.St} {T : Fp}, (∀ a ∈ T, a ∉ F) → RepE K S H r σ T → RepE K S' H' r σ T
  | [], _, _, _, h => h
  | none :: r, σ, T, n, h => by obtain ⟨x, t, e, h⟩ := h; exact ⟨x, t, e, RepE.go g f n h⟩
  | some d :: r, σ, T, n, h => by
    obtain ⟨v, t, F1, F2, e, e2, h1, h⟩ := h
    subst e2
    exact ⟨v, t, F1, F2, e, rfl, Rep.go g f d v F1 (fun b hb => n b (by simp [hb])) h1, RepE.go g f (fun b hb => n b (by simp [hb])) h⟩
/-- one slot, and what stands there put in place of it -/
theorem RepE.slot : ∀ {r : Env} {σ : L2.St} {F : Fp} {i : Nat}, RepE K S H r σ F → i < r.length → ∃ (A G B : Fp), F = A ++ (G ++ B) ∧ (∀ d, r[i]? = some (some d) → ∃ v, σ[i]? = some (some v) ∧ Rep K S H d v G) ∧
    (∀ d v T, Rep K S H d v T → RepE K S H (r.set i (some d)) (σ.set i (some v)) (A ++ (T ++ B))) ∧ (∀ x, RepE K S H (r.set i none) (σ.set i x) (A ++ B)) ∧ RepE K S H (r.set i none) σ (A ++ B) ∧
    (∀ d v T, σ[i]? = some (some v) → Rep K S H d v T → RepE K S H (r.set i (some d)) σ (A ++ (T ++ B)))
  | [], _, _, _, _, h => absurd h (by simp)
  | none :: r, σ, F, 0, h, _ => by
    obtain ⟨x, t, e, h⟩ := h
    subst e
    refine ⟨[], [], F, rfl, fun d e => by simp at e, fun d v T q => ⟨v, t, T, F, rfl, rfl, q, h⟩, fun y => ⟨y, t, rfl, h⟩, ⟨x, t, rfl, h⟩, fun d v T e q => ?_⟩
    simp at e; subst e
    exact ⟨v, t, T, F, rfl, rfl, q, h⟩
  | some d0 :: r, σ, F, 0, h, _ => by
    obtain ⟨v0, t, F1, F2, e, e2, h1, h⟩ := h
    subst e e2
    refine ⟨[], F1, F2, rfl, fun d e => ⟨v0, rfl, by simp at e; subst e; exact h1⟩, fun d v T q => ⟨v, t, T, F2, rfl, rfl, q, h⟩, fun y => ⟨y, t, rfl, h⟩, ⟨some v0, t, rfl, h⟩, fun d v T e q => ?_⟩
    simp at e; subst e
    exact ⟨v0, t, T, F2, rfl, rfl, q, h⟩
  | none :: r, σ, F, i + 1, h, l => by
    obtain ⟨x, t, e, h⟩ := h
    subst e
    obtain ⟨A, G, B, e1, h1, h2, h3, h4, h5⟩ := RepE.slot (i := i) h (by simpa using l)
    exact ⟨A, G, B, e1, fun d e => by simpa using h1 d (by simpa using e), fun d v T q => ⟨x, t.set i (some v), rfl, h2 d v T q⟩, fun y => ⟨x, t.set i y, rfl, h3 y⟩, ⟨x, t, rfl, h4⟩, fun d v T e q => ⟨x, t, rfl, h5 d v T (by simpa using e) q⟩⟩
  | some d0 :: r, σ, F, i + 1, h, l => by
    obtain ⟨v0, t, F1, F2, e, e2, h0, h⟩ := h
    subst e e2
    obtain ⟨A, G, B, e1, h1, h2, h3, h4, h5⟩ := RepE.slot (i := i) h (by simpa using l)
    subst e1
    exact ⟨F1 ++ A, G, B, by simp [List.append_assoc], fun d e => by simpa using h1 d (by simpa using e), fun d v T q => ⟨v0, t.set i (some v), F1, _, rfl, by simp [List.append_assoc], h0, h2 d v T q⟩,
      fun y => ⟨v0, t.set i y, F1, _, rfl, by simp [List.append_assoc], h0, h3 y⟩, ⟨v0, t, F1, _, rfl, by simp [List.append_assoc], h0, h4⟩, fun d v T e q => ⟨v0, t, F1, _, rfl, by simp [List.append_assoc], h0, h5 d v T (by simpa using e) q⟩⟩
theorem At.get (a : At K tb S H r σ F) {i : Nat} {d : D} (e : r[i]? = some (some d)) : ∃ v T, σ[i]? = some (some v) ∧ Rep K S H d v T ∧ ∀ b ∈ T, b ∈ F := by
  have l : i < r.length := (List.getElem?_eq_some_iff.mp e).1
  obtain ⟨A, G, B, e1, h1, _⟩ := a.env.slot l
  obtain ⟨v, h2, h3⟩ := h1 d e
  exact ⟨v, G, h2, h3, fun b z => by rw [e1]; simp [z]⟩
/-- a value is stored -/
theorem At.put (a : At K tb S H r σ F) {i : Nat} {d : D} {v : V} (l : i < r.length) (h : Rep K S H d v T) (f : Ft S H (T ++ F)) : ∃ F', At K tb S H (r.set i (some d)) (σ.set i (some v)) F' ∧ ∀ b ∈ F', b ∈ T ++ F := by
  obtain ⟨A, G, B, e1, _, h2, _⟩ := a.env.slot l
  subst e1
  have p : (T ++ (A ++ (G ++ B))).Perm (G ++ (A ++ (T ++ B))) := by
    refine (List.Perm.append_left T (List.perm_append_comm_assoc A G B)).trans ?_
    refine (List.perm_append_comm_assoc T G (A ++ B)).trans (List.Perm.append_left G ?_)
    exact List.perm_append_comm_assoc T A B
  exact ⟨_, ⟨(f.perm p).right, h2 d v T h, a.tab⟩, fun b z => by simp only [List.mem_append] at z ⊢; rcases z with z | z | z <;> simp [z]⟩
/-- a value is taken out -/
theorem At.take (a : At K tb S H r σ F) {i : Nat} {d : D} (e : r[i]? = some (some d)) : ∃ v T F', σ[i]? = some (some v) ∧ Rep K S H d v T ∧ At K tb S H (r.set i none) σ F' ∧ Ft S H (T ++ F') ∧ ∀ b, b ∈ T ++ F' ↔ b ∈ F := by
  have l : i < r.length := (List.getElem?_eq_some_iff.mp e).1
  obtain ⟨A, G, B, e1, h1, _, _, h4, _⟩ := a.env.slot l
  obtain ⟨v, h2, h3⟩ := h1 d e
  subst e1
  have f := a.ft.perm (List.perm_append_comm_assoc A G B)
  exact ⟨v, G, A ++ B, h2, h3, ⟨f.right, h4, a.tab⟩, f, fun b => by simp only [List.mem_append]; constructor <;> (intro z; rcases z with z | z | z <;> simp [z])⟩
/-- .. and put back, another now -/
theorem At.back (a : At K tb S H r σ F) {i : Nat} {d : D} {v : V} (l : i < r.length) (e : σ[i]? = some (some v)) (h : Rep K S H d v T) (f : Ft S H (T ++ F)) : ∃ F', At K tb S H (r.set i (some d)) σ F' ∧ ∀ b ∈ F', b ∈ T ++ F := by
  obtain ⟨A, G, B, e1, _, _, _, _, h5⟩ := a.env.slot l
  subst e1
  have p : (T ++ (A ++ (G ++ B))).Perm (G ++ (A ++ (T ++ B))) := by
    refine (List.Perm.append_left T (List.perm_append_comm_assoc A G B)).trans ?_
    refine (List.perm_append_comm_assoc T G (A ++ B)).trans (List.Perm.append_left G ?_)
    exact List.perm_append_comm_assoc T A B
  exact ⟨_, ⟨(f.perm p).right, h5 d v T e h, a.tab⟩, fun b z => by simp only [List.mem_append] at z ⊢; rcases z with z | z | z <;> simp [z]⟩
theorem At.go (a : At K tb S H r σ T) (g : Go S H F S' H' F') (f : Ft S H F) (n : ∀ b ∈ T, b ∉ F) (f' : Ft S' H' T) : At K tb S' H' r σ T := ⟨f', RepE.go g f n a.env, fun P hP => g.tb P (a.tab P hP)⟩
/-- nothing that stood is changed -/
theorem At.ext (a : At K tb S H r σ F) (g : Go S H [] S' H' G) (f : Ft S' H' G) : At K tb S' H' r σ F := ⟨(Ft.frame (T := F) (F := []) (by simpa using a.ft) g f).left, RepE.go g (Ft.nil a.ft.sd) (fun _ _ z => nomatch z) a.env, fun P hP => g.tb P (a.tab P hP)⟩
end
end DL

/-! DJudge: what an expression, a test, a statement does to the data. -/
namespace DL
open PySem PySem.Spec PyProof.Rows L2

/-- the class of a name -/
abbrev clsV (mg : Str → Option Value) (c : Str) : Value := (mg c).getD .none
/-- what is asked of exceptions; the tables of code objects that may grow -/
structure WT where
  wx : WX
  tb : List Addr
instance : CoeFun WT (fun _ => WX) := ⟨WT.wx⟩
instance : Coe WT WX := ⟨WT.wx⟩
/-- how a's are borne -/
abbrev RR (α β : Type) := (Addr → Prop) → Hp → α → β → Fp → Prop
abbrev RB : RR Bool Bool := fun _ _ a b T => a = b ∧ T = []

/-- what is asked behind an expression that owns what it gives -/
def EP1 {α β : Type} (R : RR α β) (X : Cx) (W : WT) (S : Addr → Prop) (H : Hp) (F : Fp) (σ : L2.St) (Q : β → Hp → Prop) : Res α → Prop
  | .ok a r => ∀ b S' H' F' T, Go S H F S' H' (T ++ F') → At X.K W.tb S' H' r σ F' → R S' H' a b T → Ft S' H' (T ++ F') → Q b H'
  | .exc c r => ∀ S' H' F', Go S H F S' H' F' → At X.K W.tb S' H' r σ F' → W (clsV X.mg c) none σ H'
  | .stk => False
/-- .. that may give what is another's: to be read at once -/
def RP1 {α β : Type} (R : RR α β) (X : Cx) (W : WT) (S : Addr → Prop) (H : Hp) (F : Fp) (σ : L2.St) (Q : β → Hp → Prop) : Res α → Prop
  | .ok a r => ∀ b S' H' F' T, Go S H F S' H' F' → At X.K W.tb S' H' r σ F' → R S' H' a b T → Q b H'
  | .exc c r => ∀ S' H' F', Go S H F S' H' F' → At X.K W.tb S' H' r σ F' → W (clsV X.mg c) none σ H'
  | .stk => False
/-- .. and changes nothing that stood -/
def PP1 {α β : Type} (R : RR α β) (X : Cx) (W : WT) (S : Addr → Prop) (H : Hp) (σ : L2.St) (Q : β → Hp → Prop) : PR α → Prop
  | .ok a => ∀ b S' H' T, Go S H [] S' H' [] → Ft S' H' [] → R S' H' a b T → Q b H'
  | .exc c => ∀ S' H', Go S H [] S' H' [] → Ft S' H' [] → W (clsV X.mg c) none σ H'
  | .stk => False

def DE (X : Cx) (W : WT) (e : Expr) (E : Env → Res D) : Prop := ∃ t, PE X e t ∧ ∀ S H r σ F Q, At X.K W.tb S H r σ F → EP1 (Rep X.K) X W S H F σ Q (E r) → t σ H Q
def DR (X : Cx) (W : WT) (e : Expr) (E : Env → Res D) : Prop := ∃ t, PE X e t ∧ ∀ S H r σ F Q, At X.K W.tb S H r σ F → RP1 (Rep X.K) X W S H F σ Q (E r) → t σ H Q
def DP (X : Cx) (W : WT) (e : Expr) (P : Env → PR D) : Prop := ∃ t, PE X e t ∧ ∀ S H r σ F Q, At X.K W.tb S H r σ F → PP1 (Rep X.K) X W S H σ Q (P r) → t σ H Q
def DA (X : Cx) (W : WT) (es : List Expr) (E : Env → Res (List D)) : Prop := ∃ t, PA X es t ∧ ∀ S H r σ F Q, At X.K W.tb S H r σ F → EP1 (RepL X.K) X W S H F σ Q (E r) → t σ H Q
def DPA (X : Cx) (W : WT) (es : List Expr) (P : Env → PR (List D)) : Prop := ∃ t, PA X es t ∧ ∀ S H r σ F Q, At X.K W.tb S H r σ F → PP1 (RepL X.K) X W S H σ Q (P r) → t σ H Q
def DT (X : Cx) (W : WT) (e : Expr) (E : Env → Res Bool) : Prop := ∃ t, PT X e t ∧ ∀ S H r σ F Q, At X.K W.tb S H r σ F → EP1 RB X W S H F σ Q (E r) → t σ H Q

def Res.bind {α β : Type} : Res α → (α → Env → Res β) → Res β
  | .ok a r, f => f a r
  | .exc c r, _ => .exc c r
  | .stk, _ => .stk
def PR.bind {α β : Type} : PR α → (α → PR β) → PR β
  | .ok a, f => f a
  | .exc c, _ => .exc c
  | .stk, _ => .stk
/-- a pure one as any -/
def PR.up {α : Type} (p : PR α) (r : Env) : Res α := match p with
  | .ok a => .ok a r
  | .exc c => .exc c r
  | .stk => .stk
def ofO {α : Type} : Option α → PR α
  | some a => .ok a
  | none => .stk

section
variable {X : Cx} {W : WT} {e a b c : Expr} {es : List Expr} {S S' S1 : Addr → Prop} {H H' H1 : Hp} {F F' F1 T : Fp} {σ : L2.St} {r : Env}
/-- behind a first step -/
theorem EP1.step {α β : Type} {R : RR α β} {Q : β → Hp → Prop} (g : Go S H F S1 H1 F1) : ∀ {x : Res α}, EP1 R X W S H F σ Q x → EP1 R X W S1 H1 F1 σ Q x
  | .ok a r, h => fun b S' H' F' T g' x y z => h b S' H' F' T (g.trans g') x y z
  | .exc c r, h => fun S' H' F' g' x => h S' H' F' (g.trans g') x
  | .stk, h => h
theorem RP1.step {α β : Type} {R : RR α β} {Q : β → Hp → Prop} (g : Go S H F S1 H1 F1) : ∀ {x : Res α}, RP1 R X W S H F σ Q x → RP1 R X W S1 H1 F1 σ Q x
  | .ok a r, h => fun b S' H' F' T g' x y => h b S' H' F' T (g.trans g') x y
  | .exc c r, h => fun S' H' F' g' x => h S' H' F' (g.trans g') x
  | .stk, h => h
theorem PP1.step {α β : Type} {R : RR α β} {Q : β → Hp → Prop} (g : Go S H [] S1 H1 []) : ∀ {x : PR α}, PP1 R X W S H σ Q x → PP1 R X W S1 H1 σ Q x
  | .ok a, h => fun b S' H' T g' x y => h b S' H' T (g.trans g') x y
  | .exc c, h => fun S' H' g' x => h S' H' (g.trans g') x
  | .stk, h => h
/-- the whole footprint beside what is changed -/
theorem go_side (g : Go S H [] S' H' []) (F : Fp) : Go S H F S' H' F := by
  have := g.frame F
  simpa using this
theorem At.ext0 (x : At X.K W.tb S H r σ F) (g : Go S H [] S' H' []) (f : Ft S' H' []) : At X.K W.tb S' H' r σ F := x.ext g f


/-! ### one behind another -/
theorem EP1.bind {α β α' β' : Type} {R : RR α β} {R' : RR α' β'} {Q : β' → Hp → Prop} {Q1 : β → Hp → Prop} {x : Res α} {f : α → Env → Res α'} (g : Go S H F S1 H1 F1) (y : EP1 R' X W S H F σ Q (x.bind f))
    (k : ∀ a r b S2 H2 F2 T2, Go S1 H1 F1 S2 H2 (T2 ++ F2) → At X.K W.tb S2 H2 r σ F2 → R S2 H2 a b T2 → Ft S2 H2 (T2 ++ F2) → EP1 R' X W S H F σ Q (f a r) → Q1 b H2) : EP1 R X W S1 H1 F1 σ Q1 x := by
  cases x with
  | ok a r => exact fun b S' H' F' T g' x z t => k a r b S' H' F' T g' x z t y
  | exc c r => exact fun S' H' F' g' x => y S' H' F' (g.trans g') x
  | stk => exact y
theorem EP1.bindR {α β α' β' : Type} {R : RR α β} {R' : RR α' β'} {Q : β' → Hp → Prop} {Q1 : β → Hp → Prop} {x : Res α} {f : α → Env → Res α'} (g : Go S H F S1 H1 F1) (y : EP1 R' X W S H F σ Q (x.bind f))
    (k : ∀ a r b S2 H2 F2 T2, Go S1 H1 F1 S2 H2 F2 → At X.K W.tb S2 H2 r σ F2 → R S2 H2 a b T2 → EP1 R' X W S H F σ Q (f a r) → Q1 b H2) : RP1 R X W S1 H1 F1 σ Q1 x := by
  cases x with
  | ok a r => exact fun b S' H' F' T g' x z => k a r b S' H' F' T g' x z y
  | exc c r => exact fun S' H' F' g' x => y S' H' F' (g.trans g') x
  | stk => exact y
theorem EP1.bindP {α β α' β' : Type} {R : RR α β} {R' : RR α' β'} {Q : β' → Hp → Prop} {Q1 : β → Hp → Prop} {x : PR α} {f : α → Env → Res α'} (g : Go S H F S1 H1 F1) (z : At X.K W.tb S1 H1 r σ F1) (y : EP1 R' X W S H F σ Q ((x.up r).bind f))
    (k : ∀ a b S2 H2 T2, Go S1 H1 [] S2 H2 [] → Ft S2 H2 [] → R S2 H2 a b T2 → EP1 R' X W S H F σ Q (f a r) → Q1 b H2) : PP1 R X W S1 H1 σ Q1 x := by
  cases x with
  | ok a => exact fun b S' H' T g' x z => k a b S' H' T g' x z y
  | exc c => exact fun S' H' g' x => y S' H' F1 (g.trans (go_side g' F1)) (z.ext0 g' x)
  | stk => exact y
theorem PP1.bind {α β α' β' : Type} {R : RR α β} {R' : RR α' β'} {Q : β' → Hp → Prop} {Q1 : β → Hp → Prop} {x : PR α} {f : α → PR α'} (g : Go S H [] S1 H1 []) (y : PP1 R' X W S H σ Q (x.bind f))
    (k : ∀ a b S2 H2 T2, Go S1 H1 [] S2 H2 [] → Ft S2 H2 [] → R S2 H2 a b T2 → PP1 R' X W S H σ Q (f a) → Q1 b H2) : PP1 R X W S1 H1 σ Q1 x := by
  cases x with
  | ok a => exact fun b S' H' T g' x z => k a b S' H' T g' x z y
  | exc c => exact fun S' H' g' x => y S' H' (g.trans g') x
  | stk => exact y

/-! ### from one to the other -/
theorem EP1.read {α β : Type} {R : RR α β} {Q : β → Hp → Prop} : ∀ {x : Res α}, RP1 R X W S H F σ Q x → EP1 R X W S H F σ Q x
  | .ok a r, h => fun b S' H' F' T g x y _ => h b S' H' F' T (g.sub fun c z => List.mem_append_right _ z) x y
  | .exc c r, h => h
  | .stk, h => h
theorem PP1.read {α β : Type} {R : RR α β} {Q : β → Hp → Prop} (x : At X.K W.tb S H r σ F) : ∀ {p : PR α}, RP1 R X W S H F σ Q (p.up r) → PP1 R X W S H σ Q p
  | .ok a, h => fun b S' H' T g f y => h b S' H' F T (go_side g F) (x.ext0 g f) y
  | .exc c, h => fun S' H' g f => h S' H' F (go_side g F) (x.ext0 g f)
  | .stk, h => h
theorem dr_of_de {E : Env → Res D} (h : DE X W e E) : DR X W e E := by
  obtain ⟨t, p, q⟩ := h
  exact ⟨t, p, fun S H r σ F Q x y => q S H r σ F Q x (EP1.read y)⟩
theorem dr_of_dp {P : Env → PR D} (h : DP X W e P) : DR X W e (fun r => (P r).up r) := by
  obtain ⟨t, p, q⟩ := h
  exact ⟨t, p, fun S H r σ F Q x y => q S H r σ F Q x (PP1.read x y)⟩
/-- data that is shared may go anywhere -/
def shO (d : D) (r : Env) : Res D := if d.sh = true then .ok d r else .stk
theorem de_of_dp {P : Env → PR D} (h : DP X W e P) : DE X W e (fun r => ((P r).up r).bind shO) := by
  obtain ⟨t, p, q⟩ := h
  refine ⟨t, p, fun S H r σ F Q x y => q S H r σ F Q x (EP1.bindP (Go.refl _ _ _) x y fun d v S2 H2 T2 g2 f2 h2 y2 => ?_)⟩
  unfold shO at y2
  by_cases hs : d.sh = true
  · rw [if_pos hs] at y2
    have eT : T2 = [] := Rep.sh d v T2 hs h2
    subst eT
    have x' := x.ext0 g2 f2
    exact y2 v S2 H2 F [] (go_side g2 F) x' h2 x'.ft
  · rw [if_neg hs] at y2
    exact y2.elim

/-! ### names, constants -/
def getP (i : Nat) (r : Env) : PR D := match r[i]? with
  | some (some d) => .ok d
  | _ => .stk
theorem dp_var (i : Nat) {x : Str} {pos : Pos} (hN : X.N[i]? = some x := by rfl) (hv : Vis X.env.scope x := by first | exact Or.inl rfl | exact Or.inr (Or.inl rfl) | exact Or.inr (Or.inr rfl)) (hd : (x == ("__debug__" : Str)) = false := by decide)
    (hcd : (x == ("__classdict__" : Str)) = false := by decide) : DP X W (.Name x pos) (getP i) := by
  refine ⟨_, pe_var hN hv hd hcd, fun S H r σ F Q x y => ?_⟩
  unfold getP at y
  split at y
  · rename_i d e
    obtain ⟨v, T, h1, h2, _⟩ := x.get e
    exact ⟨v, h1, y v S H T (.refl _ _ _) (Ft.nil x.ft.sd) h2⟩
  · exact y.elim
/-- a name's value, taken: the name is without a value from then on -/
def takeE (i : Nat) (r : Env) : Res D := match r[i]? with
  | some (some d) => .ok d (r.set i none)
  | _ => .stk
theorem de_mv (i : Nat) {x : Str} {pos : Pos} (hN : X.N[i]? = some x := by rfl) (hv : Vis X.env.scope x := by first | exact Or.inl rfl | exact Or.inr (Or.inl rfl) | exact Or.inr (Or.inr rfl)) (hd : (x == ("__debug__" : Str)) = false := by decide)
    (hcd : (x == ("__classdict__" : Str)) = false := by decide) : DE X W (.Name x pos) (takeE i) := by
  refine ⟨_, pe_var hN hv hd hcd, fun S H r σ F Q x y => ?_⟩
  unfold takeE at y
  split at y
  · rename_i d e
    obtain ⟨v, T, F', h1, h2, h3, h4, h5⟩ := x.take e
    exact ⟨v, h1, y v S H F' T ((Go.refl S H F).sub fun c z => (h5 c).mp z) h3 h2 h4⟩
  · exact y.elim
theorem dp_int {i j pos} : DP X W (.Constant (.int i) j pos) (fun _ => .ok (.int i)) := ⟨_, pe_int, fun S H r σ F Q x y => y _ S H [] (.refl _ _ _) (Ft.nil x.ft.sd) ⟨rfl, rfl⟩⟩
theorem dp_bl {b j pos} : DP X W (.Constant (.bool b) j pos) (fun _ => .ok (.bl b)) := ⟨_, pe_bl, fun S H r σ F Q x y => y _ S H [] (.refl _ _ _) (Ft.nil x.ft.sd) ⟨rfl, rfl⟩⟩
theorem dp_non {j pos} : DP X W (.Constant .none j pos) (fun _ => .ok .non) := ⟨_, pe_non, fun S H r σ F Q x y => y _ S H [] (.refl _ _ _) (Ft.nil x.ft.sd) ⟨rfl, rfl⟩⟩
theorem dp_str {z j pos} : DP X W (.Constant (.str z) j pos) (fun _ => .ok (.str z)) := ⟨_, pe_str, fun S H r σ F Q x y => y _ S H [] (.refl _ _ _) (Ft.nil x.ft.sd) ⟨rfl, rfl⟩⟩

/-! ### arguments -/
theorem da_nil : DA X W [] (fun r => .ok [] r) := ⟨_, pa_nil, fun S H r σ F Q x y => y [] S H F [] (.refl _ _ _) x ⟨rfl, rfl⟩ x.ft⟩
theorem da_cons {E : Env → Res D} {G : Env → Res (List D)} (ha : DE X W e E) (hb : DA X W es G) (hs : starEach (e :: es) X.env = (false, eval e X.env) :: starEach es X.env := by rfl) :
    DA X W (e :: es) (fun r => (E r).bind fun d r1 => (G r1).bind fun ds r2 => .ok (d :: ds) r2) := by
  obtain ⟨t, p, q⟩ := ha
  obtain ⟨t', p', q'⟩ := hb
  refine ⟨_, pa_cons p p' hs, fun S H r σ F Q x y => q S H r σ F _ x (EP1.bind (Go.refl _ _ _) y fun d r1 v S1 H1 F1 T1 g1 x1 h1 f1 y1 => ?_)⟩
  refine q' S1 H1 r1 σ F1 _ x1 (EP1.bind (g1.sub fun c z => List.mem_append_right _ z) y1 fun ds r2 vs S2 H2 F2 T2 g2 x2 h2 f2 y2 => ?_)
  refine y2 (v :: vs) S2 H2 F2 (T1 ++ T2) ?_ x2 ⟨v, vs, T1, T2, rfl, rfl, Rep.go g2 x1.ft d v T1 f1.apart h1, h2⟩ ?_
  · rw [List.append_assoc]
    exact g1.trans (g2.frame T1)
  · rw [List.append_assoc]
    exact f1.frame g2 f2
theorem dpa_nil : DPA X W [] (fun _ => .ok []) := ⟨_, pa_nil, fun S H r σ F Q x y => y [] S H [] (.refl _ _ _) (Ft.nil x.ft.sd) ⟨rfl, rfl⟩⟩
theorem dpa_cons {E : Env → PR D} {G : Env → PR (List D)} (ha : DP X W e E) (hb : DPA X W es G) (hs : starEach (e :: es) X.env = (false, eval e X.env) :: starEach es X.env := by rfl) :
    DPA X W (e :: es) (fun r => (E r).bind fun d => (G r).bind fun ds => .ok (d :: ds)) := by
  obtain ⟨t, p, q⟩ := ha
  obtain ⟨t', p', q'⟩ := hb
  refine ⟨_, pa_cons p p' hs, fun S H r σ F Q x y => q S H r σ F _ x (PP1.bind (Go.refl _ _ _) y fun d v S1 H1 T1 g1 f1 h1 y1 => ?_)⟩
  refine q' S1 H1 r σ F _ (x.ext0 g1 f1) (PP1.bind g1 y1 fun ds vs S2 H2 T2 g2 f2 h2 y2 => ?_)
  exact y2 (v :: vs) S2 H2 (T1 ++ T2) (g1.trans g2) f2 ⟨v, vs, T1, T2, rfl, rfl, Rep.go g2 f1 d v T1 (fun _ _ z => nomatch z) h1, h2⟩
end
end DL

/-! DOps: operators, comparisons, subscripts, calls of builtins, tests, displays. -/
namespace DL
open PySem PySem.Spec PyProof.Rows L2

/-! ### readings apart from the syntax -/
def RdE (X : Cx) (W : WT) (t : TE) (E : Env → Res D) : Prop := ∀ S H r σ F Q, At X.K W.tb S H r σ F → EP1 (Rep X.K) X W S H F σ Q (E r) → t σ H Q
def RdR (X : Cx) (W : WT) (t : TE) (E : Env → Res D) : Prop := ∀ S H r σ F Q, At X.K W.tb S H r σ F → RP1 (Rep X.K) X W S H F σ Q (E r) → t σ H Q
def RdP (X : Cx) (W : WT) (t : TE) (P : Env → PR D) : Prop := ∀ S H r σ F Q, At X.K W.tb S H r σ F → PP1 (Rep X.K) X W S H σ Q (P r) → t σ H Q
def RdT (X : Cx) (W : WT) (t : TT) (E : Env → Res Bool) : Prop := ∀ S H r σ F Q, At X.K W.tb S H r σ F → EP1 RB X W S H F σ Q (E r) → t σ H Q

def opE {α β : Type} (g : α → Option β) (a : α) (r : Env) : Res β := match g a with
  | some b => .ok b r
  | none => .stk
def opP {α β : Type} (g : α → Option β) (a : α) : PR β := match g a with
  | some b => .ok b
  | none => .stk

/-- an operator by values that makes something new, or something shared -/
def V2 (K : PySem.W.Frag) (q : R2) (g : D → D → Option D) : Prop := ∀ (S : Addr → Prop) (H : Hp) (d1 d2 : D) (v1 v2 : V) (T1 T2 : Fp) (Q : VK), (∀ a, S a → H a ≠ none) → Rep K S H d1 v1 T1 → Rep K S H d2 v2 T2 →
  (∃ d, g d1 d2 = some d ∧ ∀ v S' H' T', Go S H [] S' H' T' → Rep K S' H' d v T' → Ft S' H' T' → Q v H') → q v1 v2 H Q
def V1 (K : PySem.W.Frag) (q : V → Hp → VK → Prop) (g : D → Option D) : Prop := ∀ (S : Addr → Prop) (H : Hp) (d1 : D) (v1 : V) (T1 : Fp) (Q : VK), (∀ a, S a → H a ≠ none) → Rep K S H d1 v1 T1 →
  (∃ d, g d1 = some d ∧ ∀ v S' H' T', Go S H [] S' H' T' → Rep K S' H' d v T' → Ft S' H' T' → Q v H') → q v1 H Q
/-- .. on a list of arguments -/
def VL (K : PySem.W.Frag) (q : List V → Hp → VK → Prop) (g : List D → Option D) : Prop := ∀ (S : Addr → Prop) (H : Hp) (ds : List D) (vs : List V) (T1 : Fp) (Q : VK), (∀ a, S a → H a ≠ none) → RepL K S H ds vs T1 →
  (∃ d, g ds = some d ∧ ∀ v S' H' T', Go S H [] S' H' T' → Rep K S' H' d v T' → Ft S' H' T' → Q v H') → q vs H Q
/-- a part of what is there -/
def VB2 (K : PySem.W.Frag) (q : R2) (g : D → D → Option D) : Prop := ∀ (S : Addr → Prop) (H : Hp) (d1 d2 : D) (v1 v2 : V) (T1 T2 : Fp) (Q : VK), (∀ a, S a → H a ≠ none) → Rep K S H d1 v1 T1 → Rep K S H d2 v2 T2 →
  (∃ d, g d1 d2 = some d ∧ ∀ v T', Rep K S H d v T' → (∀ a ∈ T', a ∈ T1) → Q v H) → q v1 v2 H Q

section
variable {X : Cx} {W : WT} {S S' S1 : Addr → Prop} {H H' H1 : Hp} {F F' F1 T : Fp} {σ : L2.St} {r : Env}
theorem opE_some {α β : Type} {R : RR β V} {g : α → Option β} {a : α} {Q : VK} (y : EP1 R X W S H F σ Q (opE g a r)) : ∃ b, g a = some b ∧ EP1 R X W S H F σ Q (.ok b r) := by
  unfold opE at y
  split at y
  · rename_i b e; exact ⟨b, e, y⟩
  · exact y.elim
theorem opP_some {α β : Type} {R : RR β V} {g : α → Option β} {a : α} {Q : VK} (y : PP1 R X W S H σ Q (opP g a)) : ∃ b, g a = some b ∧ PP1 R X W S H σ Q (.ok b) := by
  unfold opP at y
  split at y
  · rename_i b e; exact ⟨b, e, y⟩
  · exact y.elim
/-- the end of an operator on what is owned: T1 goes, T' comes -/
theorem own_end {S2 : Addr → Prop} {H2 : Hp} {T1 T' : Fp} (g : Go S H F S1 H1 (T1 ++ F1)) (x1 : At X.K W.tb S1 H1 r σ F1) (g2 : Go S1 H1 [] S2 H2 T') (f2 : Ft S2 H2 T') :
    Go S H F S2 H2 (T' ++ F1) ∧ At X.K W.tb S2 H2 r σ F1 ∧ Ft S2 H2 (T' ++ F1) := by
  have g3 : Go S1 H1 F1 S2 H2 (F1 ++ T') := by simpa using g2.frame F1
  have f3 : Ft S2 H2 (F1 ++ T') := (Ft.frame (T := F1) (F := []) (by simpa using x1.ft) g2 f2)
  refine ⟨((g.sub fun c z => List.mem_append_right _ z).trans g3).sub fun c z => ?_, x1.ext g2 f2, f3.comm⟩
  simp only [List.mem_append] at z ⊢
  exact z.symm
theorem RdE.op {q : R2} {g : D → D → Option D} {ta tb : TE} {A B : Env → Res D} (v : V2 X.K q g) (ha : RdE X W ta A) (hb : RdE X W tb B) :
    RdE X W (tOp q ta tb) (fun r => (A r).bind fun x r1 => (B r1).bind fun y r2 => opE (g x) y r2) := by
  intro S H r σ F Q x y
  refine ha S H r σ F _ x (EP1.bind (Go.refl _ _ _) y fun d1 r1 v1 S1 H1 F1 T1 g1 x1 h1 f1 y1 => ?_)
  refine hb S1 H1 r1 σ F1 _ x1 (EP1.bind (g1.sub fun c z => List.mem_append_right _ z) y1 fun d2 r2 v2 S2 H2 F2 T2 g2 x2 h2 f2 y2 => ?_)
  obtain ⟨d, e, y3⟩ := opE_some y2
  refine v S2 H2 d1 d2 v1 v2 T1 T2 Q x2.ft.sd (Rep.go g2 x1.ft d1 v1 T1 f1.apart h1) h2 ⟨d, e, fun w S3 H3 T3 g3 h3 f3 => ?_⟩
  have g12 : Go S H F S2 H2 (T2 ++ F2) := (g1.sub (F2 := F1) fun c z => List.mem_append_right _ z).trans g2
  obtain ⟨a1, a2, a3⟩ := own_end (T1 := T2) g12 x2 g3 f3
  exact y3 w S3 H3 F2 T3 a1 a2 h3 a3
theorem RdE.opP {q : R2} {g : D → D → Option D} {ta tb : TE} {A B : Env → PR D} (v : V2 X.K q g) (ha : RdP X W ta A) (hb : RdP X W tb B) :
    RdE X W (tOp q ta tb) (fun r => (((A r).bind fun x => (B r).bind fun y => DL.opP (g x) y).up r)) := by
  intro S H r σ F Q x y
  have y : EP1 (Rep X.K) X W S H F σ Q (((A r).bind fun x => (B r).bind fun y => DL.opP (g x) y).up r) := y
  refine ha S H r σ F _ x ?_
  cases eA : A r with
  | stk => rw [eA] at y; exact y
  | exc c =>
    rw [eA] at y
    exact fun S' H' g' f' => y S' H' F (go_side g' F) (x.ext0 g' f')
  | ok d1 =>
    rw [eA] at y
    intro v1 S1 H1 T1 g1 f1 h1
    refine hb S1 H1 r σ F _ (x.ext0 g1 f1) ?_
    have y : EP1 (Rep X.K) X W S H F σ Q (((B r).bind fun y => DL.opP (g d1) y).up r) := y
    cases eB : B r with
    | stk => rw [eB] at y; exact y
    | exc c =>
      rw [eB] at y
      exact fun S' H' g' f' => y S' H' F (go_side (g1.trans g') F) ((x.ext0 g1 f1).ext0 g' f')
    | ok d2 =>
      rw [eB] at y
      intro v2 S2 H2 T2 g2 f2 h2
      have y : EP1 (Rep X.K) X W S H F σ Q ((DL.opP (g d1) d2).up r) := y
      unfold DL.opP at y
      split at y
      · rename_i d e
        refine v S2 H2 d1 d2 v1 v2 T1 T2 Q f2.sd (Rep.go g2 f1 d1 v1 T1 (fun _ _ z => nomatch z) h1) h2 ⟨d, e, fun w S3 H3 T3 g3 h3 f3 => ?_⟩
        have x2 := (x.ext0 g1 f1).ext0 g2 f2
        obtain ⟨a1, a2, a3⟩ := own_end (T1 := []) (go_side (g1.trans g2) F) x2 g3 f3
        exact y w S3 H3 F T3 a1 a2 h3 a3
      · exact y.elim
theorem RdP.op {q : R2} {g : D → D → Option D} {ta tb : TE} {A B : Env → PR D} (v : V2 X.K q g) (ha : RdP X W ta A) (hb : RdP X W tb B) :
    RdP X W (tOp q ta tb) (fun r => (A r).bind fun x => (B r).bind fun y => DL.opP (g x) y) := by
  intro S H r σ F Q x y
  refine ha S H r σ F _ x (PP1.bind (Go.refl _ _ _) y fun d1 v1 S1 H1 T1 g1 f1 h1 y1 => ?_)
  refine hb S1 H1 r σ F _ (x.ext0 g1 f1) (PP1.bind g1 y1 fun d2 v2 S2 H2 T2 g2 f2 h2 y2 => ?_)
  obtain ⟨d, e, y3⟩ := opP_some y2
  refine v S2 H2 d1 d2 v1 v2 T1 T2 Q f2.sd (Rep.go g2 f1 d1 v1 T1 (fun _ _ z => nomatch z) h1) h2 ⟨d, e, fun w S3 H3 T3 g3 h3 f3 => ?_⟩
  have f3' : Ft S3 H3 [] := Ft.nil f3.sd
  exact y3 w S3 H3 T3 ((g1.trans g2).trans (g3.sub fun _ z => nomatch z)) f3' h3

theorem RdR.ofE {t : TE} {E : Env → Res D} (h : RdE X W t E) : RdR X W t E := fun S H r σ F Q x y => h S H r σ F Q x (EP1.read y)
theorem RdR.ofP {t : TE} {P : Env → PR D} (h : RdP X W t P) : RdR X W t (fun r => (P r).up r) := fun S H r σ F Q x y => h S H r σ F Q x (PP1.read x y)
/-- a unary operator on what is read at once -/
theorem RdE.un {q : V → Hp → VK → Prop} {g : D → Option D} {ta : TE} {A : Env → Res D} (v : V1 X.K q g) (ha : RdR X W ta A) : RdE X W (tUn q ta) (fun r => (A r).bind (opE g)) := by
  intro S H r σ F Q x y
  refine ha S H r σ F _ x (EP1.bindR (Go.refl _ _ _) y fun d1 r1 v1 S1 H1 F1 T1 g1 x1 h1 y1 => ?_)
  obtain ⟨d, e, y3⟩ := opE_some y1
  refine v S1 H1 d1 v1 T1 Q x1.ft.sd h1 ⟨d, e, fun w S3 H3 T3 g3 h3 f3 => ?_⟩
  obtain ⟨a1, a2, a3⟩ := own_end (T1 := []) (by simpa using g1) x1 g3 f3
  exact y3 w S3 H3 F1 T3 a1 a2 h3 a3
theorem RdP.un {q : V → Hp → VK → Prop} {g : D → Option D} {ta : TE} {A : Env → PR D} (v : V1 X.K q g) (ha : RdP X W ta A) : RdP X W (tUn q ta) (fun r => (A r).bind (DL.opP g)) := by
  intro S H r σ F Q x y
  refine ha S H r σ F _ x (PP1.bind (Go.refl _ _ _) y fun d1 v1 S1 H1 T1 g1 f1 h1 y1 => ?_)
  obtain ⟨d, e, y3⟩ := opP_some y1
  refine v S1 H1 d1 v1 T1 Q f1.sd h1 ⟨d, e, fun w S3 H3 T3 g3 h3 f3 => ?_⟩
  exact y3 w S3 H3 T3 (g1.trans (g3.sub fun _ z => nomatch z)) (Ft.nil f3.sd) h3
/-- a part of a thing: by a pure index, pure; shared where it goes on -/
theorem RdP.part {q : R2} {g : D → D → Option D} {ta tb : TE} {A B : Env → PR D} (v : VB2 X.K q g) (ha : RdP X W ta A) (hb : RdP X W tb B) :
    RdP X W (tOp q ta tb) (fun r => (A r).bind fun x => (B r).bind fun y => DL.opP (g x) y) := by
  intro S H r σ F Q x y
  refine ha S H r σ F _ x (PP1.bind (Go.refl _ _ _) y fun d1 v1 S1 H1 T1 g1 f1 h1 y1 => ?_)
  refine hb S1 H1 r σ F _ (x.ext0 g1 f1) (PP1.bind g1 y1 fun d2 v2 S2 H2 T2 g2 f2 h2 y2 => ?_)
  obtain ⟨d, e, y3⟩ := opP_some y2
  exact v S2 H2 d1 d2 v1 v2 T1 T2 Q f2.sd (Rep.go g2 f1 d1 v1 T1 (fun _ _ z => nomatch z) h1) h2 ⟨d, e, fun w T3 h3 _ => y3 w S2 H2 T3 (g1.trans g2) f2 h3⟩
/-- .. of something just made, the index any -/
theorem RdE.part {q : R2} {g : D → D → Option D} {ta tb : TE} {A B : Env → Res D} (v : VB2 X.K q g) (ha : RdE X W ta A) (hb : RdE X W tb B) :
    RdE X W (tOp q ta tb) (fun r => (A r).bind fun x r1 => (B r1).bind fun y r2 => (opE (g x) y r2).bind shO) := by
  intro S H r σ F Q x y
  refine ha S H r σ F _ x (EP1.bind (Go.refl _ _ _) y fun d1 r1 v1 S1 H1 F1 T1 g1 x1 h1 f1 y1 => ?_)
  refine hb S1 H1 r1 σ F1 _ x1 (EP1.bind (g1.sub fun c z => List.mem_append_right _ z) y1 fun d2 r2 v2 S2 H2 F2 T2 g2 x2 h2 f2 y2 => ?_)
  unfold opE at y2
  split at y2
  · rename_i d e
    have y2 : EP1 (Rep X.K) X W S H F σ Q (shO d r2) := y2
    unfold shO at y2
    by_cases hs : d.sh = true
    · rw [if_pos hs] at y2
      refine v S2 H2 d1 d2 v1 v2 T1 T2 Q x2.ft.sd (Rep.go g2 x1.ft d1 v1 T1 f1.apart h1) h2 ⟨d, e, fun w T3 h3 _ => ?_⟩
      have eT : T3 = [] := Rep.sh d w T3 hs h3
      subst eT
      exact y2 w S2 H2 F2 [] ((g1.sub (F2 := F1) fun c z => List.mem_append_right _ z).trans (g2.sub fun c z => List.mem_append_right _ z)) x2 h3 x2.ft
    · rw [if_neg hs] at y2
      exact y2.elim
  · exact y2.elim
/-- a bool as a test -/
def asB (d : D) (r : Env) : Res Bool := match d with
  | .bl b => .ok b r
  | _ => .stk
theorem RdT.of {t : TE} {E : Env → Res D} (h : RdR X W t E) : RdT X W (tTest t) (fun r => (E r).bind asB) := by
  intro S H r σ F Q x y
  refine h S H r σ F _ x (EP1.bindR (Go.refl _ _ _) y fun d r1 v S1 H1 F1 T1 g1 x1 h1 y1 => ?_)
  cases d with
  | bl b => exact ⟨b, h1.1, y1 b S1 H1 F1 [] (by simpa using g1) x1 ⟨rfl, rfl⟩ (by simpa using x1.ft)⟩
  | _ => exact False.elim y1
end

/-! ### the operators -/
section
variable {X : Cx} {W : WT} {K : PySem.W.Frag} {S : Addr → Prop} {H : Hp} {T : Fp}
theorem Rep.int_of {i : Int} {v : V} (h : Rep K S H (.int i) v T) : v = .int i := h.1
theorem v2_int {C : Int → Int → Prop} [∀ i j, Decidable (C i j)] {g : Int → Int → Int} : V2 K (rI C fun i j => .int (g i j)) (fun a b => match a, b with | .int i, .int j => if C i j then some (.int (g i j)) else none | _, _ => none) := by
  intro S H d1 d2 v1 v2 T1 T2 Q sd h1 h2 ⟨d, e, k⟩
  cases d1 <;> first | (cases e; done) | skip
  cases d2 <;> first | (cases e; done) | skip
  rename_i i j
  dsimp only at e
  by_cases c : C i j
  · rw [if_pos c] at e
    cases e
    exact ⟨i, j, h1.1, h2.1, c, k (.int (g i j)) S H [] (.refl _ _ _) ⟨rfl, rfl⟩ (Ft.nil sd)⟩
  · rw [if_neg c] at e
    cases e
theorem v2_int0 {g : Int → Int → Int} : V2 K (rI0 fun i j => .int (g i j)) (fun a b => match a, b with | .int i, .int j => some (.int (g i j)) | _, _ => none) := by
  intro S H d1 d2 v1 v2 T1 T2 Q sd h1 h2 ⟨d, e, k⟩
  cases d1 <;> first | (cases e; done) | skip
  cases d2 <;> first | (cases e; done) | skip
  rename_i i j
  cases e
  exact ⟨i, j, h1.1, h2.1, k (.int (g i j)) S H [] (.refl _ _ _) ⟨rfl, rfl⟩ (Ft.nil sd)⟩
theorem v2_cmp0 {g : Int → Int → Bool} : V2 K (rI0 fun i j => .bl (g i j)) (fun a b => match a, b with | .int i, .int j => some (.bl (g i j)) | _, _ => none) := by
  intro S H d1 d2 v1 v2 T1 T2 Q sd h1 h2 ⟨d, e, k⟩
  cases d1 <;> first | (cases e; done) | skip
  cases d2 <;> first | (cases e; done) | skip
  rename_i i j
  cases e
  exact ⟨i, j, h1.1, h2.1, k (.bl (g i j)) S H [] (.refl _ _ _) ⟨rfl, rfl⟩ (Ft.nil sd)⟩
theorem V2.or {q q' : R2} {g : D → D → Option D} {g' : D → D → Option D} (h : V2 K q g) (h' : V2 K q' g') : V2 K (fun x y H Q => q x y H Q ∨ q' x y H Q) (fun a b => (g a b).or (g' a b)) := by
  intro S H d1 d2 v1 v2 T1 T2 Q sd h1 h2 ⟨d, e, k⟩
  dsimp only at e
  cases eg : g d1 d2 with
  | some z => rw [eg] at e; cases e; exact .inl (h S H d1 d2 v1 v2 T1 T2 Q sd h1 h2 ⟨_, eg, k⟩)
  | none => rw [eg] at e; exact .inr (h' S H d1 d2 v1 v2 T1 T2 Q sd h1 h2 ⟨d, e, k⟩)
/-- .. or any function that agrees -/
theorem V2.imp {q : R2} {g g' : D → D → Option D} (h : V2 K q g) (a : ∀ x y d, g' x y = some d → g x y = some d) : V2 K q g' := fun S H d1 d2 v1 v2 T1 T2 Q sd h1 h2 ⟨d, e, k⟩ => h S H d1 d2 v1 v2 T1 T2 Q sd h1 h2 ⟨d, a _ _ _ e, k⟩

instance : ∀ i j, Decidable (CMul i j) := fun i j => by unfold CMul; infer_instance
instance : ∀ i j, Decidable (CDiv i j) := fun i j => by unfold CDiv; infer_instance
instance : ∀ i j, Decidable (CPow i j) := fun i j => by unfold CPow; infer_instance

/-- new objects -/
theorem go_new {H : Hp} {p : Addr} {o : HO} (sd : ∀ a, S a → H a ≠ none) (h : H p = none) (F' : Fp) (hF : ∀ a ∈ F', a = p) : Go S H [] S (upd H p o) F' := by
  refine .mk' (fun _ h => h) (fun a u e _ => ?_) (fun a e => ?_) (fun a z => ?_) (fun a z => .inl z) (fun _ z => nomatch z)
  · rw [upd_ne (ne_of_none e h)]; exact e
  · by_cases z : a = p
    · subst z; exact absurd h e
    · rw [upd_ne z]; exact e
  · rw [hF a z]; exact .inr h
theorem sd_new {H : Hp} {p : Addr} {o : HO} (sd : ∀ a, S a → H a ≠ none) : ∀ a, S a → (upd H p o) a ≠ none := fun a z => by
  by_cases e : a = p
  · subst e; rw [upd_same]; simp
  · rw [upd_ne e]; exact sd a z
theorem ft_new {H : Hp} {p : Addr} {xs : List V} (sd : ∀ a, S a → H a ≠ none) (h : H p = none) : Ft S (upd H p (.lst xs)) [p] := by
  refine ⟨by simp, fun a z q => ?_, fun a z => ?_, sd_new sd⟩
  · have : a = p := by simpa using z
    subst this
    exact sd a q h
  · have : a = p := by simpa using z
    subst this
    rw [upd_same]; trivial
/-- a new tuple of shared things -/
theorem rep_tup {H : Hp} {p : Addr} {ds : List D} {vs : List V} {T : Fp} (sd : ∀ a, S a → H a ≠ none) (h : H p = none) (r : RepL K S H ds vs T) : Rep K S (upd H p (.tup vs)) (.tup ds) (.ref p) T :=
  ⟨p, vs, rfl, upd_same, RepL.go (go_new (F' := []) sd h (fun _ z => nomatch z)) (Ft.nil sd) ds vs T (fun _ _ z => nomatch z) r⟩
theorem rep_lst {H : Hp} {p : Addr} {ds : List D} {vs : List V} {T : Fp} (sd : ∀ a, S a → H a ≠ none) (h : H p = none) (r : RepL K S H ds vs T) : Rep K S (upd H p (.lst vs)) (.lst true ds) (.ref p) (p :: T) :=
  ⟨p, vs, T, rfl, upd_same, rfl, RepL.go (go_new (F' := []) sd h (fun _ z => nomatch z)) (Ft.nil sd) ds vs T (fun _ _ z => nomatch z) r⟩
/-- + -/
def dAdd : D → D → Option D
  | .int i, .int j => some (.int (i + j))
  | .str x, .str y => if x.length + y.length ≤ sizeLine then some (.str (x ++ y)) else none
  | .tup xs, .tup ys => if D.shL xs = true ∧ D.shL ys = true ∧ xs.length + ys.length ≤ sizeLine then some (.tup (xs ++ ys)) else none
  | .lst _ xs, .lst _ ys => if D.shL xs = true ∧ D.shL ys = true ∧ xs.length + ys.length ≤ sizeLine then some (.lst true (xs ++ ys)) else none
  | _, _ => none
theorem Rep.lst_at {o : Bool} {ds : List D} {v : V} {T : Fp} (h : Rep K S H (.lst o ds) v T) (hs : D.shL ds = true) : ∃ a vs, v = .ref a ∧ H a = some (.lst vs) ∧ RepL K S H ds vs [] := by
  cases o with
  | true =>
    obtain ⟨a, vs, G, e1, e2, e3, r⟩ := h
    have : G = [] := RepL.sh ds vs G hs r
    subst this
    exact ⟨a, vs, e1, e2, r⟩
  | false =>
    obtain ⟨_, a, vs, e1, e2, r⟩ := h
    exact ⟨a, vs, e1, e2.1, r⟩
theorem Rep.tup_at {ds : List D} {v : V} {T : Fp} (h : Rep K S H (.tup ds) v T) (hs : D.shL ds = true) : ∃ a vs, v = .ref a ∧ H a = some (.tup vs) ∧ RepL K S H ds vs [] := by
  obtain ⟨a, vs, e1, e2, r⟩ := h
  have : T = [] := RepL.sh ds vs T hs r
  subst this
  exact ⟨a, vs, e1, e2, r⟩
def rAddA (K : PySem.W.Frag) : R2 := fun x y H Q => ((rI0 fun i j => .int (i + j)) x y H Q ∨ (∃ i j, x = V.str i ∧ y = V.str j ∧ i.length + j.length ≤ sizeLine ∧ Q (.str (i ++ j)) H)) ∨ (rCatA K x y H Q ∨ rCat x y H Q)
theorem op_addA : OpR X (binaryOp .Add) (rAddA X.K) := (op_add.or op_add_str).or (op_catA.or op_cat)
theorem v2_add : V2 K (rAddA K) dAdd := by
  intro S H d1 d2 v1 v2 T1 T2 Q sd h1 h2 ⟨d, e, k⟩
  unfold dAdd at e
  split at e
  · rename_i i j
    cases e
    exact .inl (.inl ⟨i, j, h1.1, h2.1, k _ S H [] (.refl _ _ _) ⟨rfl, rfl⟩ (Ft.nil sd)⟩)
  · rename_i i j
    split at e
    · rename_i c
      cases e
      exact .inl (.inr ⟨i, j, h1.1, h2.1, c, k _ S H [] (.refl _ _ _) ⟨rfl, rfl⟩ (Ft.nil sd)⟩)
    · cases e
  · rename_i xs ys
    split at e
    · rename_i c
      cases e
      obtain ⟨c1, c2, c3⟩ := c
      obtain ⟨a, vs, rfl, q1, r1⟩ := h1.tup_at c1
      obtain ⟨b, ws, rfl, q2, r2⟩ := h2.tup_at c2
      refine .inr (.inl ⟨a, b, vs, ws, rfl, rfl, q1, q2, ?_, fun e => ?_, fun _ e => ?_, fun _ _ p hp => ?_⟩)
      · rw [← r1.len, ← r2.len]; exact c3
      · subst e
        have e1 : xs = [] := List.eq_nil_of_length_eq_zero (by have := r1.len; simpa using this)
        subst e1
        exact k _ S H [] (.refl _ _ _) ⟨b, ws, rfl, q2, by simpa using r2⟩ (Ft.nil sd)
      · subst e
        have e1 : ys = [] := List.eq_nil_of_length_eq_zero (by have := r2.len; simpa using this)
        subst e1
        exact k _ S H [] (.refl _ _ _) ⟨a, vs, rfl, q1, by simpa using r1⟩ (Ft.nil sd)
      · exact k _ S _ [] (go_new sd hp [] (fun _ z => nomatch z)) (rep_tup sd hp (r1.append r2)) (Ft.nil (sd_new sd))
    · cases e
  · rename_i o1 xs o2 ys
    split at e
    · rename_i c
      cases e
      obtain ⟨c1, c2, c3⟩ := c
      obtain ⟨a, vs, rfl, q1, r1⟩ := h1.lst_at c1
      obtain ⟨b, ws, rfl, q2, r2⟩ := h2.lst_at c2
      refine .inr (.inr ⟨a, b, vs, ws, rfl, rfl, q1, q2, ?_, fun p hp => ?_⟩)
      · rw [← r1.len, ← r2.len]; exact c3
      · exact k _ S _ [p] (go_new sd hp [p] (fun a z => by simpa using z)) (rep_lst sd hp (r1.append r2)) (ft_new sd hp)
    · cases e
  · cases e
def dSub : D → D → Option D
  | .int i, .int j => some (.int (i - j))
  | _, _ => none
theorem v2_sub : V2 K (rI0 fun i j => .int (i - j)) dSub := v2_int0.imp fun x y d e => by cases x <;> cases y <;> first | exact e | cases e
def dMul : D → D → Option D
  | .int i, .int j => if CMul i j then some (.int (i * j)) else none
  | _, _ => none
theorem v2_mul : V2 K (rI CMul fun i j => .int (i * j)) dMul := v2_int.imp fun x y d e => by cases x <;> cases y <;> first | exact e | cases e
def dFdiv : D → D → Option D
  | .int i, .int j => if CDiv i j then some (.int (i / j)) else none
  | _, _ => none
theorem v2_fdiv : V2 K (rI CDiv fun i j => .int (i / j)) dFdiv := v2_int.imp fun x y d e => by cases x <;> cases y <;> first | exact e | cases e
def dMod : D → D → Option D
  | .int i, .int j => if 0 < j then some (.int (i % j)) else none
  | _, _ => none
theorem v2_mod : V2 K (rI (fun _ j => 0 < j) fun i j => .int (i % j)) dMod := v2_int.imp fun x y d e => by cases x <;> cases y <;> first | exact e | cases e
def dPow : D → D → Option D
  | .int i, .int j => if CPow i j then some (.int (i ^ j.toNat)) else none
  | _, _ => none
theorem v2_pow : V2 K (rI CPow fun i j => .int (i ^ j.toNat)) dPow := v2_int.imp fun x y d e => by cases x <;> cases y <;> first | exact e | cases e
def dShl : D → D → Option D
  | .int i, .int j => if CPow i j then some (.int (i * 2 ^ j.toNat)) else none
  | _, _ => none
theorem v2_shl : V2 K (rI CPow fun i j => .int (i * 2 ^ j.toNat)) dShl := v2_int.imp fun x y d e => by cases x <;> cases y <;> first | exact e | cases e
def dShr : D → D → Option D
  | .int i, .int j => if 0 ≤ j then some (.int (i / 2 ^ j.toNat)) else none
  | _, _ => none
theorem v2_shr : V2 K (rI (fun _ j => 0 ≤ j) fun i j => .int (i / 2 ^ j.toNat)) dShr := v2_int.imp fun x y d e => by cases x <;> cases y <;> first | exact e | cases e
def dLt : D → D → Option D
  | .int i, .int j => some (.bl (decide (i < j)))
  | _, _ => none
theorem v2_lt : V2 K (rI0 fun i j => .bl (decide (i < j))) dLt := v2_cmp0.imp fun x y d e => by cases x <;> cases y <;> first | exact e | cases e
def dLe : D → D → Option D
  | .int i, .int j => some (.bl (decide (i ≤ j)))
  | _, _ => none
theorem v2_le : V2 K (rI0 fun i j => .bl (decide (i ≤ j))) dLe := v2_cmp0.imp fun x y d e => by cases x <;> cases y <;> first | exact e | cases e
def dGt : D → D → Option D
  | .int i, .int j => some (.bl (decide (j < i)))
  | _, _ => none
theorem v2_gt : V2 K (rI0 fun i j => .bl (decide (j < i))) dGt := v2_cmp0.imp fun x y d e => by cases x <;> cases y <;> first | exact e | cases e
def dGe : D → D → Option D
  | .int i, .int j => some (.bl (decide (j ≤ i)))
  | _, _ => none
theorem v2_ge : V2 K (rI0 fun i j => .bl (decide (j ≤ i))) dGe := v2_cmp0.imp fun x y d e => by cases x <;> cases y <;> first | exact e | cases e
def dNeg : D → Option D
  | .int i => some (.int (-i))
  | _ => none
theorem v1_neg : V1 K (rU fun i => .int (-i)) dNeg := by
  intro S H d1 v1 T1 Q sd h1 ⟨d, e, k⟩
  cases d1 <;> first | (cases e; done) | skip
  rename_i i
  cases e
  exact ⟨i, h1.1, k (.int (-i)) S H [] (.refl _ _ _) ⟨rfl, rfl⟩ (Ft.nil sd)⟩
end
end DL

/-! DEq: ==, !=, in, is None; subscripts, len and its like. -/
namespace DL
open PySem PySem.Spec PyProof.Rows L2
/-! ### == by worth -/
mutual
def D.eqv : D → D → Bool
  | .non, .non => true
  | .bl a, .bl b => a == b
  | .bl a, .int j => (if a then 1 else 0) == j
  | .int i, .bl b => i == (if b then 1 else 0)
  | .int i, .int j => i == j
  | .str x, .str y => x == y
  | .lst _ xs, .lst _ ys => D.eqvL xs ys
  | .tup xs, .tup ys => D.eqvL xs ys
  | _, _ => false
def D.eqvL : List D → List D → Bool
  | [], [] => true
  | x :: xs, y :: ys => D.eqv x y && D.eqvL xs ys
  | _, _ => false
end
mutual
/-- how deep; no script, no exception within -/
def D.dep : D → Nat
  | .tup ds => D.depL ds + 1
  | .lst _ ds => D.depL ds + 1
  | .scr _ => 100
  | .exc _ => 100
  | .dic _ _ _ _ => 100
  | .str x => if PyData.strOk x = true then 0 else 100
  | _ => 0
def D.depL : List D → Nat
  | [] => 0
  | d :: ds => max (D.dep d) (D.depL ds)
end
mutual
def D.py : D → PyData
  | .non => .none
  | .bl b => .bool b
  | .int i => .int i
  | .str x => .str x
  | .tup ds => .tuple (D.pyL ds)
  | .lst _ ds => .list (D.pyL ds)
  | .scr _ => .none
  | .exc _ => .none
  | .dic _ _ _ _ => .none
def D.pyL : List D → List PyData
  | [] => []
  | d :: ds => D.py d :: D.pyL ds
end
section
variable {K : PySem.W.Frag} {S : Addr → Prop} {H : Hp} {T : Fp}
theorem D.dep_str {x : Str} (h : (D.str x).dep < 100) : PyData.strOk x = true ∧ (D.str x).dep = 0 := by
  unfold D.dep at h ⊢
  by_cases c : PyData.strOk x = true
  · rw [if_pos c]; exact ⟨c, rfl⟩
  · rw [if_neg c] at h; omega
mutual
theorem D.dep_py : ∀ d : D, d.dep < 100 → d.py.depth = d.dep
  | .non, _ => rfl
  | .bl _, _ => rfl
  | .int _, _ => rfl
  | .str _, h => by rw [(D.dep_str h).2]; rfl
  | .tup ds, h => by simp only [D.py, D.dep, PyData.depth] at h ⊢; rw [D.depL_py ds (by omega)]
  | .lst _ ds, h => by simp only [D.py, D.dep, PyData.depth] at h ⊢; rw [D.depL_py ds (by omega)]
  | .scr _, h => by simp [D.dep] at h
  | .exc _, h => by simp [D.dep] at h
  | .dic _ _ _ _, h => by simp [D.dep] at h
theorem D.depL_py : ∀ ds : List D, D.depL ds < 100 → PyData.depthAll (D.pyL ds) = D.depL ds
  | [], _ => rfl
  | d :: ds, h => by simp only [D.pyL, D.depL, PyData.depthAll] at h ⊢; rw [D.dep_py d (by omega), D.depL_py ds (by omega)]
end
mutual
theorem D.lay_py : ∀ d : D, d.dep < 100 → d.py.canLay0 = true
  | .non, _ => rfl
  | .bl _, _ => rfl
  | .int _, _ => rfl
  | .str _, h => (D.dep_str h).1
  | .tup ds, h => by simp only [D.py, PyData.canLay0]; exact D.layL_py ds (by simp only [D.dep] at h; omega)
  | .lst _ ds, h => by simp only [D.py, PyData.canLay0]; exact D.layL_py ds (by simp only [D.dep] at h; omega)
  | .scr _, _ => rfl
  | .exc _, _ => rfl
  | .dic _ _ _ _, _ => rfl
theorem D.layL_py : ∀ ds : List D, D.depL ds < 100 → PyData.canLayAll0 (D.pyL ds) = true
  | [], _ => rfl
  | d :: ds, h => by simp only [D.depL] at h; simp only [D.pyL, PyData.canLayAll0, D.lay_py d (by omega), D.layL_py ds (by omega), Bool.and_self]
end
mutual
theorem D.eqv_py : ∀ a b : D, a.dep < 100 → b.dep < 100 → PyData.eqv a.py b.py = D.eqv a b
  | .tup xs, b, h, h' => by
    cases b <;> first | (simp only [D.py, PyData.eqv, D.eqv]; done) | skip
    · rename_i ys
      simp only [D.dep] at h h'
      simp only [D.py, PyData.eqv, D.eqv]
      exact D.eqvL_py xs ys (by omega) (by omega)
    all_goals simp [D.dep] at h'
  | .lst o xs, b, h, h' => by
    cases b <;> first | (simp only [D.py, PyData.eqv, D.eqv]; done) | skip
    · rename_i o' ys
      simp only [D.dep] at h h'
      simp only [D.py, PyData.eqv, D.eqv]
      exact D.eqvL_py xs ys (by omega) (by omega)
    all_goals simp [D.dep] at h'
  | .scr _, b, h, _ => by simp [D.dep] at h
  | .exc _, b, h, _ => by simp [D.dep] at h
  | .dic _ _ _ _, b, h, _ => by simp [D.dep] at h
  | .non, b, _, h' => by cases b <;> first | (simp only [D.py, PyData.eqv, D.eqv]; done) | simp [D.dep] at h'
  | .bl x, b, _, h' => by cases b <;> first | (simp only [D.py, PyData.eqv, D.eqv]; done) | simp [D.dep] at h'
  | .int x, b, _, h' => by cases b <;> first | (simp only [D.py, PyData.eqv, D.eqv]; done) | simp [D.dep] at h'
  | .str x, b, _, h' => by cases b <;> first | (simp only [D.py, PyData.eqv, D.eqv]; done) | simp [D.dep] at h'
theorem D.eqvL_py : ∀ xs ys : List D, D.depL xs < 100 → D.depL ys < 100 → PyData.eqvAll (D.pyL xs) (D.pyL ys) = D.eqvL xs ys
  | [], [], _, _ => rfl
  | [], _ :: _, _, _ => rfl
  | _ :: _, [], _, _ => rfl
  | x :: xs, y :: ys, h, h' => by
    simp only [D.depL] at h h'
    simp only [D.pyL, PyData.eqvAll, D.eqvL]
    rw [D.eqv_py x y (by omega) (by omega), D.eqvL_py xs ys (by omega) (by omega)]
end
mutual
theorem Rep.dp : ∀ (d : D) (v : V) (T : Fp), d.dep < 100 → Rep K S H d v T → Dp K H v d.py
  | .non, _, _, _, h => by rw [h.1]; exact .non
  | .bl b, _, _, _, h => by rw [h.1]; exact .bl b
  | .int i, _, _, _, h => by rw [h.1]; exact .int i
  | .str x, _, _, _, h => by rw [h.1]; exact .str x
  | .tup ds, v, T, n, h => by
    obtain ⟨a, vs, e, q, r⟩ := h
    subst e
    simp only [D.dep] at n
    exact .tup q (RepL.dp ds vs T (by omega) r)
  | .lst true ds, v, T, n, h => by
    obtain ⟨a, vs, G, e, q, e2, r⟩ := h
    subst e
    simp only [D.dep] at n
    exact .lst (.inl (.inl q)) (RepL.dp ds vs G (by omega) r)
  | .lst false ds, v, T, n, h => by
    obtain ⟨_, a, vs, e, q, r⟩ := h
    subst e
    simp only [D.dep] at n
    exact .lst q.read (RepL.dp ds vs [] (by omega) r)
  | .scr _, _, _, n, _ => by simp [D.dep] at n
  | .exc _, _, _, n, _ => by simp [D.dep] at n
  | .dic _ _ _ _, _, _, n, _ => by simp [D.dep] at n
theorem RepL.dp : ∀ (ds : List D) (vs : List V) (T : Fp), D.depL ds < 100 → RepL K S H ds vs T → DpAll K H vs (D.pyL ds)
  | [], _, _, _, h => by rw [h.1]; exact .nil
  | d :: ds, vs, T, n, h => by
    obtain ⟨v, r, F1, F2, e1, e2, h1, h2⟩ := h
    subst e1
    simp only [D.depL] at n
    exact .cons (Rep.dp d v F1 (by omega) h1) (RepL.dp ds r F2 (by omega) h2)
end
theorem shaped_py {d : D} (h : d.dep ≤ 64) : SeqAt.shaped d.py = true := by
  show (d.py.canLay0 && decide (d.py.depth ≤ 64)) = true
  rw [D.lay_py d (by omega), D.dep_py d (by omega), decide_eq_true h]
  rfl
/-- plain ones are asked at once -/
def D.pl : D → D → Bool
  | .str _, .str _ => true
  | .str _, .int _ => true
  | .str _, .non => true
  | .str _, .bl _ => true
  | .int _, .str _ => true
  | .non, .str _ => true
  | .bl _, .str _ => true
  | _, _ => false
def dEq (a b : D) : Option D := if D.pl a b = true ∨ (a.dep ≤ 64 ∧ b.dep ≤ 64) then some (.bl (D.eqv a b)) else none
def dNe (a b : D) : Option D := if D.pl a b = true ∨ (a.dep ≤ 64 ∧ b.dep ≤ 64) then some (.bl (!D.eqv a b)) else none
def rEqA (K : PySem.W.Frag) : R2 := fun x y H Q => rEq x y H Q ∨ rEqD K x y H Q
def rNeA (K : PySem.W.Frag) : R2 := fun x y H Q => rNe x y H Q ∨ rNeD K x y H Q
theorem op_eqA {X : Cx} (hu : X.A.units + 64 < cLine) : OpR X (compareOp .Eq) (rEqA X.K) := op_eq.or (op_eqD hu)
theorem op_neA {X : Cx} (hu : X.A.units + 64 < cLine) : OpR X (compareOp .NotEq) (rNeA X.K) := op_ne.or (op_neD hu)
theorem pl_scal {a b : D} {v w : V} {T1 T2 : Fp} (c : D.pl a b = true) (h1 : Rep K S H a v T1) (h2 : Rep K S H b w T2) : scal v w = true ∧ decide (v = w) = D.eqv a b := by
  cases a <;> cases b <;> first | (cases c; done) | skip
  all_goals (rw [h1.1, h2.1]; refine ⟨rfl, ?_⟩)
  all_goals first
    | (simp only [D.eqv]; exact decide_eq_false (fun e => nomatch e))
    | (simp only [D.eqv]; exact dec_str)
theorem v2_eq : V2 K (rEqA K) dEq := by
  intro S H d1 d2 v1 v2 T1 T2 Q sd h1 h2 ⟨d, e, k⟩
  unfold dEq at e
  split at e
  · rename_i c
    cases e
    rcases c with c | c
    · obtain ⟨q1, q2⟩ := pl_scal c h1 h2
      refine .inl ⟨q1, ?_⟩
      rw [q2]
      exact k _ S H [] (.refl _ _ _) ⟨rfl, rfl⟩ (Ft.nil sd)
    · refine .inr ⟨d1.py, d2.py, Rep.dp d1 v1 T1 (by omega) h1, Rep.dp d2 v2 T2 (by omega) h2, shaped_py c.1, shaped_py c.2, ?_⟩
      rw [D.eqv_py d1 d2 (by omega) (by omega)]
      exact k _ S H [] (.refl _ _ _) ⟨rfl, rfl⟩ (Ft.nil sd)
  · cases e
theorem v2_ne : V2 K (rNeA K) dNe := by
  intro S H d1 d2 v1 v2 T1 T2 Q sd h1 h2 ⟨d, e, k⟩
  unfold dNe at e
  split at e
  · rename_i c
    cases e
    rcases c with c | c
    · obtain ⟨q1, q2⟩ := pl_scal c h1 h2
      refine .inl ⟨q1, ?_⟩
      rw [q2]
      exact k _ S H [] (.refl _ _ _) ⟨rfl, rfl⟩ (Ft.nil sd)
    · refine .inr ⟨d1.py, d2.py, Rep.dp d1 v1 T1 (by omega) h1, Rep.dp d2 v2 T2 (by omega) h2, shaped_py c.1, shaped_py c.2, ?_⟩
      rw [D.eqv_py d1 d2 (by omega) (by omega)]
      exact k _ S H [] (.refl _ _ _) ⟨rfl, rfl⟩ (Ft.nil sd)
  · cases e
/-- is None, is not None -/
def dIsN : D → D → Option D
  | .non, .non => some (.bl true)
  | .exc _, _ => none
  | _, .non => some (.bl false)
  | _, _ => none
def dIsNot : D → D → Option D
  | .non, .non => some (.bl false)
  | .exc _, _ => none
  | _, .non => some (.bl true)
  | _, _ => none
theorem Rep.ne_non {d : D} {v : V} (h : Rep K S H d v T) (n : d ≠ .non) : decide (v = V.non) = false := by
  refine decide_eq_false fun e => ?_
  subst e
  cases d with
  | non => exact n rfl
  | bl b => exact nomatch h.1
  | int b => exact nomatch h.1
  | str b => exact nomatch h.1
  | tup ds => obtain ⟨a, vs, e, _⟩ := h; cases e
  | lst o ds => cases o with
    | true => obtain ⟨a, vs, G, e, _⟩ := h; cases e
    | false => obtain ⟨_, a, vs, e, _⟩ := h; cases e
  | scr ns => obtain ⟨_, a, e, _⟩ := h; cases e
  | exc c => exact h
  | dic o t ks vs => cases o with
    | true => obtain ⟨_, _, a, vs, G, e, _⟩ := h; cases e
    | false => obtain ⟨_, _, _, a, vs, e, _⟩ := h; cases e
theorem v2_isN : V2 K (fun x y H Q => y = .non ∧ Q (.bl (decide (x = .non))) H) dIsN := by
  intro S H d1 d2 v1 v2 T1 T2 Q sd h1 h2 ⟨d, e, k⟩
  have key : d2 = .non ∧ ((d1 = .non ∧ d = .bl true) ∨ (d1 ≠ .non ∧ d = .bl false)) := by
    cases d1 <;> cases d2 <;> first | (cases e; done) | (cases e; exact ⟨rfl, .inl ⟨rfl, rfl⟩⟩) | (cases e; exact ⟨rfl, .inr ⟨(fun z => nomatch z), rfl⟩⟩)
  obtain ⟨rfl, ⟨rfl, rfl⟩ | ⟨n, rfl⟩⟩ := key
  · refine ⟨h2.1, ?_⟩
    rw [h1.1]
    exact k _ S H [] (.refl _ _ _) ⟨rfl, rfl⟩ (Ft.nil sd)
  · refine ⟨h2.1, ?_⟩
    rw [h1.ne_non n]
    exact k _ S H [] (.refl _ _ _) ⟨rfl, rfl⟩ (Ft.nil sd)
theorem v2_isNot : V2 K (fun x y H Q => y = .non ∧ Q (.bl (!decide (x = .non))) H) dIsNot := by
  intro S H d1 d2 v1 v2 T1 T2 Q sd h1 h2 ⟨d, e, k⟩
  have key : d2 = .non ∧ ((d1 = .non ∧ d = .bl false) ∨ (d1 ≠ .non ∧ d = .bl true)) := by
    cases d1 <;> cases d2 <;> first | (cases e; done) | (cases e; exact ⟨rfl, .inl ⟨rfl, rfl⟩⟩) | (cases e; exact ⟨rfl, .inr ⟨(fun z => nomatch z), rfl⟩⟩)
  obtain ⟨rfl, ⟨rfl, rfl⟩ | ⟨n, rfl⟩⟩ := key
  · refine ⟨h2.1, ?_⟩
    rw [h1.1]
    exact k _ S H [] (.refl _ _ _) ⟨rfl, rfl⟩ (Ft.nil sd)
  · refine ⟨h2.1, ?_⟩
    rw [h1.ne_non n]
    exact k _ S H [] (.refl _ _ _) ⟨rfl, rfl⟩ (Ft.nil sd)

/-! ### subscripts -/
def dIx : D → D → Option D
  | .lst _ ds, .int i => atI ds i
  | .tup ds, .int i => atI ds i
  | .scr ns, .int i => (atI ns i).map .int
  | .str z, .int i => if z.length ≤ sizeLine then (atI z.cps.toList i).map fun c => .str ⟨#[c]⟩ else none
  | _, _ => none
theorem RepL.atI {ds : List D} {vs : List V} {i : Int} {d : D} (h : RepL K S H ds vs T) (e : L2.atI ds i = some d) : ∃ v G, L2.atI vs i = some v ∧ Rep K S H d v G ∧ ∀ a ∈ G, a ∈ T := by
  unfold L2.atI at e ⊢
  rw [← h.len]
  cases q : ixN ds.length i with
  | none => rw [q] at e; cases e
  | some j =>
    rw [q] at e
    obtain ⟨v, G, h1, h2, h3⟩ := h.get (i := j) e
    exact ⟨v, G, h1, h2, h3⟩
theorem vb_ix : VB2 K (rIx K) dIx := by
  intro S H d1 d2 v1 v2 T1 T2 Q sd h1 h2 ⟨d, e, k⟩
  unfold dIx at e
  split at e
  · rename_i o ds i
    cases o with
    | true =>
      obtain ⟨a, vs, G, e1, e2, e3, r⟩ := h1
      obtain ⟨v, G', q1, q2, q3⟩ := r.atI e
      exact .inl ⟨a, vs, i, v, e1, h2.1, .inl (.inl e2), q1, k v G' q2 fun b z => by rw [e3]; exact List.mem_cons_of_mem _ (q3 b z)⟩
    | false =>
      obtain ⟨e0, a, vs, e1, e2, r⟩ := h1
      obtain ⟨v, G', q1, q2, q3⟩ := r.atI e
      exact .inl ⟨a, vs, i, v, e1, h2.1, e2.read, q1, k v G' q2 fun b z => nomatch q3 b z⟩
  · rename_i ds i
    obtain ⟨a, vs, e1, e2, r⟩ := h1
    obtain ⟨v, G', q1, q2, q3⟩ := r.atI e
    exact .inr (.inl ⟨a, vs, i, v, e1, h2.1, e2, q1, k v G' q2 q3⟩)
  · rename_i ns i
    obtain ⟨e0, a, e1, e2⟩ := h1
    cases q : atI ns i with
    | none => rw [q] at e; cases e
    | some n =>
      rw [q] at e; cases e
      refine .inl ⟨a, ns.map V.int, i, .int n, e1, h2.1, e2.read, ?_, k (.int n) [] ⟨rfl, rfl⟩ fun b z => nomatch z⟩
      unfold atI at q ⊢
      rw [List.length_map]
      cases q2 : ixN ns.length i with
      | none => rw [q2] at q; cases q
      | some j =>
        rw [q2] at q
        show (ns.map V.int)[j]? = some (.int n)
        have q : ns[j]? = some n := q
        rw [List.getElem?_map, q]
        rfl
  · rename_i z i
    split at e
    · rename_i c
      cases q : atI z.cps.toList i with
      | none => rw [q] at e; cases e
      | some n =>
        rw [q] at e; cases e
        exact .inr (.inr ⟨z, i, n, h1.1, h2.1, c, q, k _ [] ⟨rfl, rfl⟩ fun b z => nomatch z⟩)
    · cases e
  · cases e

/-! ### builtins by their arguments -/
def dLen : List D → Option D
  | [.lst _ ds] => some (.int ds.length)
  | [.tup ds] => some (.int ds.length)
  | [.scr ns] => some (.int ns.length)
  | [.str z] => if z.length ≤ sizeLine then some (.int z.length) else none
  | _ => none
theorem vl_len : VL K (fun xs H Q => ∃ x n, xs = [x] ∧ LenV K x H n ∧ Q (.int n) H) dLen := by
  intro S H ds vs T1 Q sd h ⟨d, e, k⟩
  have fin : ∀ n : Nat, d = .int n → Q (.int n) H := fun n e => by subst e; exact k _ S H [] (.refl _ _ _) ⟨rfl, rfl⟩ (Ft.nil sd)
  unfold dLen at e
  split at e
  · rename_i o ds
    obtain ⟨v, r, F1, F2, e1, e2, h1, h2, _⟩ := h
    subst h2 e1
    refine ⟨v, ds.length, rfl, ?_, fin _ (by cases e; rfl)⟩
    cases o with
    | true => obtain ⟨a, vs, G, rfl, q, _, r⟩ := h1; exact .inl ⟨vs, .inl (.inl q), r.len⟩
    | false => obtain ⟨_, a, vs, rfl, q, r⟩ := h1; exact .inl ⟨vs, q.read, r.len⟩
  · rename_i ds
    obtain ⟨v, r, F1, F2, e1, e2, h1, h2, _⟩ := h
    subst h2 e1
    obtain ⟨a, vs, rfl, q, r⟩ := h1
    exact ⟨.ref a, ds.length, rfl, .inr ⟨vs, q, r.len⟩, fin _ (by cases e; rfl)⟩
  · rename_i ns
    obtain ⟨v, r, F1, F2, e1, e2, h1, h2, _⟩ := h
    subst h2 e1
    obtain ⟨_, a, rfl, q⟩ := h1
    exact ⟨.ref a, ns.length, rfl, .inl ⟨_, q.read, by simp⟩, fin _ (by cases e; rfl)⟩
  · rename_i z
    split at e
    · rename_i c
      obtain ⟨v, r, F1, F2, e1, e2, h1, h2, _⟩ := h
      subst h2 e1
      exact ⟨v, z.length, rfl, by rw [h1.1]; exact ⟨c, rfl⟩, fin _ (by cases e; rfl)⟩
    · cases e
  · cases e
def dAbs : List D → Option D
  | [.int i] => some (.int (if i < 0 then -i else i))
  | _ => none
theorem vl_abs : VL K (fun xs H Q => ∃ i, xs = [.int i] ∧ Q (.int (if i < 0 then -i else i)) H) dAbs := by
  intro S H ds vs T1 Q sd h ⟨d, e, k⟩
  unfold dAbs at e
  split at e
  · rename_i i
    cases e
    obtain ⟨v, r, F1, F2, e1, e2, h1, h2, _⟩ := h
    subst h2 e1
    rw [h1.1]
    exact ⟨i, rfl, k _ S H [] (.refl _ _ _) ⟨rfl, rfl⟩ (Ft.nil sd)⟩
  · cases e
def dInt : List D → Option D
  | [.int i] => some (.int i)
  | [.bl b] => some (.int (if b then 1 else 0))
  | _ => none
theorem vl_int : VL K (fun xs H Q => (∃ i, xs = [.int i] ∧ Q (.int i) H) ∨ ∃ k, xs = [.bl k] ∧ Q (.int (if k then 1 else 0)) H) dInt := by
  intro S H ds vs T1 Q sd h ⟨d, e, k⟩
  unfold dInt at e
  split at e
  · rename_i i
    cases e
    obtain ⟨v, r, F1, F2, e1, e2, h1, h2, _⟩ := h
    subst h2 e1
    rw [h1.1]
    exact .inl ⟨i, rfl, k _ S H [] (.refl _ _ _) ⟨rfl, rfl⟩ (Ft.nil sd)⟩
  · rename_i b
    cases e
    obtain ⟨v, r, F1, F2, e1, e2, h1, h2, _⟩ := h
    subst h2 e1
    rw [h1.1]
    exact .inr ⟨b, rfl, k _ S H [] (.refl _ _ _) ⟨rfl, rfl⟩ (Ft.nil sd)⟩
  · cases e
def dMax2 : List D → Option D
  | [.int i, .int j] => some (.int (if j > i then j else i))
  | _ => none
theorem vl_max2 : VL K (fun xs H Q => ∃ i j, xs = [.int i, .int j] ∧ Q (.int (if j > i then j else i)) H) dMax2 := by
  intro S H ds vs T1 Q sd h ⟨d, e, k⟩
  unfold dMax2 at e
  split at e
  · rename_i i j
    cases e
    obtain ⟨v, r, F1, F2, e1, e2, h1, v', r', F1', F2', e1', e2', h1', h2, _⟩ := h
    subst h2 e1' e1
    rw [h1.1, h1'.1]
    exact ⟨i, j, rfl, k _ S H [] (.refl _ _ _) ⟨rfl, rfl⟩ (Ft.nil sd)⟩
  · cases e
def dMin2 : List D → Option D
  | [.int i, .int j] => some (.int (if j < i then j else i))
  | _ => none
theorem vl_min2 : VL K (fun xs H Q => ∃ i j, xs = [.int i, .int j] ∧ Q (.int (if j < i then j else i)) H) dMin2 := by
  intro S H ds vs T1 Q sd h ⟨d, e, k⟩
  unfold dMin2 at e
  split at e
  · rename_i i j
    cases e
    obtain ⟨v, r, F1, F2, e1, e2, h1, v', r', F1', F2', e1', e2', h1', h2, _⟩ := h
    subst h2 e1' e1
    rw [h1.1, h1'.1]
    exact ⟨i, j, rfl, k _ S H [] (.refl _ _ _) ⟨rfl, rfl⟩ (Ft.nil sd)⟩
  · cases e
/-- tuple(x), list(x) -/
def dTuple : List D → Option D
  | [.lst _ ds] => if D.shL ds = true then some (.tup ds) else none
  | [.tup ds] => if D.shL ds = true then some (.tup ds) else none
  | _ => none
theorem vl_tuple : VL K (fun xs H Q => ∃ p ys, xs = [.ref p] ∧ ((SqL K H p ys ∧ ∀ l, H l = none → Q (.ref l) (upd H l (.tup ys))) ∨ (SqT K H p ys ∧ Q (.ref p) H))) dTuple := by
  intro S H ds vs T1 Q sd h ⟨d, e, k⟩
  unfold dTuple at e
  split at e
  · rename_i o ds
    split at e
    · rename_i c
      cases e
      obtain ⟨v, r, F1, F2, e1, e2, h1, h2, _⟩ := h
      subst h2 e1
      obtain ⟨a, vs, rfl, q, r⟩ := h1.lst_at c
      exact ⟨a, vs, rfl, .inl ⟨.inl (.inl q), fun p hp => k _ S _ [] (go_new sd hp [] (fun _ z => nomatch z)) (rep_tup sd hp r) (Ft.nil (sd_new sd))⟩⟩
    · cases e
  · rename_i ds
    split at e
    · rename_i c
      cases e
      obtain ⟨v, r, F1, F2, e1, e2, h1, h2, _⟩ := h
      subst h2 e1
      obtain ⟨a, vs, rfl, q, r⟩ := h1.tup_at c
      exact ⟨a, vs, rfl, .inr ⟨q, k _ S H [] (.refl _ _ _) ⟨a, vs, rfl, q, r⟩ (Ft.nil sd)⟩⟩
    · cases e
  · cases e
def dList : List D → Option D
  | [.lst _ ds] => if D.shL ds = true then some (.lst true ds) else none
  | [.tup ds] => if D.shL ds = true then some (.lst true ds) else none
  | _ => none
theorem vl_list : VL K (fun xs H Q => ∃ p ys, xs = [.ref p] ∧ (SqL K H p ys ∨ SqT K H p ys) ∧ ∀ l, H l = none → Q (.ref l) (upd H l (.lst ys))) dList := by
  intro S H ds vs T1 Q sd h ⟨d, e, k⟩
  unfold dList at e
  split at e
  · rename_i o ds
    split at e
    · rename_i c
      cases e
      obtain ⟨v, r, F1, F2, e1, e2, h1, h2, _⟩ := h
      subst h2 e1
      obtain ⟨a, vs, rfl, q, r⟩ := h1.lst_at c
      exact ⟨a, vs, rfl, .inl (.inl (.inl q)), fun p hp => k _ S _ [p] (go_new sd hp [p] (fun _ z => by simpa using z)) (rep_lst sd hp r) (ft_new sd hp)⟩
    · cases e
  · rename_i ds
    split at e
    · rename_i c
      cases e
      obtain ⟨v, r, F1, F2, e1, e2, h1, h2, _⟩ := h
      subst h2 e1
      obtain ⟨a, vs, rfl, q, r⟩ := h1.tup_at c
      exact ⟨a, vs, rfl, .inr q, fun p hp => k _ S _ [p] (go_new sd hp [p] (fun _ z => by simpa using z)) (rep_lst sd hp r) (ft_new sd hp)⟩
    · cases e
  · cases e
end
end DL

/-! DCall: expressions put together: operators, tests, builtins, isinstance, displays, calls of defs. -/
namespace DL
open PySem PySem.Spec PyProof.Rows L2
def DTp (X : Cx) (W : WT) (e : Expr) (P : Env → PR Bool) : Prop := ∃ t, PT X e t ∧ ∀ S H r σ F Q, At X.K W.tb S H r σ F → PP1 RB X W S H σ Q (P r) → t σ H Q
def DW (X : Cx) (W : WT) (e : Expr) (E : Env → Res Bool) : Prop := ∃ t, PW X e t ∧ ∀ S H r σ F Q, At X.K W.tb S H r σ F → EP1 RB X W S H F σ Q (E r) → t σ H Q
def DWp (X : Cx) (W : WT) (e : Expr) (P : Env → PR Bool) : Prop := ∃ t, PW X e t ∧ ∀ S H r σ F Q, At X.K W.tb S H r σ F → PP1 RB X W S H σ Q (P r) → t σ H Q
section
variable {X : Cx} {W : WT} {e a b c : Expr} {es : List Expr} {S S' S1 : Addr → Prop} {H H' H1 : Hp} {F F' F1 T : Fp} {σ : L2.St} {r : Env} {pos : Pos}
/-! ### operators -/
theorem de_op {op : Operator} {q : R2} {g : D → D → Option D} {A B : Env → Res D} (ho : OpR X (binaryOp op) q) (v : V2 X.K q g) (ha : DE X W a A) (hb : DE X W b B) :
    DE X W (.BinOp a op b pos) (fun r => (A r).bind fun x r1 => (B r1).bind fun y r2 => opE (g x) y r2) := by
  obtain ⟨t, p, h⟩ := ha; obtain ⟨t', p', h'⟩ := hb
  exact ⟨_, pe_op ho p p', RdE.op v h h'⟩
theorem dp_op {op : Operator} {q : R2} {g : D → D → Option D} {A B : Env → PR D} (ho : OpR X (binaryOp op) q) (v : V2 X.K q g) (ha : DP X W a A) (hb : DP X W b B) :
    DP X W (.BinOp a op b pos) (fun r => (A r).bind fun x => (B r).bind fun y => opP (g x) y) := by
  obtain ⟨t, p, h⟩ := ha; obtain ⟨t', p', h'⟩ := hb
  exact ⟨_, pe_op ho p p', RdP.op v h h'⟩
theorem dpe_op {op : Operator} {q : R2} {g : D → D → Option D} {A B : Env → PR D} (ho : OpR X (binaryOp op) q) (v : V2 X.K q g) (ha : DP X W a A) (hb : DP X W b B) :
    DE X W (.BinOp a op b pos) (fun r => ((A r).bind fun x => (B r).bind fun y => opP (g x) y).up r) := by
  obtain ⟨t, p, h⟩ := ha; obtain ⟨t', p', h'⟩ := hb
  exact ⟨_, pe_op ho p p', RdE.opP v h h'⟩
theorem de_un {op : UnaryOp} {q : V → Hp → VK → Prop} {g : D → Option D} {A : Env → Res D} (ho : UnR X (unaryOp op) q) (v : V1 X.K q g) (ha : DR X W a A) : DE X W (.UnaryOp op a pos) (fun r => (A r).bind (opE g)) := by
  obtain ⟨t, p, h⟩ := ha
  exact ⟨_, pe_un ho p, RdE.un v h⟩
theorem dp_un {op : UnaryOp} {q : V → Hp → VK → Prop} {g : D → Option D} {A : Env → PR D} (ho : UnR X (unaryOp op) q) (v : V1 X.K q g) (ha : DP X W a A) : DP X W (.UnaryOp op a pos) (fun r => (A r).bind (opP g)) := by
  obtain ⟨t, p, h⟩ := ha
  exact ⟨_, pe_un ho p, RdP.un v h⟩
theorem de_cmp {op : CmpOp} {q : R2} {g : D → D → Option D} {A B : Env → Res D} (ho : OpR X (compareOp op) q) (v : V2 X.K q g) (hm : behindInMarks op b = false) (ha : DE X W a A) (hb : DE X W b B) :
    DE X W (.Compare a [op] [b] pos) (fun r => (A r).bind fun x r1 => (B r1).bind fun y r2 => opE (g x) y r2) := by
  obtain ⟨t, p, h⟩ := ha; obtain ⟨t', p', h'⟩ := hb
  exact ⟨_, pe_cmpR ho p p' hm, RdE.op v h h'⟩
theorem dp_cmp {op : CmpOp} {q : R2} {g : D → D → Option D} {A B : Env → PR D} (ho : OpR X (compareOp op) q) (v : V2 X.K q g) (hm : behindInMarks op b = false) (ha : DP X W a A) (hb : DP X W b B) :
    DP X W (.Compare a [op] [b] pos) (fun r => (A r).bind fun x => (B r).bind fun y => opP (g x) y) := by
  obtain ⟨t, p, h⟩ := ha; obtain ⟨t', p', h'⟩ := hb
  exact ⟨_, pe_cmpR ho p p' hm, RdP.op v h h'⟩
def asBp (d : D) : PR Bool := match d with
  | .bl b => .ok b
  | _ => .stk
theorem RdTp.of {t : TE} {P : Env → PR D} (h : RdP X W t P) : ∀ S H r σ F Q, At X.K W.tb S H r σ F → PP1 RB X W S H σ Q ((P r).bind asBp) → tTest t σ H Q := by
  intro S H r σ F Q x y
  refine h S H r σ F _ x (PP1.bind (Go.refl _ _ _) y fun d v S1 H1 T1 g1 f1 h1 y1 => ?_)
  cases d with
  | bl b => exact ⟨b, h1.1, y1 b S1 H1 [] g1 f1 ⟨rfl, rfl⟩⟩
  | _ => exact False.elim y1
theorem dt_cmp {op : CmpOp} {q : R2} {g : D → D → Option D} {A B : Env → Res D} (ho : OpR X (compareOp op) q) (v : V2 X.K q g) (hm : behindInMarks op b = false) (ha : DE X W a A) (hb : DE X W b B) :
    DT X W (.Compare a [op] [b] pos) (fun r => ((A r).bind fun x r1 => (B r1).bind fun y r2 => opE (g x) y r2).bind asB) := by
  obtain ⟨t, p, h⟩ := ha; obtain ⟨t', p', h'⟩ := hb
  exact ⟨_, pt_cmpR ho p p' hm, RdT.of (RdR.ofE (RdE.op v h h'))⟩
theorem dtp_cmp {op : CmpOp} {q : R2} {g : D → D → Option D} {A B : Env → PR D} (ho : OpR X (compareOp op) q) (v : V2 X.K q g) (hm : behindInMarks op b = false) (ha : DP X W a A) (hb : DP X W b B) :
    DTp X W (.Compare a [op] [b] pos) (fun r => ((A r).bind fun x => (B r).bind fun y => opP (g x) y).bind asBp) := by
  obtain ⟨t, p, h⟩ := ha; obtain ⟨t', p', h'⟩ := hb
  exact ⟨_, pt_cmpR ho p p' hm, RdTp.of (RdP.op v h h')⟩
/-! ### a op b op c -/
def chP (g g' : D → D → Option D) (A B C : Env → PR D) (r : Env) : PR D := (A r).bind fun x => (B r).bind fun y => (opP (g x) y).bind fun z => (asBp z).bind fun k => if k = true then (C r).bind fun w => opP (g' y) w else .ok (.bl false)
theorem RdP.chain {q q' : R2} {g g' : D → D → Option D} {ta tb tc : TE} {A B C : Env → PR D} (v : V2 X.K q g) (v' : V2 X.K q' g') (ha : RdP X W ta A) (hb : RdP X W tb B) (hc : RdP X W tc C) : RdP X W (tChain q q' ta tb tc) (chP g g' A B C) := by
  intro S H r σ F Q x y
  refine ha S H r σ F _ x (PP1.bind (Go.refl _ _ _) y fun d1 v1 S1 H1 T1 g1 f1 h1 y1 => ?_)
  refine hb S1 H1 r σ F _ (x.ext0 g1 f1) (PP1.bind g1 y1 fun d2 v2 S2 H2 T2 g2 f2 h2 y2 => ?_)
  unfold opP at y2
  split at y2
  · rename_i d e
    refine v S2 H2 d1 d2 v1 v2 T1 T2 _ f2.sd (Rep.go g2 f1 d1 v1 T1 (fun _ _ z => nomatch z) h1) h2 ⟨d, e, fun w S3 H3 T3 g3 h3 f3 => ?_⟩
    have f3' : Ft S3 H3 [] := Ft.nil f3.sd
    have g3' : Go S2 H2 [] S3 H3 [] := g3.sub fun _ z => nomatch z
    cases d with
    | bl k =>
      refine ⟨k, h3.1, ?_⟩
      cases k with
      | false => exact y2 (.bl false) S3 H3 [] ((g1.trans g2).trans g3') f3' ⟨rfl, rfl⟩
      | true =>
        have x3 := ((x.ext0 g1 f1).ext0 g2 f2).ext0 g3' f3'
        refine hc S3 H3 r σ F _ x3 (PP1.bind ((g1.trans g2).trans g3') y2 fun d3 v3 S4 H4 T4 g4 f4 h4 y4 => ?_)
        obtain ⟨d, e, y5⟩ := opP_some y4
        have h2' := Rep.go g4 f3' d2 v2 T2 (fun _ _ z => nomatch z) (Rep.go g3' f2 d2 v2 T2 (fun _ _ z => nomatch z) h2)
        refine v' S4 H4 d2 d3 v2 v3 T2 T4 Q f4.sd h2' h4 ⟨d, e, fun w S5 H5 T5 g5 h5 f5 => ?_⟩
        exact y5 w S5 H5 T5 ((((g1.trans g2).trans g3').trans g4).trans (g5.sub fun _ z => nomatch z)) (Ft.nil f5.sd) h5
    | _ => exact False.elim y2
  · exact False.elim y2
theorem dp_chain {op op' : CmpOp} {q q' : R2} {g g' : D → D → Option D} {A B C : Env → PR D} (ho : OpR X (compareOp op) q) (ho' : OpR X (compareOp op') q') (v : V2 X.K q g) (v' : V2 X.K q' g') (ha : DP X W a A) (hb : DP X W b B) (hc : DP X W c C)
    (hm : lastMarks [op, op'] [b, c] = false := by with_unfolding_all rfl) : DP X W (.Compare a [op, op'] [b, c] pos) (chP g g' A B C) := by
  obtain ⟨t, p, h⟩ := ha; obtain ⟨t', p', h'⟩ := hb; obtain ⟨t2, p2, h2⟩ := hc
  exact ⟨_, pe_chain ho ho' p p' p2 hm, RdP.chain v v' h h' h2⟩
theorem dtp_chain {op op' : CmpOp} {q q' : R2} {g g' : D → D → Option D} {A B C : Env → PR D} (ho : OpR X (compareOp op) q) (ho' : OpR X (compareOp op') q') (v : V2 X.K q g) (v' : V2 X.K q' g') (ha : DP X W a A) (hb : DP X W b B) (hc : DP X W c C)
    (hm : lastMarks [op, op'] [b, c] = false := by with_unfolding_all rfl) : DTp X W (.Compare a [op, op'] [b, c] pos) (fun r => (chP g g' A B C r).bind asBp) := by
  obtain ⟨t, p, h⟩ := ha; obtain ⟨t', p', h'⟩ := hb; obtain ⟨t2, p2, h2⟩ := hc
  exact ⟨_, pt_chain ho ho' p p' p2 hm, RdTp.of (RdP.chain v v' h h' h2)⟩
/-! ### tests -/
theorem dt_of_dtp {P : Env → PR Bool} (h : DTp X W e P) : DT X W e (fun r => (P r).up r) := by
  obtain ⟨t, p, q⟩ := h
  refine ⟨t, p, fun S H r σ F Q x y => q S H r σ F Q x ?_⟩
  have y : EP1 RB X W S H F σ Q ((P r).up r) := y
  cases e1 : P r with
  | stk => rw [e1] at y; exact y
  | exc c => rw [e1] at y; exact fun S' H' g f => y S' H' F (go_side g F) (x.ext0 g f)
  | ok d =>
    rw [e1] at y
    intro k S' H' T g f z
    obtain ⟨z1, z2⟩ := z
    subst z2
    exact y k S' H' F [] (go_side g F) (x.ext0 g f) ⟨z1, rfl⟩ (x.ext0 g f).ft
/-- a bool-valued expression (a call, a name, a subscript) -/
theorem dt_val {E : Env → Res D} (h : DR X W e E) (he : ∀ whole, isTrue e X.env whole = (do let v ← whole; standAt e.pos; holding [v] (truthy v)) := by intro _; rfl) : DT X W e (fun r => (E r).bind asB) := by
  obtain ⟨t, p, q⟩ := h
  exact ⟨_, pt_val p he, RdT.of q⟩
theorem dtp_val {P : Env → PR D} (h : DP X W e P) (he : ∀ whole, isTrue e X.env whole = (do let v ← whole; standAt e.pos; holding [v] (truthy v)) := by intro _; rfl) : DTp X W e (fun r => (P r).bind asBp) := by
  obtain ⟨t, p, q⟩ := h
  exact ⟨_, pt_val p he, RdTp.of q⟩
theorem dt_not {E : Env → Res Bool} (h : DT X W a E) : DT X W (.UnaryOp .Not a pos) (fun r => (E r).bind fun k r1 => .ok (!k) r1) := by
  obtain ⟨t, p, q⟩ := h
  refine ⟨_, pt_not p, fun S H r σ F Q x y => q S H r σ F _ x (EP1.bind (Go.refl _ _ _) y fun k r1 k' S1 H1 F1 T1 g1 x1 h1 f1 y1 => ?_)⟩
  obtain ⟨rfl, rfl⟩ := h1
  exact y1 (!k) S1 H1 F1 [] g1 x1 ⟨rfl, rfl⟩ f1
theorem dtp_not {E : Env → PR Bool} (h : DTp X W a E) : DTp X W (.UnaryOp .Not a pos) (fun r => (E r).bind fun k => .ok (!k)) := by
  obtain ⟨t, p, q⟩ := h
  refine ⟨_, pt_not p, fun S H r σ F Q x y => q S H r σ F _ x (PP1.bind (Go.refl _ _ _) y fun k k' S1 H1 T1 g1 f1 h1 y1 => ?_)⟩
  obtain ⟨rfl, rfl⟩ := h1
  exact y1 (!k) S1 H1 [] g1 f1 ⟨rfl, rfl⟩
theorem dt_of_dw {E : Env → Res Bool} (h : DW X W e E) : DT X W e E := by
  obtain ⟨t, p, q⟩ := h
  exact ⟨t, p.pt, q⟩
theorem dtp_of_dw {E : Env → PR Bool} (h : DWp X W e E) : DTp X W e E := by
  obtain ⟨t, p, q⟩ := h
  exact ⟨t, p.pt, q⟩
theorem dw_and1 {E : Env → Res Bool} (h : DT X W a E) : DW X W (.BoolOp .And [a] pos) E := by obtain ⟨t, p, q⟩ := h; exact ⟨t, pw_and1 p, q⟩
theorem dw_or1 {E : Env → Res Bool} (h : DT X W a E) : DW X W (.BoolOp .Or [a] pos) E := by obtain ⟨t, p, q⟩ := h; exact ⟨t, pw_or1 p, q⟩
theorem dwp_and1 {E : Env → PR Bool} (h : DTp X W a E) : DWp X W (.BoolOp .And [a] pos) E := by obtain ⟨t, p, q⟩ := h; exact ⟨t, pw_and1 p, q⟩
theorem dwp_or1 {E : Env → PR Bool} (h : DTp X W a E) : DWp X W (.BoolOp .Or [a] pos) E := by obtain ⟨t, p, q⟩ := h; exact ⟨t, pw_or1 p, q⟩
theorem dw_and {rest : List Expr} {E G : Env → Res Bool} (h : DT X W a E) (h' : DW X W (.BoolOp .And (b :: rest) pos) G) : DW X W (.BoolOp .And (a :: b :: rest) pos) (fun r => (E r).bind fun k r1 => if k = true then G r1 else .ok false r1) := by
  obtain ⟨t, p, q⟩ := h; obtain ⟨t', p', q'⟩ := h'
  refine ⟨_, pw_and p p', fun S H r σ F Q x y => q S H r σ F _ x (EP1.bind (Go.refl _ _ _) y fun k r1 k' S1 H1 F1 T1 g1 x1 h1 f1 y1 => ?_)⟩
  obtain ⟨rfl, rfl⟩ := h1
  cases k with
  | true => exact q' S1 H1 r1 σ F1 Q x1 (EP1.step g1 y1)
  | false => exact y1 false S1 H1 F1 [] g1 x1 ⟨rfl, rfl⟩ f1
theorem dw_or {rest : List Expr} {E G : Env → Res Bool} (h : DT X W a E) (h' : DW X W (.BoolOp .Or (b :: rest) pos) G) : DW X W (.BoolOp .Or (a :: b :: rest) pos) (fun r => (E r).bind fun k r1 => if k = true then .ok true r1 else G r1) := by
  obtain ⟨t, p, q⟩ := h; obtain ⟨t', p', q'⟩ := h'
  refine ⟨_, pw_or p p', fun S H r σ F Q x y => q S H r σ F _ x (EP1.bind (Go.refl _ _ _) y fun k r1 k' S1 H1 F1 T1 g1 x1 h1 f1 y1 => ?_)⟩
  obtain ⟨rfl, rfl⟩ := h1
  cases k with
  | false => exact q' S1 H1 r1 σ F1 Q x1 (EP1.step g1 y1)
  | true => exact y1 true S1 H1 F1 [] g1 x1 ⟨rfl, rfl⟩ f1
theorem dwp_and {rest : List Expr} {E G : Env → PR Bool} (h : DTp X W a E) (h' : DWp X W (.BoolOp .And (b :: rest) pos) G) : DWp X W (.BoolOp .And (a :: b :: rest) pos) (fun r => (E r).bind fun k => if k = true then G r else .ok false) := by
  obtain ⟨t, p, q⟩ := h; obtain ⟨t', p', q'⟩ := h'
  refine ⟨_, pw_and p p', fun S H r σ F Q x y => q S H r σ F _ x (PP1.bind (Go.refl _ _ _) y fun k k' S1 H1 T1 g1 f1 h1 y1 => ?_)⟩
  obtain ⟨rfl, rfl⟩ := h1
  cases k with
  | true => exact q' S1 H1 r σ F Q (x.ext0 g1 f1) (PP1.step g1 y1)
  | false => exact y1 false S1 H1 [] g1 f1 ⟨rfl, rfl⟩
theorem dwp_or {rest : List Expr} {E G : Env → PR Bool} (h : DTp X W a E) (h' : DWp X W (.BoolOp .Or (b :: rest) pos) G) : DWp X W (.BoolOp .Or (a :: b :: rest) pos) (fun r => (E r).bind fun k => if k = true then .ok true else G r) := by
  obtain ⟨t, p, q⟩ := h; obtain ⟨t', p', q'⟩ := h'
  refine ⟨_, pw_or p p', fun S H r σ F Q x y => q S H r σ F _ x (PP1.bind (Go.refl _ _ _) y fun k k' S1 H1 T1 g1 f1 h1 y1 => ?_)⟩
  obtain ⟨rfl, rfl⟩ := h1
  cases k with
  | false => exact q' S1 H1 r σ F Q (x.ext0 g1 f1) (PP1.step g1 y1)
  | true => exact y1 true S1 H1 [] g1 f1 ⟨rfl, rfl⟩
/-- and, or, not as values: bools -/
theorem dp_one {op} {P : Env → PR D} (h : DP X W a P) : DP X W (.BoolOp op [a] pos) P := by obtain ⟨t, p, q⟩ := h; exact ⟨t, pe_one p, q⟩
theorem de_one {op} {P : Env → Res D} (h : DE X W a P) : DE X W (.BoolOp op [a] pos) P := by obtain ⟨t, p, q⟩ := h; exact ⟨t, pe_one p, q⟩
theorem dp_and {rest : List Expr} {E G : Env → PR D} (h : DP X W a E) (h' : DP X W (.BoolOp .And (b :: rest) pos) G) : DP X W (.BoolOp .And (a :: b :: rest) pos) (fun r => ((E r).bind asBp).bind fun k => if k = true then G r else .ok (.bl false)) := by
  obtain ⟨t, p, q⟩ := h; obtain ⟨t', p', q'⟩ := h'
  refine ⟨_, pe_and p p', fun S H r σ F Q x y => ?_⟩
  refine RdTp.of (t := t) q S H r σ F _ x (PP1.bind (Go.refl _ _ _) y fun k k' S1 H1 T1 g1 f1 h1 y1 => ?_)
  obtain ⟨rfl, rfl⟩ := h1
  cases k with
  | true => exact q' S1 H1 r σ F Q (x.ext0 g1 f1) (PP1.step g1 y1)
  | false => exact y1 (.bl false) S1 H1 [] g1 f1 ⟨rfl, rfl⟩
theorem dp_or {rest : List Expr} {E G : Env → PR D} (h : DP X W a E) (h' : DP X W (.BoolOp .Or (b :: rest) pos) G) : DP X W (.BoolOp .Or (a :: b :: rest) pos) (fun r => ((E r).bind asBp).bind fun k => if k = true then .ok (.bl true) else G r) := by
  obtain ⟨t, p, q⟩ := h; obtain ⟨t', p', q'⟩ := h'
  refine ⟨_, pe_or p p', fun S H r σ F Q x y => ?_⟩
  refine RdTp.of (t := t) q S H r σ F _ x (PP1.bind (Go.refl _ _ _) y fun k k' S1 H1 T1 g1 f1 h1 y1 => ?_)
  obtain ⟨rfl, rfl⟩ := h1
  cases k with
  | false => exact q' S1 H1 r σ F Q (x.ext0 g1 f1) (PP1.step g1 y1)
  | true => exact y1 (.bl true) S1 H1 [] g1 f1 ⟨rfl, rfl⟩
theorem de_and {rest : List Expr} {E G : Env → Res D} (h : DE X W a E) (h' : DE X W (.BoolOp .And (b :: rest) pos) G) : DE X W (.BoolOp .And (a :: b :: rest) pos) (fun r => ((E r).bind asB).bind fun k r1 => if k = true then G r1 else .ok (.bl false) r1) := by
  obtain ⟨t, p, q⟩ := h; obtain ⟨t', p', q'⟩ := h'
  refine ⟨_, pe_and p p', fun S H r σ F Q x y => ?_⟩
  refine RdT.of (t := t) (RdR.ofE q) S H r σ F _ x (EP1.bind (Go.refl _ _ _) y fun k r1 k' S1 H1 F1 T1 g1 x1 h1 f1 y1 => ?_)
  obtain ⟨rfl, rfl⟩ := h1
  cases k with
  | true => exact q' S1 H1 r1 σ F1 Q x1 (EP1.step g1 y1)
  | false => exact y1 (.bl false) S1 H1 F1 [] g1 x1 ⟨rfl, rfl⟩ f1
theorem de_or {rest : List Expr} {E G : Env → Res D} (h : DE X W a E) (h' : DE X W (.BoolOp .Or (b :: rest) pos) G) : DE X W (.BoolOp .Or (a :: b :: rest) pos) (fun r => ((E r).bind asB).bind fun k r1 => if k = true then .ok (.bl true) r1 else G r1) := by
  obtain ⟨t, p, q⟩ := h; obtain ⟨t', p', q'⟩ := h'
  refine ⟨_, pe_or p p', fun S H r σ F Q x y => ?_⟩
  refine RdT.of (t := t) (RdR.ofE q) S H r σ F _ x (EP1.bind (Go.refl _ _ _) y fun k r1 k' S1 H1 F1 T1 g1 x1 h1 f1 y1 => ?_)
  obtain ⟨rfl, rfl⟩ := h1
  cases k with
  | false => exact q' S1 H1 r1 σ F1 Q x1 (EP1.step g1 y1)
  | true => exact y1 (.bl true) S1 H1 F1 [] g1 x1 ⟨rfl, rfl⟩ f1
theorem dp_not {E : Env → PR D} (h : DP X W a E) : DP X W (.UnaryOp .Not a pos) (fun r => ((E r).bind asBp).bind fun k => .ok (.bl !k)) := by
  obtain ⟨t, p, q⟩ := h
  refine ⟨_, pe_not p, fun S H r σ F Q x y => ?_⟩
  refine RdTp.of (t := t) q S H r σ F _ x (PP1.bind (Go.refl _ _ _) y fun k k' S1 H1 T1 g1 f1 h1 y1 => ?_)
  obtain ⟨rfl, rfl⟩ := h1
  exact y1 (.bl !k) S1 H1 [] g1 f1 ⟨rfl, rfl⟩
/-- a if t else b -/
theorem de_if {E : Env → Res Bool} {A B : Env → Res D} (h : DT X W c E) (ha : DE X W a A) (hb : DE X W b B) : DE X W (.IfExp c a b pos) (fun r => (E r).bind fun k r1 => if k = true then A r1 else B r1) := by
  obtain ⟨t, p, q⟩ := h; obtain ⟨t1, p1, q1⟩ := ha; obtain ⟨t2, p2, q2⟩ := hb
  refine ⟨_, pe_ifExp p p1 p2, fun S H r σ F Q x y => q S H r σ F _ x (EP1.bind (Go.refl _ _ _) y fun k r1 k' S1 H1 F1 T1 g1 x1 h1 f1 y1 => ?_)⟩
  obtain ⟨rfl, rfl⟩ := h1
  cases k with
  | true => exact q1 S1 H1 r1 σ F1 Q x1 (EP1.step g1 y1)
  | false => exact q2 S1 H1 r1 σ F1 Q x1 (EP1.step g1 y1)
theorem dp_if {E : Env → PR Bool} {A B : Env → PR D} (h : DTp X W c E) (ha : DP X W a A) (hb : DP X W b B) : DP X W (.IfExp c a b pos) (fun r => (E r).bind fun k => if k = true then A r else B r) := by
  obtain ⟨t, p, q⟩ := h; obtain ⟨t1, p1, q1⟩ := ha; obtain ⟨t2, p2, q2⟩ := hb
  refine ⟨_, pe_ifExp p p1 p2, fun S H r σ F Q x y => q S H r σ F _ x (PP1.bind (Go.refl _ _ _) y fun k k' S1 H1 T1 g1 f1 h1 y1 => ?_)⟩
  obtain ⟨rfl, rfl⟩ := h1
  cases k with
  | true => exact q1 S1 H1 r σ F Q (x.ext0 g1 f1) (PP1.step g1 y1)
  | false => exact q2 S1 H1 r σ F Q (x.ext0 g1 f1) (PP1.step g1 y1)
/-! ### subscripts -/
theorem dp_ix {A B : Env → PR D} (ha : DP X W a A) (hb : DP X W b B) (hs : PlainIx b := by intro _ _; rfl) : DP X W (.Subscript a b pos) (fun r => (A r).bind fun x => (B r).bind fun y => opP (dIx x) y) := by
  obtain ⟨t, p, h⟩ := ha; obtain ⟨t', p', h'⟩ := hb
  exact ⟨_, pe_ix ix_seq p p' hs, RdP.part vb_ix h h'⟩
theorem de_ix {A B : Env → Res D} (ha : DE X W a A) (hb : DE X W b B) (hs : PlainIx b := by intro _ _; rfl) : DE X W (.Subscript a b pos) (fun r => (A r).bind fun x r1 => (B r1).bind fun y r2 => (opE (dIx x) y r2).bind shO) := by
  obtain ⟨t, p, h⟩ := ha; obtain ⟨t', p', h'⟩ := hb
  exact ⟨_, pe_ix ix_seq p p' hs, RdE.part vb_ix h h'⟩
/-! ### displays -/
def tupE (ds : List D) (r : Env) : Res D := if ds.length ≤ sizeLine then .ok (.tup ds) r else .stk
def lstE (ds : List D) (r : Env) : Res D := if ds.length ≤ sizeLine then .ok (.lst true ds) r else .stk
theorem de_tup {x1 : Nat} {E : Env → Res (List D)} (h : DA X W es E) : DE X W (.Tuple es x1 pos) (fun r => (E r).bind tupE) := by
  obtain ⟨t, p, q⟩ := h
  refine ⟨_, pe_tup p, fun S H r σ F Q x y => q S H r σ F _ x (EP1.bind (Go.refl _ _ _) y fun ds r1 vs S1 H1 F1 T1 g1 x1 h1 f1 y1 => ?_)⟩
  unfold tupE at y1
  split at y1
  · rename_i c
    refine ⟨by rw [← h1.len]; exact c, fun p hp => ?_⟩
    have g2 : Go S1 H1 [] S1 (upd H1 p (.tup vs)) [] := go_new x1.ft.sd hp [] (fun _ z => nomatch z)
    have f2 : Ft S1 (upd H1 p (.tup vs)) [] := Ft.nil (sd_new x1.ft.sd)
    exact y1 (.ref p) S1 _ F1 T1 (g1.trans (go_side g2 _)) (x1.ext g2 f2) (rep_tup x1.ft.sd hp h1) (by simpa using Ft.frame (T := T1 ++ F1) (F := []) (by simpa using f1) g2 f2)
  · exact y1.elim
theorem dp_tup {x1 : Nat} {E : Env → PR (List D)} (h : DPA X W es E) : DP X W (.Tuple es x1 pos) (fun r => (E r).bind fun ds => if ds.length ≤ sizeLine then .ok (.tup ds) else .stk) := by
  obtain ⟨t, p, q⟩ := h
  refine ⟨_, pe_tup p, fun S H r σ F Q x y => q S H r σ F _ x (PP1.bind (Go.refl _ _ _) y fun ds vs S1 H1 T1 g1 f1 h1 y1 => ?_)⟩

  split at y1
  · rename_i c
    refine ⟨by rw [← h1.len]; exact c, fun p hp => ?_⟩
    have g2 : Go S1 H1 [] S1 (upd H1 p (.tup vs)) [] := go_new f1.sd hp [] (fun _ z => nomatch z)
    exact y1 (.ref p) S1 _ T1 (g1.trans g2) (Ft.nil (sd_new f1.sd)) (rep_tup f1.sd hp h1)
  · exact y1.elim
theorem de_lst {E : Env → Res (List D)} (h : DA X W es E) : DE X W (.List es pos) (fun r => (E r).bind lstE) := by
  obtain ⟨t, p, q⟩ := h
  refine ⟨_, pe_lst p, fun S H r σ F Q x y => q S H r σ F _ x (EP1.bind (Go.refl _ _ _) y fun ds r1 vs S1 H1 F1 T1 g1 x1 h1 f1 y1 => ?_)⟩
  unfold lstE at y1
  split at y1
  · rename_i c
    refine ⟨by rw [← h1.len]; exact c, fun p hp => ?_⟩
    have g2 : Go S1 H1 [] S1 (upd H1 p (.lst vs)) [p] := go_new x1.ft.sd hp [p] (fun _ z => by simpa using z)
    have f2 : Ft S1 (upd H1 p (.lst vs)) [p] := ft_new x1.ft.sd hp
    have g3 := g2.frame (T1 ++ F1)
    have f3 := Ft.frame (T := T1 ++ F1) (F := []) (by simpa using f1) g2 f2
    have pm : ((T1 ++ F1) ++ [p]).Perm ((p :: T1) ++ F1) := List.perm_append_comm
    refine y1 (.ref p) S1 _ F1 (p :: T1) (g1.trans ?_) (x1.ext g2 f2) (rep_lst x1.ft.sd hp h1) (f3.perm pm)
    exact (show Go S1 H1 (T1 ++ F1) S1 _ ((T1 ++ F1) ++ [p]) from by simpa using g3).sub fun c z => pm.mem_iff.mpr z
  · exact y1.elim
theorem dp_lst {E : Env → PR (List D)} (h : DPA X W es E) : DP X W (.List es pos) (fun r => (E r).bind fun ds => if ds.length ≤ sizeLine then .ok (.lst true ds) else .stk) := by
  obtain ⟨t, p, q⟩ := h
  refine ⟨_, pe_lst p, fun S H r σ F Q x y => q S H r σ F _ x (PP1.bind (Go.refl _ _ _) y fun ds vs S1 H1 T1 g1 f1 h1 y1 => ?_)⟩

  split at y1
  · rename_i c
    refine ⟨by rw [← h1.len]; exact c, fun p hp => ?_⟩
    have g2 : Go S1 H1 [] S1 (upd H1 p (.lst vs)) [] := go_new f1.sd hp [] (fun _ z => nomatch z)
    exact y1 (.ref p) S1 _ (p :: T1) (g1.trans g2) (Ft.nil (sd_new f1.sd)) (rep_lst f1.sd hp h1)
  · exact y1.elim
/-! ### builtins -/
theorem RdL.ee {q : List V → Hp → VK → Prop} {g : List D → Option D} {t : TA} {A : Env → Res (List D)} (v : VL X.K q g) (ha : ∀ S H r σ F Q, At X.K W.tb S H r σ F → EP1 (RepL X.K) X W S H F σ Q (A r) → t σ H Q) :
    RdE X W (tCB q t) (fun r => (A r).bind (opE g)) := by
  intro S H r σ F Q x y
  refine ha S H r σ F _ x (EP1.bind (Go.refl _ _ _) y fun ds r1 vs S1 H1 F1 T1 g1 x1 h1 f1 y1 => ?_)
  obtain ⟨d, e, y3⟩ := opE_some y1
  refine v S1 H1 ds vs T1 Q x1.ft.sd h1 ⟨d, e, fun w S3 H3 T3 g3 h3 f3 => ?_⟩
  obtain ⟨a1, a2, a3⟩ := own_end g1 x1 g3 f3
  exact y3 w S3 H3 F1 T3 a1 a2 h3 a3
theorem RdL.pp {q : List V → Hp → VK → Prop} {g : List D → Option D} {t : TA} {A : Env → PR (List D)} (v : VL X.K q g) (ha : ∀ S H r σ F Q, At X.K W.tb S H r σ F → PP1 (RepL X.K) X W S H σ Q (A r) → t σ H Q) :
    RdP X W (tCB q t) (fun r => (A r).bind (opP g)) := by
  intro S H r σ F Q x y
  refine ha S H r σ F _ x (PP1.bind (Go.refl _ _ _) y fun ds vs S1 H1 T1 g1 f1 h1 y1 => ?_)
  obtain ⟨d, e, y3⟩ := opP_some y1
  refine v S1 H1 ds vs T1 Q f1.sd h1 ⟨d, e, fun w S3 H3 T3 g3 h3 f3 => ?_⟩
  exact y3 w S3 H3 T3 (g1.trans (g3.sub fun _ z => nomatch z)) (Ft.nil f3.sd) h3
theorem RdL.pe {q : List V → Hp → VK → Prop} {g : List D → Option D} {t : TA} {A : Env → PR (List D)} (v : VL X.K q g) (ha : ∀ S H r σ F Q, At X.K W.tb S H r σ F → PP1 (RepL X.K) X W S H σ Q (A r) → t σ H Q) :
    RdE X W (tCB q t) (fun r => ((A r).up r).bind (opE g)) := by
  intro S H r σ F Q x y
  refine ha S H r σ F _ x (EP1.bindP (Go.refl _ _ _) x y fun ds vs S1 H1 T1 g1 f1 h1 y1 => ?_)
  obtain ⟨d, e, y3⟩ := opE_some y1
  refine v S1 H1 ds vs T1 Q f1.sd h1 ⟨d, e, fun w S3 H3 T3 g3 h3 f3 => ?_⟩
  obtain ⟨a1, a2, a3⟩ := own_end (T1 := []) (go_side g1 F) (x.ext0 g1 f1) g3 f3
  exact y3 w S3 H3 F T3 a1 a2 h3 a3
variable {x : Str} {p : Pos} {id T0 : String} {q : List V → Hp → VK → Prop} {g : List D → Option D}
theorem de_callB {A : Env → Res (List D)} (hc : CallR X (.builtin id) q) (v : VL X.K q g) (hg : Gl X x) (hm : X.mg x = none) (hv : bootBuiltins x = some (.builtin id)) (ha : DA X W (e :: es) A) (hn : x ≠ "__name__" := by decide) (hdb : (x == ("__debug__" : Str)) = false := by decide)
    (hs : starEach (e :: es) X.env = (false, eval e X.env) :: starEach es X.env := by rfl) (hp : (backTo pos (starEach es X.env)).any (·.1) = false := by rfl) :
    DE X W (.Call (.Name x p) (e :: es) [] pos) (fun r => (A r).bind (opE g)) := by
  obtain ⟨t, h, z⟩ := ha
  exact ⟨_, pe_callB hc hg hm hv h hn hdb hs hp, RdL.ee v z⟩
theorem dp_callB {A : Env → PR (List D)} (hc : CallR X (.builtin id) q) (v : VL X.K q g) (hg : Gl X x) (hm : X.mg x = none) (hv : bootBuiltins x = some (.builtin id)) (ha : DPA X W (e :: es) A) (hn : x ≠ "__name__" := by decide) (hdb : (x == ("__debug__" : Str)) = false := by decide)
    (hs : starEach (e :: es) X.env = (false, eval e X.env) :: starEach es X.env := by rfl) (hp : (backTo pos (starEach es X.env)).any (·.1) = false := by rfl) :
    DP X W (.Call (.Name x p) (e :: es) [] pos) (fun r => (A r).bind (opP g)) := by
  obtain ⟨t, h, z⟩ := ha
  exact ⟨_, pe_callB hc hg hm hv h hn hdb hs hp, RdL.pp v z⟩
theorem dpe_callB {A : Env → PR (List D)} (hc : CallR X (.builtin id) q) (v : VL X.K q g) (hg : Gl X x) (hm : X.mg x = none) (hv : bootBuiltins x = some (.builtin id)) (ha : DPA X W (e :: es) A) (hn : x ≠ "__name__" := by decide) (hdb : (x == ("__debug__" : Str)) = false := by decide)
    (hs : starEach (e :: es) X.env = (false, eval e X.env) :: starEach es X.env := by rfl) (hp : (backTo pos (starEach es X.env)).any (·.1) = false := by rfl) :
    DE X W (.Call (.Name x p) (e :: es) [] pos) (fun r => ((A r).up r).bind (opE g)) := by
  obtain ⟨t, h, z⟩ := ha
  exact ⟨_, pe_callB hc hg hm hv h hn hdb hs hp, RdL.pe v z⟩
theorem de_callT {A : Env → Res (List D)} (hc : CallR X (.type T0) q) (v : VL X.K q g) (hg : Gl X x) (hm : X.mg x = none) (hv : bootBuiltins x = some (.type T0)) (ha : DA X W (e :: es) A) (hn : x ≠ "__name__" := by decide) (hdb : (x == ("__debug__" : Str)) = false := by decide)
    (hs : starEach (e :: es) X.env = (false, eval e X.env) :: starEach es X.env := by rfl) (hp : (backTo pos (starEach es X.env)).any (·.1) = false := by rfl) :
    DE X W (.Call (.Name x p) (e :: es) [] pos) (fun r => (A r).bind (opE g)) := by
  obtain ⟨t, h, z⟩ := ha
  exact ⟨_, pe_callTy hc hg hm hv h hn hdb hs hp, RdL.ee v z⟩
theorem dp_callT {A : Env → PR (List D)} (hc : CallR X (.type T0) q) (v : VL X.K q g) (hg : Gl X x) (hm : X.mg x = none) (hv : bootBuiltins x = some (.type T0)) (ha : DPA X W (e :: es) A) (hn : x ≠ "__name__" := by decide) (hdb : (x == ("__debug__" : Str)) = false := by decide)
    (hs : starEach (e :: es) X.env = (false, eval e X.env) :: starEach es X.env := by rfl) (hp : (backTo pos (starEach es X.env)).any (·.1) = false := by rfl) :
    DP X W (.Call (.Name x p) (e :: es) [] pos) (fun r => (A r).bind (opP g)) := by
  obtain ⟨t, h, z⟩ := ha
  exact ⟨_, pe_callTy hc hg hm hv h hn hdb hs hp, RdL.pp v z⟩
theorem dpe_callT {A : Env → PR (List D)} (hc : CallR X (.type T0) q) (v : VL X.K q g) (hg : Gl X x) (hm : X.mg x = none) (hv : bootBuiltins x = some (.type T0)) (ha : DPA X W (e :: es) A) (hn : x ≠ "__name__" := by decide) (hdb : (x == ("__debug__" : Str)) = false := by decide)
    (hs : starEach (e :: es) X.env = (false, eval e X.env) :: starEach es X.env := by rfl) (hp : (backTo pos (starEach es X.env)).any (·.1) = false := by rfl) :
    DE X W (.Call (.Name x p) (e :: es) [] pos) (fun r => ((A r).up r).bind (opE g)) := by
  obtain ⟨t, h, z⟩ := ha
  exact ⟨_, pe_callTy hc hg hm hv h hn hdb hs hp, RdL.pe v z⟩
end
end DL

/-! DFn: isinstance; what a def promises, its call; lists changed in place. -/
namespace DL
open PySem PySem.Spec PyProof.Rows L2
/-! ### isinstance -/
inductive Ty where
  | int | bool | str | tuple | list | dict
def Ty.nm : Ty → String
  | .int => "int" | .bool => "bool" | .str => "str" | .tuple => "tuple" | .list => "list" | .dict => "dict"
def D.nm : D → String
  | .non => "NoneType" | .bl _ => "bool" | .int _ => "int" | .str _ => "str" | .tup _ => "tuple" | .lst _ _ => "list" | .scr _ => "list" | .exc _ => "" | .dic _ _ _ _ => "dict"
def D.isT : Ty → D → Bool
  | .int, .int _ => true
  | .int, .bl _ => true
  | .bool, .bl _ => true
  | .str, .str _ => true
  | .tuple, .tup _ => true
  | .list, .lst _ _ => true
  | .list, .scr _ => true
  | _, _ => false
def D.noX : D → Bool
  | .exc _ => false
  | .dic _ _ _ _ => false
  | _ => true
theorem kt_NoneType (t : Ty) : kitB "NoneType" t.nm = some (match t with | _ => false) := by cases t <;> decide +kernel
theorem kt_bool (t : Ty) : kitB "bool" t.nm = some (match t with | .int => true | .bool => true | _ => false) := by cases t <;> decide +kernel
theorem kt_int (t : Ty) : kitB "int" t.nm = some (match t with | .int => true | _ => false) := by cases t <;> decide +kernel
theorem kt_str (t : Ty) : kitB "str" t.nm = some (match t with | .str => true | _ => false) := by cases t <;> decide +kernel
theorem kt_tuple (t : Ty) : kitB "tuple" t.nm = some (match t with | .tuple => true | _ => false) := by cases t <;> decide +kernel
theorem kt_list (t : Ty) : kitB "list" t.nm = some (match t with | .list => true | _ => false) := by cases t <;> decide +kernel
theorem isT_kit (t : Ty) (d : D) (h : d.noX = true) : kitB d.nm t.nm = some (D.isT t d) := by
  cases d with
  | non => exact (kt_NoneType t).trans (by cases t <;> rfl)
  | bl b => exact (kt_bool t).trans (by cases t <;> rfl)
  | int b => exact (kt_int t).trans (by cases t <;> rfl)
  | str b => exact (kt_str t).trans (by cases t <;> rfl)
  | tup b => exact (kt_tuple t).trans (by cases t <;> rfl)
  | lst o b => exact (kt_list t).trans (by cases t <;> rfl)
  | scr b => exact (kt_list t).trans (by cases t <;> rfl)
  | exc c => cases h
  | dic o t' ks vs => cases h
section
variable {K : PySem.W.Frag} {S : Addr → Prop} {H : Hp} {T : Fp}
theorem Rep.ty {d : D} {v : V} (n : d.noX = true) (h : Rep K S H d v T) : TyX K H v (.type d.nm) := by
  cases d with
  | non => rw [h.1]; exact .base .non
  | bl b => rw [h.1]; exact .base (.bl b)
  | int b => rw [h.1]; exact .base (.int b)
  | str b => rw [h.1]; exact .base (.str b)
  | tup ds =>
    obtain ⟨a, vs, rfl, q, _⟩ := h
    exact .base (.tup q)
  | lst o ds =>
    cases o with
    | true => obtain ⟨a, vs, G, rfl, q, _⟩ := h; exact .base (.lst q)
    | false => obtain ⟨_, a, vs, rfl, q, _⟩ := h; exact .base (.lst q.1)
  | scr ns =>
    obtain ⟨_, a, rfl, q⟩ := h
    rcases q with (⟨o, q⟩ | q) | ⟨o, its, n, q, c, _⟩
    · exact .base (.frz q)
    · exact .base (.lst q.1)
    · exact .kList q c
  | exc c => cases n
  | dic o t' ks vs => cases n
end
def dIsi (t : Ty) (d : D) : Option D := if d.noX = true then some (.bl (D.isT t d)) else none
section
variable {X : Cx} {W : WT} {e a b c : Expr} {es : List Expr} {S S' S1 : Addr → Prop} {H H' H1 : Hp} {F F' F1 T : Fp} {σ : L2.St} {r : Env} {pos p p2 : Pos} {x : Str}
theorem dp_isi {A : Env → PR D} (t : Ty) (hg : Gl X "isinstance") (hm : X.mg "isinstance" = none) (hgT : Gl X x) (hmT : X.mg x = none) (hbT : bootBuiltins x = some (.type t.nm)) (ha : DP X W e A) (hn : x ≠ "__name__" := by decide) (hd : (x == ("__debug__" : Str)) = false := by decide)
    (hs : starEach [e, .Name x p2] X.env = (false, eval e X.env) :: starEach [.Name x p2] X.env := by rfl) (hs2 : starEach [.Name x p2] X.env = (false, eval (.Name x p2) X.env) :: starEach [] X.env := by rfl)
    (hp : (backTo pos (starEach [.Name x p2] X.env)).any (·.1) = false := by rfl) : DP X W (.Call (.Name "isinstance" p) [e, .Name x p2] [] pos) (fun r => (A r).bind (opP (dIsi t))) := by
  obtain ⟨q, h, z⟩ := ha
  have pc : PE X (.Name x p2) (tC (.ty t.nm)) := pe_bltn hgT hmT hbT (show RelV (.ty t.nm) (.type t.nm) from rfl) hn hd
  refine ⟨_, pe_callB call_isi hg hm PyProof.Rows.boot_isinstance (pa_cons h (pa_cons pc pa_nil hs2) hs) (by decide) (by decide) hs hp, fun S H r σ F Q x y => ?_⟩
  refine z S H r σ F _ x (PP1.bind (Go.refl _ _ _) y fun d v S1 H1 T1 g1 f1 h1 y1 => ?_)
  obtain ⟨d', e', y2⟩ := opP_some y1
  unfold dIsi at e'
  split at e'
  · rename_i n
    cases e'
    exact ⟨v, .ty t.nm, .type d.nm, .type t.nm, D.isT t d, rfl, .ty _, h1.ty n, kit_ty (isT_kit t d n), y2 _ S1 H1 [] g1 f1 ⟨rfl, rfl⟩⟩
  · cases e'
/-! ### promises of defs -/
/-- .. of one that changes nothing that it is handed -/
def spD (K : PySem.W.Frag) (mg : Str → Option Value) (tb : List Addr) (n : Nat) (m : List D → PR D) : Sp := fun vs H Q E => vs.length = n ∧ ∃ S ds T, RepL K S H ds vs T ∧ Ft S H T ∧ (∀ P ∈ tb, TabG H P) ∧ match m ds with
  | .ok d => ∀ v S' H' T', Go S H T S' H' T' → Rep K S' H' d v T' → Ft S' H' T' → Q v H'
  | .exc c => ∀ S' H', Go S H T S' H' [] → Ft S' H' [] → E (clsV mg c) none H'
  | .stk => False
inductive MR where
  | ok (d o : D)
  | exc (c : Str) (o : D)
  | stk
/-- .. of one that may change its first argument -/
def spM (K : PySem.W.Frag) (mg : Str → Option Value) (tb : List Addr) (n : Nat) (m : List D → MR) : Sp := fun vs H Q E => vs.length = n ∧ 0 < n ∧ ∃ S ds T, RepL K S H ds vs T ∧ Ft S H T ∧ (∀ P ∈ tb, TabG H P) ∧ match m ds with
  | .ok d o => ∀ v S' H' T1 T2, Go S H T S' H' (T1 ++ T2) → Rep K S' H' d v T1 → Rep K S' H' o (vs.getD 0 .non) T2 → Ft S' H' (T1 ++ T2) → Q v H'
  | .exc c o => ∀ S' H' T2, Go S H T S' H' T2 → Rep K S' H' o (vs.getD 0 .non) T2 → Ft S' H' T2 → E (clsV mg c) none H'
  | .stk => False
abbrev FnD (P : Program) (w : World) (K : PySem.W.Frag) (mg : Str → Option Value) (base : Heap) (tb : List Addr) (k : Nat) (f : Addr) (fd : FuncData) (ps : List Str) (m : List D → PR D) : Prop := FnOk P w K mg base (L2N.CX P w) k f fd ps (spD K mg tb ps.length m)
abbrev FnM (P : Program) (w : World) (K : PySem.W.Frag) (mg : Str → Option Value) (base : Heap) (tb : List Addr) (k : Nat) (f : Addr) (fd : FuncData) (ps : List Str) (m : List D → MR) : Prop := FnOk P w K mg base (L2N.CX P w) k f fd ps (spM K mg tb ps.length m)
def callE (n : Nat) (m : List D → PR D) (ds : List D) (r : Env) : Res D := if ds.length = n then (m ds).up r else .stk
variable {k : Nat} {f : Addr} {fd : FuncData} {ps : List Str}
theorem de_call {m : List D → PR D} {A : Env → Res (List D)} (tk : L2N.Takes X W) (G : FnD X.prog X.w X.K X.mg X.base W.tb k f fd ps m) (hr : Room k X.A) (hg : Gl X x) (hm : X.mg x = some (.ref f)) (hk : PySem.W.keepIn X.K (.ref f) = true) (hb : Binds X.K fd ps [])
    (ha : DA X W (e :: es) A) (hdb : (x == ("__debug__" : Str)) = false := by decide) (he : starEach (e :: es) X.env = (false, eval e X.env) :: starEach es X.env := by rfl) (hpl : (backTo pos (starEach es X.env)).any (·.1) = false := by rfl) :
    DE X W (.Call (.Name x p) (e :: es) [] pos) (fun r => (A r).bind (callE ps.length m)) := by
  obtain ⟨t, h, z⟩ := ha
  refine ⟨_, pe_callS G hr hg hm hk hb (fun σ => L2N.passAt tk σ) h hdb he hpl, fun S H r σ F Q x y => ?_⟩
  refine z S H r σ F _ x (EP1.bind (Go.refl _ _ _) y fun ds r1 vs S1 H1 F1 T1 g1 x1 h1 f1 y0 => ?_)
  unfold callE at y0
  split at y0
  · rename_i hl
    have y1 : EP1 (Rep X.K) X W S H F σ Q ((m ds).up r1) := y0
    refine ⟨by rw [← h1.len]; exact hl, S1, ds, T1, h1, f1.left, x1.tab, ?_⟩
    cases em : m ds with
    | stk => rw [em] at y1; exact y1
    | exc c =>
      rw [em] at y1
      intro S2 H2 g2 f2
      have g3 : Go S1 H1 (T1 ++ F1) S2 H2 F1 := by simpa using g2.frameR F1
      refine y1 S2 H2 F1 (g1.trans g3) (x1.go g2 f1.left (fun b hb hc => f1.apart b hc hb) ?_)
      have := Ft.frame (T := F1) (F := T1) f1.comm g2 f2
      simpa using this
    | ok d =>
      rw [em] at y1
      intro v S2 H2 T2 g2 h2 f2
      have g3 : Go S1 H1 (T1 ++ F1) S2 H2 (T2 ++ F1) := g2.frameR F1
      have f3 : Ft S2 H2 (F1 ++ T2) := Ft.frame (T := F1) (F := T1) f1.comm g2 f2
      exact y1 v S2 H2 F1 T2 (g1.trans g3) (x1.go g2 f1.left (fun b hb hc => f1.apart b hc hb) f3.left) h2 f3.comm
  · exact y0.elim
/-- on shared arguments: pure -/
def callP (n : Nat) (m : List D → PR D) (ds : List D) : PR D := if ds.length = n ∧ D.shL ds = true then m ds else .stk
theorem RdC.pp {m : List D → PR D} {t : TA} {A : Env → PR (List D)} {E : L2.St → XK} (hE : ∀ σ c d H, W c d σ H → E σ c d H) (z : ∀ S H r σ F Q, At X.K W.tb S H r σ F → PP1 (RepL X.K) X W S H σ Q (A r) → t σ H Q) :
    RdP X W (tCallS (spD X.K X.mg W.tb ps.length m) E t) (fun r => (A r).bind (callP ps.length m)) := by
  intro S H r σ F Q x y
  refine z S H r σ F _ x (PP1.bind (Go.refl _ _ _) y fun ds vs S1 H1 T1 g1 f1 h1 y1 => ?_)
  unfold callP at y1
  split at y1
  · rename_i c
    have eT : T1 = [] := RepL.sh ds vs T1 c.2 h1
    subst eT
    refine ⟨by rw [← h1.len]; exact c.1, S1, ds, [], h1, f1, (x.ext0 g1 f1).tab, ?_⟩
    cases em : m ds with
    | stk => rw [em] at y1; exact y1
    | exc c => rw [em] at y1; exact fun S2 H2 g2 f2 => hE _ _ _ _ (y1 S2 H2 (g1.trans g2) f2)
    | ok d => rw [em] at y1; exact fun v S2 H2 T2 g2 h2 f2 => y1 v S2 H2 T2 (g1.trans (g2.sub fun _ z => nomatch z)) (Ft.nil f2.sd) h2
  · exact y1.elim
theorem RdC.pe {m : List D → PR D} {t : TA} {A : Env → PR (List D)} {E : L2.St → XK} (hE : ∀ σ c d H, W c d σ H → E σ c d H) (z : ∀ S H r σ F Q, At X.K W.tb S H r σ F → PP1 (RepL X.K) X W S H σ Q (A r) → t σ H Q) :
    RdE X W (tCallS (spD X.K X.mg W.tb ps.length m) E t) (fun r => ((A r).bind (callP ps.length m)).up r) := by
  intro S H r σ F Q x y
  have y : EP1 (Rep X.K) X W S H F σ Q (((A r).bind (callP ps.length m)).up r) := y
  refine z S H r σ F _ x ?_
  cases eA : A r with
  | stk => rw [eA] at y; exact y
  | exc c => rw [eA] at y; exact fun S' H' g f => y S' H' F (go_side g F) (x.ext0 g f)
  | ok ds =>
    rw [eA] at y
    intro vs S1 H1 T1 g1 f1 h1
    have y1 : EP1 (Rep X.K) X W S H F σ Q ((callP ps.length m ds).up r) := y
    unfold callP at y1
    split at y1
    · rename_i c
      have eT : T1 = [] := RepL.sh ds vs T1 c.2 h1
      subst eT
      refine ⟨by rw [← h1.len]; exact c.1, S1, ds, [], h1, f1, (x.ext0 g1 f1).tab, ?_⟩
      have x1 := x.ext0 g1 f1
      cases em : m ds with
      | stk => rw [em] at y1; exact y1
      | exc c => rw [em] at y1; exact fun S2 H2 g2 f2 => hE _ _ _ _ (y1 S2 H2 F (go_side (g1.trans g2) F) (x1.ext0 g2 f2))
      | ok d =>
        rw [em] at y1
        intro v S2 H2 T2 g2 h2 f2
        obtain ⟨a1, a2, a3⟩ := own_end (T1 := []) (go_side g1 F) x1 g2 f2
        exact y1 v S2 H2 F T2 a1 a2 h2 a3
    · exact y1.elim
theorem dp_call {m : List D → PR D} {A : Env → PR (List D)} (tk : L2N.Takes X W) (G : FnD X.prog X.w X.K X.mg X.base W.tb k f fd ps m) (hr : Room k X.A) (hg : Gl X x) (hm : X.mg x = some (.ref f)) (hk : PySem.W.keepIn X.K (.ref f) = true) (hb : Binds X.K fd ps [])
    (ha : DPA X W (e :: es) A) (hdb : (x == ("__debug__" : Str)) = false := by decide) (he : starEach (e :: es) X.env = (false, eval e X.env) :: starEach es X.env := by rfl) (hpl : (backTo pos (starEach es X.env)).any (·.1) = false := by rfl) :
    DP X W (.Call (.Name x p) (e :: es) [] pos) (fun r => (A r).bind (callP ps.length m)) := by
  obtain ⟨t, h, z⟩ := ha
  exact ⟨_, pe_callS G hr hg hm hk hb (fun σ => L2N.passAt tk σ) h hdb he hpl, RdC.pp (fun _ _ _ _ h => h) z⟩
theorem dpe_call {m : List D → PR D} {A : Env → PR (List D)} (tk : L2N.Takes X W) (G : FnD X.prog X.w X.K X.mg X.base W.tb k f fd ps m) (hr : Room k X.A) (hg : Gl X x) (hm : X.mg x = some (.ref f)) (hk : PySem.W.keepIn X.K (.ref f) = true) (hb : Binds X.K fd ps [])
    (ha : DPA X W (e :: es) A) (hdb : (x == ("__debug__" : Str)) = false := by decide) (he : starEach (e :: es) X.env = (false, eval e X.env) :: starEach es X.env := by rfl) (hpl : (backTo pos (starEach es X.env)).any (·.1) = false := by rfl) :
    DE X W (.Call (.Name x p) (e :: es) [] pos) (fun r => ((A r).bind (callP ps.length m)).up r) := by
  obtain ⟨t, h, z⟩ := ha
  exact ⟨_, pe_callS G hr hg hm hk hb (fun σ => L2N.passAt tk σ) h hdb he hpl, RdC.pe (fun _ _ _ _ h => h) z⟩
end
end DL

/-! DMut: what a name owns, changed in place: a call that changes its first argument, append, pop, a place stored. -/
namespace DL
open PySem PySem.Spec PyProof.Rows L2
section
variable {X : Cx} {W : WT} {K : PySem.W.Frag} {tb : List Addr} {e a b c : Expr} {es : List Expr} {S S' S1 : Addr → Prop} {H H' H1 : Hp} {F F' F1 T : Fp} {σ : L2.St} {r : Env} {pos p p2 apos : Pos} {x : Str}
theorem upd_go {a : Addr} {vs : List V} {o' : HO} (sd : ∀ a, S a → H a ≠ none) (h : H a = some (.lst vs)) : Go S H [a] S (upd H a o') [a] := by
  refine .mk' (fun _ z => z) (fun b u e n => ?_) (fun b q => ?_) (fun b z => .inl z) (fun b z => .inl z) (fun b z => ?_)
  · rw [upd_ne (fun z => n (by simp [z]))]; exact e
  · by_cases z : b = a
    · subst z; rw [upd_same]; simp
    · rw [upd_ne z]; exact q
  · have : b = a := by simpa using z
    subst this
    rw [h]; trivial
theorem upd_sd {a : Addr} {o' : HO} (sd : ∀ a, S a → H a ≠ none) : ∀ b, S b → upd H a o' b ≠ none := sd_new sd
/-- a list that a name owns, changed: the items' footprint G' stays with it, T' goes out -/
theorem At.upd (q : At K tb S H r σ F) {i : Nat} {ds : List D} (e : r[i]? = some (some (.lst true ds))) : ∃ a vs G F0, σ[i]? = some (some (.ref a)) ∧ H a = some (.lst vs) ∧ RepL K S H ds vs G ∧ At K tb S H (r.set i none) σ F0 ∧ Ft S H ((a :: G) ++ F0) ∧ (∀ b, b ∈ (a :: G) ++ F0 ↔ b ∈ F) ∧
    ∀ ds' vs' G' T', RepL K S H ds' vs' G' → Ft S H (a :: ((T' ++ G') ++ F0)) → ∃ F', At K tb S (L2.upd H a (.lst vs')) (r.set i (some (.lst true ds'))) σ F' ∧ (∀ b ∈ F', b ∈ (a :: G') ++ F0) ∧ Ft S (L2.upd H a (.lst vs')) (T' ++ F') ∧ ∀ d v, Rep K S H d v T' → Rep K S (L2.upd H a (.lst vs')) d v T' := by
  have l : i < r.length := (List.getElem?_eq_some_iff.mp e).1
  obtain ⟨v, T, F0, h1, h2, h3, h4, h5⟩ := q.take e
  obtain ⟨a, vs, G, rfl, ha, rfl, rl⟩ := h2
  refine ⟨a, vs, G, F0, h1, ha, rl, h3, h4, h5, fun ds' vs' G' T' rl' f => ?_⟩
  have sd := q.ft.sd
  have na : ∀ b ∈ (T' ++ G') ++ F0, b ∉ [a] := fun b z y => by
    have : b = a := by simpa using y
    subst this
    exact (List.nodup_cons.mp f.nd).1 z
  have fa : Ft S H [a] := (show Ft S H ([a] ++ ((T' ++ G') ++ F0)) from f).left
  have g : Go S H [a] S (L2.upd H a (.lst vs')) [a] := upd_go sd ha
  have fa' : Ft S (L2.upd H a (.lst vs')) [a] := ⟨by simp, fa.dj, fun b z => by
    have : b = a := by simpa using z
    subst this; rw [upd_same]; trivial, sd_new sd⟩
  have all := Ft.frame (T := (T' ++ G') ++ F0) (F := [a]) ((show Ft S H ([a] ++ ((T' ++ G') ++ F0)) from f).comm) g fa'
  have x0 : At K tb S (L2.upd H a (.lst vs')) (r.set i none) σ F0 := h3.go g fa (fun b z => na b (by simp [z])) (all.left.right)
  have rl2 : RepL K S (L2.upd H a (.lst vs')) ds' vs' G' := RepL.go g fa ds' vs' G' (fun b z => na b (by simp [z])) rl'
  have rp : Rep K S (L2.upd H a (.lst vs')) (.lst true ds') (.ref a) (a :: G') := ⟨a, vs', G', rfl, upd_same, rfl, rl2⟩
  have pm : (((T' ++ G') ++ F0) ++ [a]).Perm (T' ++ ((a :: G') ++ F0)) := by
    rw [List.append_assoc, List.append_assoc]
    refine List.Perm.append_left T' ?_
    rw [← List.append_assoc]
    exact List.perm_append_comm
  have all2 := all.perm pm
  obtain ⟨F', y1, y2⟩ := x0.back (i := i) (d := .lst true ds') (T := a :: G') (by simpa using l) h1 rp all2.right
  rw [List.set_set] at y1
  refine ⟨F', y1, y2, ⟨List.nodup_append.mpr ⟨all2.left.nd, y1.ft.nd, fun b z c y e => ?_⟩, fun b z => ?_, fun b z => ?_, sd_new sd⟩, fun d v z => Rep.go g fa d v T' (fun b z => na b (by simp [z])) z⟩
  · subst e
    exact all2.apart b z (y2 b y)
  · rcases List.mem_append.mp z with z | z
    · exact all2.left.dj b z
    · exact y1.ft.dj b z
  · rcases List.mem_append.mp z with z | z
    · exact all2.left.mu b z
    · exact y1.ft.mu b z
/-- .. as a step -/
theorem At.upd_go {a : Addr} {G G' T' F0 : Fp} {vs vs' : List V} {F' : Fp} (sd : ∀ a, S a → H a ≠ none) (ha : H a = some (.lst vs)) (h5 : ∀ b, b ∈ (a :: G) ++ F0 ↔ b ∈ F) (hG : ∀ b ∈ T' ++ G', b ∈ G ++ T) (y2 : ∀ b ∈ F', b ∈ (a :: G') ++ F0) : Go S H (T ++ F) S (L2.upd H a (.lst vs')) (T' ++ F') := by
  have g : Go S H [a] S (L2.upd H a (.lst vs')) [a] := DL.upd_go sd ha
  have aF : a ∈ F := (h5 a).mp (by simp)
  have aTF : ∀ c ∈ [a], c ∈ T ++ F := fun c z => by
    have : c = a := by simpa using z
    subst this
    simp [aF]
  have g2 := g.wide (F2 := T ++ F) aTF
  refine ⟨g2.sS, g2.fr, g2.tb, g2.dom, fun b z => .inl ?_, g2.newS⟩
  have inG : ∀ b, b ∈ G → b ∈ F := fun b z => (h5 b).mp (by simp [z])
  have inF0 : ∀ b, b ∈ F0 → b ∈ F := fun b z => (h5 b).mp (by simp [z])
  have tg : ∀ b, b ∈ G ++ T → b ∈ T ++ F := fun b z => by
    rcases List.mem_append.mp z with z | z
    · exact List.mem_append_right _ (inG b z)
    · exact List.mem_append_left _ z
  rcases List.mem_append.mp z with z | z
  · exact tg b (hG b (List.mem_append_left _ z))
  · rcases List.mem_append.mp (y2 b z) with z | z
    · rcases List.mem_cons.mp z with z | z
      · subst z; exact List.mem_append_right _ aF
      · exact tg b (hG b (List.mem_append_right _ z))
    · exact List.mem_append_right _ (inF0 b z)
/-! ### x.append(e), x.pop() -/
def isL (o : Option (Option D)) : Bool := match o with
  | some (some (.lst _ _)) => true
  | _ => false
theorem tyV_lst {o : Bool} {ds : List D} {v : V} {T : Fp} (h : Rep K S H (.lst o ds) v T) : tyV K "list" v H := by
  cases o with
  | true => obtain ⟨a, vs, G, rfl, q, _⟩ := h; exact .inl ⟨rfl, vs, .inl (.inl q)⟩
  | false => obtain ⟨_, a, vs, rfl, q, _⟩ := h; exact .inl ⟨rfl, vs, q.read⟩
theorem At.isL (q : At K tb S H r σ F) {i : Nat} (h : isL r[i]? = true) : ∃ v, σ[i]? = some (some v) ∧ tyV K "list" v H := by
  unfold DL.isL at h
  split at h
  · rename_i o ds e
    obtain ⟨v, T, h1, h2, _⟩ := q.get e
    exact ⟨v, h1, tyV_lst h2⟩
  · cases h
def appE (i : Nat) (d : D) (r : Env) : Res D := match r[i]? with
  | some (some (.lst true ds)) => if ds.length < sizeLine then .ok .non (r.set i (some (.lst true (ds ++ [d])))) else .stk
  | _ => .stk
theorem de_append (i : Nat) {E : Env → Res D} (he : DE X W e E) (hN : X.N[i]? = some x := by rfl) (hv : Vis X.env.scope x := by first | exact Or.inl rfl | exact Or.inr (Or.inl rfl) | exact Or.inr (Or.inr rfl))
    (hd : (x == ("__debug__" : Str)) = false := by decide) (hcd : (x == ("__classdict__" : Str)) = false := by decide)
    (hbase : attributeBase (.Name x p) "append" X.env (eval (.Name x p) X.env) = eval (.Name x p) X.env := by rfl)
    (hfew : ((backTo pos (starEach [e] X.env)).all (fun x => !x.1) && (backToKw pos (keywordEach [] X.env)).all (fun x => x.1.isSome)
      && decide ([e].length + ([] : List Keyword).length + (if ([] : List Keyword).isEmpty then 0 else 1) < 30)) = true := by rfl)
    (hline : (apos.endLine == pos.line) = true := by rfl) (hs : starEach [e] X.env = (false, eval e X.env) :: starEach [] X.env := by rfl) (hplain : (backTo pos (starEach [] X.env)).any (·.1) = false := by rfl) :
    DE X W (.Call (.Attribute (.Name x p) "append" apos) [e] [] pos) (fun r => if isL r[i]? = true then (E r).bind (appE i) else .stk) := by
  obtain ⟨t, h, z⟩ := he
  refine ⟨_, pe_bm PySem.F.plainAttrs_list PySem.F.slot_list_append PySem.F.type_list_append mt_append (pe_var hN hv hd hcd) (pa_cons h pa_nil hs) hbase hfew hline hs hplain, fun S H r σ F Q q y => ?_⟩
  have y : EP1 (Rep X.K) X W S H F σ Q (if isL r[i]? = true then (E r).bind (appE i) else .stk) := y
  by_cases hl : isL r[i]? = true
  · rw [if_pos hl] at y
    obtain ⟨v, hv1, hv2⟩ := q.isL hl
    refine ⟨v, hv1, hv2, z S H r σ F _ q (EP1.bind (Go.refl _ _ _) y fun d r1 w S1 H1 F1 T1 g1 q1 h1 f1 y1 => ?_)⟩
    unfold appE at y1
    split at y1
    · rename_i ds e1
      split at y1
      · rename_i hz
        obtain ⟨a, vs, G, F0, s1, ha, rl, x0, f0, m0, k⟩ := q1.upd e1
        rw [hv1] at s1
        cases s1
        have pm : (a :: ((G ++ T1) ++ F0)).Perm (T1 ++ ((a :: G) ++ F0)) := by
          have : ((a :: G) ++ (T1 ++ F0)).Perm (T1 ++ ((a :: G) ++ F0)) := List.perm_append_comm_assoc (a :: G) T1 F0
          simpa [List.append_assoc] using this
        have f2 : Ft S1 H1 (a :: (([] ++ (G ++ T1)) ++ F0)) := by
          refine ⟨?_, fun b z => ?_, fun b z => ?_, f1.sd⟩
          · have := pm.nodup_iff.mpr (List.nodup_append.mpr ⟨f1.left.nd, f0.nd, fun b z c y e => by subst e; exact f1.apart b z ((m0 b).mp y)⟩)
            simpa using this
          · have z' := pm.mem_iff.mp (by simpa using z)
            rcases List.mem_append.mp z' with z' | z'
            · exact f1.left.dj b z'
            · exact f0.dj b z'
          · have z' := pm.mem_iff.mp (by simpa using z)
            rcases List.mem_append.mp z' with z' | z'
            · exact f1.left.mu b z'
            · exact f0.mu b z'
        obtain ⟨F', k1, k2, k3, _⟩ := k (ds ++ [d]) (vs ++ [w]) (G ++ T1) [] (rl.append (RepL.one h1)) f2
        refine ⟨a, vs, w, rfl, rfl, ha, by rw [← rl.len]; exact hz, y1 .non S1 _ F' [] (g1.trans ?_) k1 ⟨rfl, rfl⟩ k3⟩
        exact At.upd_go (T := T1) (G := G) f1.sd ha m0 (fun b z => by simpa using z) k2
      · exact y1.elim
    · exact y1.elim
  · rw [if_neg hl] at y
    exact y.elim
theorem RepL.last {ds : List D} {vs : List V} {d : D} (h : RepL K S H (ds ++ [d]) vs T) : ∃ ws w G1 G2, vs = ws ++ [w] ∧ T = G1 ++ G2 ∧ RepL K S H ds ws G1 ∧ Rep K S H d w G2 := by
  induction ds generalizing vs T with
  | nil =>
    obtain ⟨v, t, F1, F2, e1, e2, h1, h2, h3⟩ := h
    subst h2 h3 e1 e2
    exact ⟨[], v, [], F1, rfl, by simp, ⟨rfl, rfl⟩, h1⟩
  | cons d0 ds ih =>
    obtain ⟨v, t, F1, F2, e1, e2, h1, h2⟩ := h
    obtain ⟨ws, w, G1, G2, e3, e4, h3, h4⟩ := ih h2
    subst e1 e2 e3 e4
    exact ⟨v :: ws, w, F1 ++ G1, G2, rfl, by simp, ⟨v, ws, F1, G1, rfl, rfl, h1, h3⟩, h4⟩
def popE (i : Nat) (r : Env) : Res D := match r[i]? with
  | some (some (.lst true ds)) => match ds.getLast? with
    | some d => .ok d (r.set i (some (.lst true ds.dropLast)))
    | none => .stk
  | _ => .stk
theorem de_pop (i : Nat) (hN : X.N[i]? = some x := by rfl) (hv : Vis X.env.scope x := by first | exact Or.inl rfl | exact Or.inr (Or.inl rfl) | exact Or.inr (Or.inr rfl))
    (hd : (x == ("__debug__" : Str)) = false := by decide) (hcd : (x == ("__classdict__" : Str)) = false := by decide)
    (hbase : attributeBase (.Name x p) "pop" X.env (eval (.Name x p) X.env) = eval (.Name x p) X.env := by rfl) (hline : (apos.endLine == pos.line) = true := by rfl) :
    DE X W (.Call (.Attribute (.Name x p) "pop" apos) [] [] pos) (popE i) := by
  refine ⟨_, pe_bm0 PySem.F.plainAttrs_list PySem.F.slot_list_pop PySem.F.type_list_pop mt_pop (pe_var hN hv hd hcd) hbase hline, fun S H r σ F Q q y => ?_⟩
  unfold popE at y
  split at y
  · rename_i ds e1
    split at y
    · rename_i d e2
      obtain ⟨a, vs, G, F0, s1, ha, rl, x0, f0, m0, k⟩ := q.upd e1
      have eds : ds = ds.dropLast ++ [d] := by
        have hne : ds ≠ [] := fun z => by rw [z] at e2; cases e2
        rw [List.getLast?_eq_some_getLast hne] at e2
        cases e2
        exact (List.dropLast_concat_getLast hne).symm
      rw [eds] at rl
      obtain ⟨ws, w, G1, G2, e3, e4, h3, h4⟩ := rl.last
      subst e3 e4
      have pm : (a :: ((G2 ++ G1) ++ F0)).Perm ((a :: (G1 ++ G2)) ++ F0) := by
        refine List.Perm.cons a (List.Perm.append_right F0 List.perm_append_comm)
      obtain ⟨F', k1, k2, k3, k4⟩ := k ds.dropLast ws G1 G2 h3 (f0.perm pm.symm)
      refine ⟨.ref a, s1, tyV_lst (o := true) (ds := ds) (T := a :: (G1 ++ G2)) ⟨a, _, _, rfl, ha, rfl, by rw [eds]; exact rl⟩, a, ws ++ [w], w, rfl, rfl, ha, by simp, ?_⟩
      rw [List.dropLast_concat]
      exact y w S _ F' G2 (by simpa using At.upd_go (T := []) (G := G1 ++ G2) (T' := G2) (G' := G1) q.ft.sd ha m0 (fun b z => by simp only [List.mem_append] at z ⊢; rcases z with z | z <;> simp [z]) k2) k1 (k4 d w h4) k3
    · exact y.elim
  · exact y.elim
/-! ### a call that changes its first argument, a name's own -/
def callME (n : Nat) (m : List D → MR) (i : Nat) (ds : List D) (r : Env) : Res D := match r[i]? with
  | some (some d0) => if ds.length + 1 = n then match m (d0 :: ds) with
    | .ok d o => .ok d (r.set i (some o))
    | .exc c o => .exc c (r.set i (some o))
    | .stk => .stk
    else .stk
  | _ => .stk
variable {k : Nat} {f : Addr} {fd : FuncData} {ps : List Str} {y : Str}
theorem de_callM (i : Nat) {m : List D → MR} {A : Env → Res (List D)} (tk : L2N.Takes X W) (G : FnM X.prog X.w X.K X.mg X.base W.tb k f fd ps m) (hr : Room k X.A) (hg : Gl X x) (hm : X.mg x = some (.ref f)) (hk : PySem.W.keepIn X.K (.ref f) = true) (hb : Binds X.K fd ps [])
    (ha : DA X W es A) (hN : X.N[i]? = some y := by rfl) (hv : Vis X.env.scope y := by first | exact Or.inl rfl | exact Or.inr (Or.inl rfl) | exact Or.inr (Or.inr rfl)) (hdy : (y == ("__debug__" : Str)) = false := by decide) (hcd : (y == ("__classdict__" : Str)) = false := by decide)
    (hdb : (x == ("__debug__" : Str)) = false := by decide) (he : starEach (.Name y p2 :: es) X.env = (false, eval (.Name y p2) X.env) :: starEach es X.env := by rfl) (hpl : (backTo pos (starEach es X.env)).any (·.1) = false := by rfl) :
    DE X W (.Call (.Name x p) (.Name y p2 :: es) [] pos) (fun r => match r[i]? with
      | some (some _) => (A r).bind (callME ps.length m i)
      | _ => .stk) := by
  obtain ⟨t, h, z⟩ := ha
  refine ⟨_, pe_callS G hr hg hm hk hb (fun σ => L2N.passAt tk σ) (pa_cons (pe_var hN hv hdy hcd) h he) hdb he hpl, fun S H r σ F Q q w => ?_⟩
  dsimp only at w
  split at w
  · rename_i d00 e00
    obtain ⟨v0, T00, s0, _, _⟩ := q.get e00
    refine ⟨v0, s0, z S H r σ F _ q (EP1.bind (Go.refl _ _ _) w fun ds r1 vs S1 H1 F1 T1 g1 q1 h1 f1 w1 => ?_)⟩
    unfold callME at w1
    split at w1
    · rename_i d0 e0
      split at w1
      · rename_i hl
        obtain ⟨v, T0, F0, s1, h0, x0, f0, m0⟩ := q1.take e0
        rw [s0] at s1
        cases s1
        have li : i < r1.length := (List.getElem?_eq_some_iff.mp e0).1
        have pmem : ∀ b, b ∈ (T0 ++ T1) ++ F0 ↔ b ∈ T1 ++ F1 := fun b => by
          have := m0 b
          simp only [List.mem_append] at this ⊢
          constructor
          · rintro ((z | z) | z)
            · exact .inr (this.mp (.inl z))
            · exact .inl z
            · exact .inr (this.mp (.inr z))
          · rintro (z | z)
            · exact .inl (.inr z)
            · exact (this.mpr z).elim (fun z => .inl (.inl z)) .inr
        have f2 : Ft S1 H1 ((T0 ++ T1) ++ F0) := by
          have nd : (T1 ++ (T0 ++ F0)).Nodup := List.nodup_append.mpr ⟨f1.left.nd, f0.nd, fun b z c y e => by subst e; exact f1.apart b z ((m0 b).mp y)⟩
          have pm : (T1 ++ (T0 ++ F0)).Perm ((T0 ++ T1) ++ F0) := by
            rw [List.append_assoc]
            exact List.perm_append_comm_assoc T1 T0 F0
          exact ⟨pm.nodup_iff.mp nd, fun b z => f1.dj b ((pmem b).mp z), fun b z => f1.mu b ((pmem b).mp z), f1.sd⟩
        refine ⟨by rw [List.length_cons, ← h1.len]; exact hl, by omega, S1, d0 :: ds, T0 ++ T1, ⟨v0, vs, T0, T1, rfl, rfl, h0, h1⟩, f2.left, q1.tab, ?_⟩
        have gw : ∀ {S2 : Addr → Prop} {H2 : Hp} {G2 : Fp}, Go S1 H1 (T0 ++ T1) S2 H2 G2 → Go S H F S2 H2 (G2 ++ F0) := fun g2 => g1.trans ((g2.frameR F0).wide fun b z => (pmem b).mp z)
        cases em : m (d0 :: ds) with
        | stk => rw [em] at w1; exact w1
        | exc c o =>
          rw [em] at w1
          intro S2 H2 T2 g2 h2 f3
          have f4 : Ft S2 H2 (F0 ++ T2) := Ft.frame (T := F0) (F := T0 ++ T1) f2.comm g2 f3
          have x2 : At X.K W.tb S2 H2 (r1.set i none) σ F0 := x0.go g2 f2.left (fun b hb hc => f2.apart b hc hb) f4.left
          obtain ⟨F', b1, b2⟩ := x2.back (i := i) (by simpa using li) s0 h2 f4.comm
          rw [List.set_set] at b1
          exact w1 S2 H2 F' ((gw g2).sub b2) b1
        | ok d o =>
          rw [em] at w1
          intro u S2 H2 T2 T3 g2 hu h2 f3
          have f4 : Ft S2 H2 (F0 ++ (T2 ++ T3)) := Ft.frame (T := F0) (F := T0 ++ T1) f2.comm g2 f3
          have x2 : At X.K W.tb S2 H2 (r1.set i none) σ F0 := x0.go g2 f2.left (fun b hb hc => f2.apart b hc hb) f4.left
          have f5 : Ft S2 H2 (T2 ++ (T3 ++ F0)) := f4.perm (by rw [← List.append_assoc T2]; exact List.perm_append_comm)
          obtain ⟨F', b1, b2⟩ := x2.back (i := i) (by simpa using li) s0 h2 f5.right
          rw [List.set_set] at b1
          refine w1 u S2 H2 F' T2 ((gw g2).sub fun b z => ?_) b1 hu ⟨List.nodup_append.mpr ⟨f5.left.nd, b1.ft.nd, fun b z c y e => by subst e; exact f5.apart b z (b2 b y)⟩, fun b z => ?_, fun b z => ?_, f5.sd⟩
          · rcases List.mem_append.mp z with z | z
            · simp [z]
            · have := b2 b z
              simp only [List.mem_append] at this ⊢
              rcases this with z | z <;> simp [z]
          · exact (List.mem_append.mp z).elim (f5.left.dj b) (b1.ft.dj b)
          · exact (List.mem_append.mp z).elim (f5.left.mu b) (b1.ft.mu b)
      · exact w1.elim
    · exact w1.elim
  · exact w.elim
end
end DL

/-! DIter: targets, what is walked, comprehensions. -/
namespace DL
open PySem PySem.Spec PyProof.Rows L2
section
variable {X : Cx} {W : WT} {K : PySem.W.Frag} {e a b c tg : Expr} {es : List Expr} {S S' S1 : Addr → Prop} {H H' H1 : Hp} {F F' F1 T : Fp} {σ : L2.St} {r : Env} {pos p p2 : Pos} {x : Str}
/-! ### the reading that is asked of a judgement -/
def tE (X : Cx) (W : WT) (E : Env → Res D) : TE := fun σ H Q => ∃ S r F, At X.K W.tb S H r σ F ∧ EP1 (Rep X.K) X W S H F σ Q (E r)
def tT (X : Cx) (W : WT) (E : Env → Res Bool) : TT := fun σ H Q => ∃ S r F, At X.K W.tb S H r σ F ∧ EP1 RB X W S H F σ Q (E r)
theorem DE.pe {E : Env → Res D} (h : DE X W e E) : PE X e (tE X W E) := by
  obtain ⟨t, q, z⟩ := h
  exact ⟨fun pins s σ H Q I ⟨S, r, F, x, y⟩ => q.run pins s σ H Q I (z S H r σ F Q x y)⟩
theorem DT.pt {E : Env → Res Bool} (h : DT X W e E) : PT X e (tT X W E) := by
  obtain ⟨t, q, z⟩ := h
  exact ⟨fun pins s σ H Q I ⟨S, r, F, x, y⟩ => q.run pins s σ H Q I (z S H r σ F Q x y)⟩
/-! ### targets: they change the slots ws alone -/
def GP (X : Cx) (tb : List Addr) (ws : List Nat) (G : D → Env → Option Env) (v : V) (S : Addr → Prop) (H : Hp) (r : Env) (σ : L2.St) (F : Fp) (d : D) (T : Fp) (Q : L2.St → Hp → Prop) : Prop :=
  ∃ r', G d r = some r' ∧ ∀ σ' F', At X.K tb S H r' σ' F' → (∀ b ∈ F', b ∈ T ++ F) → (∀ j, j ∉ ws → σ'[j]? = σ[j]?) → σ'.length = σ.length → Q σ' H
def DG (X : Cx) (ws : List Nat) (tg : Expr) (G : D → Env → Option Env) : Prop := ∃ g, PG X tg g ∧ ∀ tb S H r σ F d v T Q, At X.K tb S H r σ F → Rep X.K S H d v T → Ft S H (T ++ F) → GP X tb ws G v S H r σ F d T Q → g v σ H Q
def tG (X : Cx) (ws : List Nat) (G : D → Env → Option Env) : TG := fun v σ H Q => ∃ tb S r F d T, At X.K tb S H r σ F ∧ Rep X.K S H d v T ∧ Ft S H (T ++ F) ∧ GP X tb ws G v S H r σ F d T Q
theorem DG.pg {ws : List Nat} {G : D → Env → Option Env} (h : DG X ws tg G) : PG X tg (tG X ws G) := by
  obtain ⟨g, q, z⟩ := h
  exact ⟨fun pins s σ H v u Q I rv ⟨tb, S, r, F, d, T, x, y, f, w⟩ => q.run pins s σ H v u Q I rv (z tb S H r σ F d v T Q x y f w)⟩
def setG (i : Nat) (d : D) (r : Env) : Option Env := if i < r.length then some (r.set i (some d)) else none
theorem dg_name (i : Nat) (hN : X.N.Nodup) (hi : X.N[i]? = some x) (hx : Loc X.env.scope x) (hf : X.fn x = true ∨ X.env.scope.names.lookup x = some .local := by first | exact .inl rfl | exact .inr rfl | assumption) : DG X [i] (.Name x pos) (setG i) := by
  refine ⟨_, pg_name hN hi hx hf, fun tb S H r σ F d v T Q q h f ⟨r', e, k⟩ => ?_⟩
  unfold setG at e
  split at e
  · rename_i l
    cases e
    obtain ⟨F', y1, y2⟩ := q.put l h f
    exact k _ F' y1 y2 (fun j hj => by rw [List.getElem?_set_ne (fun e => hj (by simp [e]))]) (by simp)
  · cases e
/-- several, for the items of a tuple: all shared -/
def DGs (X : Cx) (ws : List Nat) (ts : List Expr) (G : List D → Env → Option Env) : Prop := ∃ g, PGs X ts g ∧ ∀ tb S H r σ F ds vs Q, At X.K tb S H r σ F → RepL X.K S H ds vs [] →
  (∃ r', G ds r = some r' ∧ ∀ σ' F', At X.K tb S H r' σ' F' → (∀ b ∈ F', b ∈ F) → (∀ j, j ∉ ws → σ'[j]? = σ[j]?) → σ'.length = σ.length → Q σ' H) → g vs σ H Q
def nilG (ds : List D) (r : Env) : Option Env := if ds.length = 0 then some r else none
def consG (G : D → Env → Option Env) (G' : List D → Env → Option Env) (ds : List D) (r : Env) : Option Env := match ds with
  | d :: ds => (G d r).bind fun r1 => G' ds r1
  | [] => none
theorem dgs_nil : DGs X [] [] nilG := by
  refine ⟨_, pgs_nil, fun tb S H r σ F ds vs Q q h ⟨r', e, k⟩ => ?_⟩
  unfold nilG at e
  split at e
  · rename_i l
    cases e
    exact ⟨List.eq_nil_of_length_eq_zero (by rw [← h.len]; exact l), k σ F q (fun _ z => z) (fun _ _ => rfl) rfl⟩
  · cases e
theorem dgs_cons {w1 w2 : List Nat} {t : Expr} {ts : List Expr} {G : D → Env → Option Env} {G' : List D → Env → Option Env} (h1 : DG X w1 t G) (h2 : DGs X w2 ts G')
    (hs : (assignEach (t :: ts) X.env).map (·.2) = assign t X.env :: (assignEach ts X.env).map (·.2) := by rfl) : DGs X (w1 ++ w2) (t :: ts) (consG G G') := by
  obtain ⟨g, q1, z1⟩ := h1; obtain ⟨g', q2, z2⟩ := h2
  refine ⟨_, pgs_cons q1 q2 hs, fun tb S H r σ F ds vs Q q h ⟨r', e, k⟩ => ?_⟩
  cases ds with
  | nil => cases e
  | cons d ds =>
    obtain ⟨v, t, F1, F2, e1, e2, h1, h2⟩ := h
    obtain ⟨rfl, rfl⟩ := List.append_eq_nil_iff.mp e2.symm
    subst e1
    have e : (G d r).bind (fun r1 => G' ds r1) = some r' := e
    cases eg : G d r with
    | none => rw [eg] at e; cases e
    | some r1 =>
      rw [eg] at e
      refine ⟨v, t, rfl, z1 tb S H r σ F d v [] _ q h1 (by simpa using q.ft) ⟨r1, eg, fun σ1 F1 a1 a2 a3 a4 => ?_⟩⟩
      refine z2 tb S H r1 σ1 F1 ds t Q a1 h2 ⟨r', e, fun σ2 F2 b1 b2 b3 b4 => ?_⟩
      exact k σ2 F2 b1 (fun b z => by simpa using a2 b (b2 b z)) (fun j hj => by rw [b3 j (fun z => hj (by simp [z])), a3 j (fun z => hj (by simp [z]))]) (b4.trans a4)
def tupG (n : Nat) (G : List D → Env → Option Env) (d : D) (r : Env) : Option Env := match d with
  | .tup ds => if ds.length = n ∧ D.shL ds = true then G ds r else none
  | _ => none
theorem dg_tup {ws : List Nat} {ts : List Expr} {kt n : Nat} {G : List D → Env → Option Env} (hc : X.calm = true) (h : DGs X ws ts G) (hn : (assignEach ts X.env).length = n := by rfl) (hst : (assignEach ts X.env).findIdx? (·.1) = none := by rfl) :
    DG X ws (.Tuple ts kt pos) (tupG n G) := by
  obtain ⟨g, q1, z1⟩ := h
  refine ⟨_, pg_tup hc q1 hn hst, fun tb S H r σ F d v T Q q h f ⟨r', e, k⟩ => ?_⟩
  cases d with
  | tup ds =>
    have e : (if ds.length = n ∧ D.shL ds = true then G ds r else none) = some r' := e
    split at e
    · rename_i l
      obtain ⟨a, vs, rfl, hq, rl⟩ := h.tup_at l.2
      exact ⟨a, vs, rfl, hq, by rw [← rl.len]; exact l.1, z1 tb S H r σ F ds vs Q q rl ⟨r', e, fun σ' F' a1 a2 a3 a4 => k σ' F' a1 (fun b z => List.mem_append_right _ (a2 b z)) a3 a4⟩⟩
    · cases e
  | _ => cases e
/-! ### what is walked -/
structure ItOk (K : PySem.W.Frag) (J : It) (P : (Addr → Prop) → Hp → Prop) (ds : List D) : Prop where
  item : ∀ i d S H, ds[i]? = some d → P S H → (∀ a, S a → H a ≠ none) → J.go i H ∧ ∀ x H', J.yld i H x H' → Go S H [] S H' [] ∧ (∀ a, S a → H' a ≠ none) ∧ Rep K S H' d x []
  stop : ∀ S H, P S H → J.stop ds.length H
def IP1 (X : Cx) (W : WT) (S : Addr → Prop) (H : Hp) (F : Fp) (σ : L2.St) (R : It → Hp → Prop) : Res (List D) → Prop
  | .ok ds r => ∀ J S' H' F' T P, Go S H F S' H' (T ++ F') → At X.K W.tb S' H' r σ F' → Ft S' H' (T ++ F') → ItOk X.K J P ds → P S' H' →
      (∀ S1 H1 F1 S2 H2 F2, P S1 H1 → Ft S1 H1 (T ++ F1) → Go S1 H1 F1 S2 H2 F2 → P S2 H2) → R J H'
  | .exc c r => ∀ S' H' F', Go S H F S' H' F' → At X.K W.tb S' H' r σ F' → W (clsV X.mg c) none σ H'
  | .stk => False
def DI (X : Cx) (W : WT) (tg iter : Expr) (E : Env → Res (List D)) : Prop := ∃ wi, PI X tg iter wi ∧ ∀ S H r σ F R, At X.K W.tb S H r σ F → IP1 X W S H F σ R (E r) → wi σ H R
/-- lists, tuples, the script -/
def iSeq (K : PySem.W.Frag) (tl : TE) : TI := fun σ H R => tl σ H fun x H1 => ∃ a, x = .ref a ∧ (((∃ xs, SqL K H1 a xs) ∧ R (Itl K a) H1) ∨ ((∃ xs, SqT K H1 a xs) ∧ R (Itt K a) H1))
theorem pi_seq {l : Expr} {tl : TE} (hl : PE X l tl) : PI X tg l (iSeq X.K tl) := by
  constructor
  intro pins s σ H R I h
  refine thn (hl.run pins s σ H _ I h) fun v s1 ⟨y, H1, I1, r1, a, ey, q⟩ => ?_
  subst ey
  have ev : v = .ref a := r1
  subst ev
  have keep : ∀ (o : Obj), Inv X pins σ H1 { s1 with heap := s1.heap.push o } := fun o => I1.kept (t' := s1.toks) fun _ _ z => Heap.get?_push_of_some _ z
  have own : ∀ z ∈ [s1.heap.objs.size], FpOk X pins H1 z := fun z hz => by
    rw [List.mem_singleton.mp hz]
    exact I1.fpOk (Nat.le_refl _) (I1.hok.fresh (Nat.le_refl _))
  rcases q with ⟨⟨xs, hq⟩, q⟩ | ⟨⟨xs, hq⟩, q⟩
  · obtain ⟨_, _, pl, _⟩ := I1.list hq
    exact wpAny_pyIter_list pl.isList ⟨_, [s1.heap.objs.size], _, Itl X.K a, H1, rfl, keep _, turn_list a s1.heap.objs.size, ⟨_, Heap.get?_push_size _ rfl, rfl, rfl⟩, own, q⟩
  · obtain ⟨_, _, pt, _⟩ := I1.tuple hq
    exact wpAny_pyIter_tuple pt ⟨_, [s1.heap.objs.size], _, Itt X.K a, H1, rfl, keep _, turn_tuple a s1.heap.objs.size, ⟨_, Heap.get?_push_size _ rfl, rfl, rfl⟩, own, q⟩
def itemsE (d : D) (r : Env) : Res (List D) := match d with
  | .lst _ ds => if D.shL ds = true then .ok ds r else .stk
  | .tup ds => if D.shL ds = true then .ok ds r else .stk
  | .scr ns => .ok (ns.map .int) r
  | _ => .stk
theorem item_get {ds : List D} {vs : List V} {i : Nat} {d : D} (h : RepL K S H ds vs []) (e : ds[i]? = some d) : ∃ v, vs[i]? = some v ∧ Rep K S H d v [] := h.items e
theorem itok_lst {o : Bool} {ds : List D} {a : Addr} {T : Fp} (c : D.shL ds = true) : ItOk K (Itl K a) (fun S H => Rep K S H (.lst o ds) (.ref a) T) ds := by
  refine ⟨fun i d S H e q sd => ?_, fun S H q => ?_⟩
  · obtain ⟨b, vs, e1, hq, rl⟩ := q.lst_at c
    cases e1
    obtain ⟨w, e2, rw'⟩ := rl.items e
    refine ⟨⟨vs, w, .inl (.inl hq), e2⟩, fun x H' ⟨eH, hy⟩ => ?_⟩
    subst eH
    have := hy vs (.inl (.inl hq))
    rw [e2] at this
    cases this
    exact ⟨.refl _ _ _, sd, rw'⟩
  · obtain ⟨b, vs, e1, hq, rl⟩ := q.lst_at c
    cases e1
    exact ⟨vs, .inl (.inl hq), by rw [rl.len]; exact Nat.le_refl _⟩
theorem itok_tup {ds : List D} {a : Addr} {T : Fp} (c : D.shL ds = true) : ItOk K (Itt K a) (fun S H => Rep K S H (.tup ds) (.ref a) T) ds := by
  refine ⟨fun i d S H e q sd => ?_, fun S H q => ?_⟩
  · obtain ⟨b, vs, e1, hq, rl⟩ := q.tup_at c
    cases e1
    obtain ⟨w, e2, rw'⟩ := rl.items e
    refine ⟨⟨vs, w, hq, e2⟩, fun x H' ⟨eH, hy⟩ => ?_⟩
    subst eH
    have := hy vs hq
    rw [e2] at this
    cases this
    exact ⟨.refl _ _ _, sd, rw'⟩
  · obtain ⟨b, vs, e1, hq, rl⟩ := q.tup_at c
    cases e1
    exact ⟨vs, hq, by rw [rl.len]; exact Nat.le_refl _⟩
theorem itok_scr {ns : List Int} {a : Addr} {T : Fp} : ItOk K (Itl K a) (fun S H => Rep K S H (.scr ns) (.ref a) T) (ns.map .int) := by
  refine ⟨fun i d S H e q sd => ?_, fun S H q => ?_⟩
  · obtain ⟨_, b, e1, hq⟩ := q
    cases e1
    rw [List.getElem?_map] at e
    obtain ⟨n, en, rfl⟩ := Option.map_eq_some_iff.mp e
    have e2 : (ns.map V.int)[i]? = some (.int n) := by rw [List.getElem?_map, en]; rfl
    refine ⟨⟨_, .int n, hq.read, e2⟩, fun x H' ⟨eH, hy⟩ => ?_⟩
    subst eH
    have := hy _ hq.read
    rw [e2] at this
    cases this
    exact ⟨.refl _ _ _, sd, rfl, rfl⟩
  · obtain ⟨_, b, e1, hq⟩ := q
    cases e1
    exact ⟨_, hq.read, by simp⟩
theorem IP1.bind {α β : Type} {RRx : RR α β} {x : Res α} {f : α → Env → Res (List D)} {R : It → Hp → Prop} {Q1 : β → Hp → Prop} (y : IP1 X W S H F σ R (x.bind f))
    (k : ∀ a r b S2 H2 F2 T2, Go S H F S2 H2 (T2 ++ F2) → At X.K W.tb S2 H2 r σ F2 → RRx S2 H2 a b T2 → Ft S2 H2 (T2 ++ F2) → IP1 X W S H F σ R (f a r) → Q1 b H2) : EP1 RRx X W S H F σ Q1 x := by
  cases x with
  | ok a r => exact fun b S' H' F' T g' x z t => k a r b S' H' F' T g' x z t y
  | exc c r => exact y
  | stk => exact y
theorem di_seq {E : Env → Res D} (h : DE X W e E) : DI X W tg e (fun r => (E r).bind itemsE) := by
  obtain ⟨t, q, z⟩ := h
  refine ⟨_, pi_seq q, fun S H r σ F R x y => z S H r σ F _ x (IP1.bind y fun d r1 v S1 H1 F1 T1 g1 x1 h1 f1 y1 => ?_)⟩
  have st : ∀ S2 H2 F2 S3 H3 F3, Rep X.K S2 H2 d v T1 → Ft S2 H2 (T1 ++ F2) → Go S2 H2 F2 S3 H3 F3 → Rep X.K S3 H3 d v T1 := fun S2 H2 F2 S3 H3 F3 p f g => Rep.go g f.right d v T1 f.apart p
  unfold itemsE at y1
  split at y1
  · rename_i o ds
    split at y1
    · rename_i c
      obtain ⟨a, vs, rfl, hq, rl⟩ := h1.lst_at c
      exact ⟨a, rfl, .inl ⟨⟨vs, .inl (.inl hq)⟩, y1 _ S1 H1 F1 T1 _ g1 x1 f1 (itok_lst c) h1 st⟩⟩
    · exact y1.elim
  · rename_i ds
    split at y1
    · rename_i c
      obtain ⟨a, vs, rfl, hq, rl⟩ := h1.tup_at c
      exact ⟨a, rfl, .inr ⟨⟨vs, hq⟩, y1 _ S1 H1 F1 T1 _ g1 x1 f1 (itok_tup c) h1 st⟩⟩
    · exact y1.elim
  · rename_i ns
    obtain ⟨e0, a, rfl, hq⟩ := id h1
    exact ⟨a, rfl, .inl ⟨⟨_, hq.read⟩, y1 _ S1 H1 F1 T1 _ g1 x1 f1 itok_scr h1 st⟩⟩
  · exact y1.elim
/-- range(n), range(a, b) -/
def rgI (lo : Int) (n : Nat) : List D := (List.range n).map fun (i : Nat) => .int (lo + i)
theorem rgI_get (lo : Int) (n i : Nat) : (rgI lo n)[i]? = if i < n then some (.int (lo + i)) else none := by
  unfold rgI
  rw [List.getElem?_map]
  by_cases h : i < n
  · rw [if_pos h, List.getElem?_range h]; rfl
  · rw [if_neg h, List.getElem?_eq_none (by simpa using h)]; rfl
theorem rgI_len (lo : Int) (n : Nat) : (rgI lo n).length = n := by simp [rgI]
theorem itok_rng {lo : Int} {n : Nat} : ItOk K (Itr lo n) (fun _ _ => True) (rgI lo n) := by
  refine ⟨fun i d S H e _ sd => ?_, fun S H _ => by rw [rgI_len]; exact Nat.le_refl _⟩
  rw [rgI_get] at e
  split at e
  · rename_i c
    cases e
    refine ⟨c, fun x H' ⟨eH, ex⟩ => ?_⟩
    subst eH ex
    exact ⟨.refl _ _ _, sd, rfl, rfl⟩
  · cases e
def rng1E (ds : List D) (r : Env) : Res (List D) := match ds with
  | [.int j] => if -(2 ^ 62) ≤ j ∧ j < 2 ^ 62 then .ok (rgI 0 j.toNat) r else .stk
  | _ => .stk
def rng2E (ds : List D) (r : Env) : Res (List D) := match ds with
  | [.int i, .int j] => if -(2 ^ 62) ≤ i ∧ i < 2 ^ 62 ∧ -(2 ^ 62) ≤ j ∧ j < 2 ^ 62 then .ok (rgI i (j - i).toNat) r else .stk
  | _ => .stk
theorem di_rng1 {E : Env → Res (List D)} (hg : Gl X "range") (hm : X.mg "range" = none) (h : DA X W [a] E) (hs : starEach [a] X.env = [(false, eval a X.env)] := by rfl) : DI X W tg (.Call (.Name "range" p) [a] [] pos) (fun r => (E r).bind rng1E) := by
  obtain ⟨t, q, z⟩ := h
  refine ⟨_, pi_range1 hg hm q hs, fun S H r σ F R x y => z S H r σ F _ x (IP1.bind y fun ds r1 vs S1 H1 F1 T1 g1 x1 h1 f1 y1 => ?_)⟩
  unfold rng1E at y1
  split at y1
  · rename_i j
    split at y1
    · rename_i c
      obtain ⟨v, t, F2, F3, e1, e2, h2, e3, e4⟩ := h1
      subst e3 e1
      rw [h2.1]
      exact ⟨j, rfl, c.1, c.2, y1 _ S1 H1 F1 T1 _ g1 x1 f1 itok_rng trivial (fun _ _ _ _ _ _ _ _ _ => trivial)⟩
    · exact y1.elim
  · exact y1.elim
theorem di_rng2 {E : Env → Res (List D)} (hg : Gl X "range") (hm : X.mg "range" = none) (h : DA X W [a, b] E) (hs : starEach [a, b] X.env = [(false, eval a X.env), (false, eval b X.env)] := by rfl) (hs2 : starEach [b] X.env = [(false, eval b X.env)] := by rfl) :
    DI X W tg (.Call (.Name "range" p) [a, b] [] pos) (fun r => (E r).bind rng2E) := by
  obtain ⟨t, q, z⟩ := h
  refine ⟨_, pi_range2 hg hm q hs hs2, fun S H r σ F R x y => z S H r σ F _ x (IP1.bind y fun ds r1 vs S1 H1 F1 T1 g1 x1 h1 f1 y1 => ?_)⟩
  unfold rng2E at y1
  split at y1
  · rename_i i j
    split at y1
    · rename_i c
      obtain ⟨v, t, F2, F3, e1, e2, h2, v', t', F2', F3', e1', e2', h2', e3, e4⟩ := h1
      subst e3 e1' e1
      rw [h2.1, h2'.1]
      exact ⟨i, j, rfl, c, y1 _ S1 H1 F1 T1 _ g1 x1 f1 itok_rng trivial (fun _ _ _ _ _ _ _ _ _ => trivial)⟩
    · exact y1.elim
  · exact y1.elim
/-! ### comprehensions -/
def wipeE (r : Env) : List Nat → Env
  | [] => r
  | v :: vs => (wipeE r vs).set v none
theorem At.wiped (q : At K tb S H r σ F) : ∀ vs : List Nat, ∃ F', At K tb S H (wipeE r vs) (wipe σ vs) F' ∧ ∀ b ∈ F', b ∈ F
  | [] => ⟨F, q, fun _ z => z⟩
  | v :: vs => by
    obtain ⟨F', q', h'⟩ := At.wiped q vs
    by_cases l : v < (wipeE r vs).length
    · obtain ⟨A, G, B, e1, _, _, h3, _⟩ := q'.env.slot l
      subst e1
      refine ⟨A ++ B, ⟨?_, h3 none, q'.tab⟩, fun b z => h' b (by simp only [List.mem_append] at z ⊢; rcases z with z | z <;> simp [z])⟩
      exact (q'.ft.perm (List.perm_append_comm_assoc A G B)).right
    · refine ⟨F', ?_, h'⟩
      have l2 : (wipe σ vs).length ≤ v := by rw [← q'.env.len]; omega
      show At K tb S H ((wipeE r vs).set v none) ((wipe σ vs).set v none) F'
      rw [List.set_eq_of_length_le (by omega), List.set_eq_of_length_le l2]
      exact q'
/-- what is wiped may stand as anything -/
theorem RepE.any {σ' : L2.St} : ∀ {r : Env} {σ : L2.St} {F : Fp}, RepE K S H r σ F → σ'.length = σ.length → (∀ (j : Nat) (d : D), r[j]? = some (some d) → σ'[j]? = σ[j]?) → RepE K S H r σ' F := by
  intro r
  induction r generalizing σ' with
  | nil =>
    intro σ F h l _
    obtain ⟨rfl, rfl⟩ := h
    exact ⟨List.eq_nil_of_length_eq_zero l, rfl⟩
  | cons o r ih =>
    intro σ F h l k
    cases σ' with
    | nil =>
      cases o with
      | none => obtain ⟨x, t, rfl, h⟩ := h; simp at l
      | some d => obtain ⟨v, t, F1, F2, rfl, _⟩ := h; simp at l
    | cons y s =>
      cases o with
      | none =>
        obtain ⟨x, t, rfl, h⟩ := h
        exact ⟨y, s, rfl, ih h (by simpa using l) fun j d e => by simpa using k (j + 1) d (by simpa using e)⟩
      | some d =>
        obtain ⟨v, t, F1, F2, rfl, e2, h1, h⟩ := h
        have := k 0 d rfl
        simp at this
        subst this
        exact ⟨v, s, F1, F2, rfl, e2, h1, ih h (by simpa using l) fun j d e => by simpa using k (j + 1) d (by simpa using e)⟩
theorem wipe_out (σ : L2.St) (j : Nat) : ∀ vs : List Nat, j ∉ vs → (wipe σ vs)[j]? = σ[j]?
  | [], _ => rfl
  | v :: vs, h => by
    show ((wipe σ vs).set v none)[j]? = σ[j]?
    rw [List.getElem?_set_ne (fun e => h (by simp [e]))]
    exact wipe_out σ j vs (fun z => h (by simp [z]))
theorem wipeE_in (r : Env) (j : Nat) (d : D) : ∀ vs : List Nat, (wipeE r vs)[j]? = some (some d) → j ∉ vs
  | [], _ => by simp
  | v :: vs, h => by
    have h : ((wipeE r vs).set v none)[j]? = some (some d) := h
    by_cases e : v = j
    · subst e
      by_cases l : v < (wipeE r vs).length
      · rw [List.getElem?_set_self l] at h; cases h
      · rw [List.getElem?_eq_none (by simpa using l)] at h; cases h
    · rw [List.getElem?_set_ne e] at h
      simp only [List.mem_cons, not_or]
      exact ⟨fun z => e z.symm, wipeE_in r j d vs h⟩
theorem At.unwipe {vs : List Nat} {r0 : Env} (q : At K tb S H (wipeE r0 vs) (wipe σ vs) F) : At K tb S H (wipeE r0 vs) σ F := by
  refine ⟨q.ft, q.env.any (wipe_length σ vs).symm fun j d e => ?_, q.tab⟩
  exact (wipe_out σ j vs (wipeE_in r0 j d vs e)).symm
theorem wipe_eq {σ σ' : L2.St} {vs : List Nat} (h : ∀ j, j ∉ vs → σ'[j]? = σ[j]?) (l : σ'.length = σ.length) : wipe σ' vs = wipe σ vs := by
  apply List.ext_getElem?
  intro j
  by_cases hj : j ∈ vs
  · have key : ∀ (s : L2.St) (vs : List Nat), j ∈ vs → (wipe s vs)[j]? = if j < s.length then some none else none := by
      intro s vs
      induction vs with
      | nil => intro z; cases z
      | cons v vs ih =>
        intro z
        show ((wipe s vs).set v none)[j]? = _
        by_cases e : v = j
        · subst e
          rw [List.getElem?_set]
          simp [wipe_length]
        · rw [List.getElem?_set_ne e]
          exact ih ((List.mem_cons.mp z).resolve_left fun q => e q.symm)
    rw [key σ' vs hj, key σ vs hj, l]
  · rw [wipe_out σ' j vs hj, wipe_out σ j vs hj, h j hj]
/-- a clause's tests -/
def DTs (X : Cx) (W : WT) (ifs : List Expr) (E : Env → Res Bool) : Prop := ∃ t, PTs X ifs t ∧ ∀ S H r σ F Q, At X.K W.tb S H r σ F → EP1 RB X W S H F σ Q (E r) → t σ H Q
theorem DTs.pts {ifs : List Expr} {E : Env → Res Bool} (h : DTs X W ifs E) : PTs X ifs (tT X W E) := by
  obtain ⟨t, q, z⟩ := h
  exact ⟨fun pins s σ H Q I ⟨S, r, F, x, y⟩ => q.run pins s σ H Q I (z S H r σ F Q x y)⟩
theorem dts_nil : DTs X W [] (fun r => .ok true r) := ⟨_, pts_nil, fun S H r σ F Q x y => y true S H F [] (.refl _ _ _) x ⟨rfl, rfl⟩ x.ft⟩
theorem dts_one {E : Env → Res Bool} (h : DT X W c E) : DTs X W [c] E := by
  obtain ⟨t, q, z⟩ := h
  exact ⟨_, pts_one q, z⟩
/-- no exception gets out -/
def Res.bindS {α β : Type} (x : Res α) (f : α → Env → Res β) : Res β := match x with
  | .ok a r => f a r
  | _ => .stk
def lcL (G : D → Env → Option Env) (T : Env → Res Bool) (E : Env → Res D) (vs : List Nat) : List D → List D → Env → Res (List D)
  | [], acc, r => .ok acc r
  | d :: ds, acc, r => match G d r with
    | none => .stk
    | some r1 => (T r1).bindS fun k r2 => if k = true then (E r2).bindS fun x r3 => if acc.length < sizeLine then lcL G T E vs ds (acc ++ [x]) (wipeE r3 vs) else .stk else lcL G T E vs ds acc (wipeE r2 vs)
abbrev W0 (tb : List Addr) : WT := ⟨fun _ _ _ _ => False, tb⟩
theorem EP1.bindS {α β γ α' β' : Type} {R : RR α β} {R' : RR α' β'} {Q : β' → Hp → Prop} {Q1 : β → Hp → Prop} {S0 : Addr → Prop} {H0 : Hp} {F0 : Fp} {σ0 : L2.St} {x : Res α} {f : α → Env → Res γ} {h : γ → Env → Res α'} (y : EP1 R' X W S0 H0 F0 σ0 Q ((x.bindS f).bind h))
    (k : ∀ a r b S2 H2 F2 T2, x = .ok a r → Go S1 H1 F1 S2 H2 (T2 ++ F2) → At X.K W.tb S2 H2 r σ F2 → R S2 H2 a b T2 → Ft S2 H2 (T2 ++ F2) → EP1 R' X W S0 H0 F0 σ0 Q ((f a r).bind h) → Q1 b H2) : EP1 R X (W0 W.tb) S1 H1 F1 σ Q1 x := by
  cases x with
  | ok a r => exact fun b S' H' F' T g' x z t => k a r b S' H' F' T rfl g' x z t y
  | exc c r => exact False.elim y
  | stk => exact y
end
end DL

/-! DComp: list comprehensions. -/
namespace DL
open PySem PySem.Spec PyProof.Rows L2
section
variable {X : Cx} {W : WT} {K : PySem.W.Frag} {e a b c tg : Expr} {es : List Expr} {S S' S1 S2 : Addr → Prop} {H H' H1 H2 : Hp} {F F' F1 F2 T : Fp} {σ : L2.St} {r : Env} {pos p p2 : Pos} {x : Str}
theorem Ft.narrow {A : Fp} (h : Ft S H (A ++ F)) (h' : Ft S H F') (s : ∀ b ∈ F', b ∈ F) : Ft S H (A ++ F') :=
  ⟨List.nodup_append.mpr ⟨h.left.nd, h'.nd, fun b z c y e => by subst e; exact h.apart b z (s b y)⟩, fun b z => (List.mem_append.mp z).elim (h.left.dj b) (h'.dj b), fun b z => (List.mem_append.mp z).elim (h.left.mu b) (h'.mu b), h.sd⟩
/-- the list that grows at D, beside what is walked (T1) and what the names own (F) -/
structure Bd (K : PySem.W.Frag) (P : (Addr → Prop) → Hp → Prop) (T1 : Fp) (D0 : Addr) (S : Addr → Prop) (H : Hp) (acc : List D) (vs : List V) (G F : Fp) : Prop where
  hD : H D0 = some (.lst vs)
  rl : RepL K S H acc vs G
  ft : Ft S H ((D0 :: G) ++ (T1 ++ F))
  p : P S H
section
variable {P : (Addr → Prop) → Hp → Prop} {T1 : Fp} {D0 : Addr} {acc : List D} {vs : List V} {G : Fp}
theorem Bd.step (h : Bd K P T1 D0 S H acc vs G F) (st : ∀ S1 H1 F1 S2 H2 F2, P S1 H1 → Ft S1 H1 (T1 ++ F1) → Go S1 H1 F1 S2 H2 F2 → P S2 H2) (g : Go S H F S2 H2 F2) (f : Ft S2 H2 F2) : Bd K P T1 D0 S2 H2 acc vs G F2 := by
  have ft : Ft S H (((D0 :: G) ++ T1) ++ F) := by rw [List.append_assoc]; exact h.ft
  have ap := ft.apart
  refine ⟨g.fr _ _ h.hD (ap D0 (by simp)) trivial, RepL.go g ft.right acc vs G (fun b z => ap b (by simp [z])) h.rl, ?_, st S H F S2 H2 F2 h.p h.ft.right g⟩
  have := ft.frame g f
  rwa [List.append_assoc] at this
theorem Bd.narrow (h : Bd K P T1 D0 S H acc vs G F) (f : Ft S H F') (s : ∀ b ∈ F', b ∈ F) : Bd K P T1 D0 S H acc vs G F' := by
  refine ⟨h.hD, h.rl, ?_, h.p⟩
  have ft : Ft S H (((D0 :: G) ++ T1) ++ F) := by rw [List.append_assoc]; exact h.ft
  have := ft.narrow f s
  rwa [List.append_assoc] at this
theorem Bd.add {T3 : Fp} {d : D} {w : V} (h : Bd K P T1 D0 S H acc vs G (T3 ++ F)) (st : ∀ S1 H1 F1 S2 H2 F2, P S1 H1 → Ft S1 H1 (T1 ++ F1) → Go S1 H1 F1 S2 H2 F2 → P S2 H2) (hd : Rep K S H d w T3) :
    Bd K P T1 D0 S (upd H D0 (.lst (vs ++ [w]))) (acc ++ [d]) (vs ++ [w]) (G ++ T3) F ∧ Go S H ((D0 :: G) ++ (T1 ++ (T3 ++ F))) S (upd H D0 (.lst (vs ++ [w]))) ((D0 :: (G ++ T3)) ++ (T1 ++ F)) ∧
      (∀ r σ, At K tb S H r σ F → At K tb S (upd H D0 (.lst (vs ++ [w]))) r σ F) := by
  have sd := h.ft.sd
  have pm : ((D0 :: G) ++ (T1 ++ (T3 ++ F))).Perm ([D0] ++ ((G ++ T3) ++ (T1 ++ F))) := by
    refine List.Perm.cons D0 ?_
    show (G ++ (T1 ++ (T3 ++ F))).Perm ((G ++ T3) ++ (T1 ++ F))
    rw [List.append_assoc]
    exact List.Perm.append_left G (List.perm_append_comm_assoc T1 T3 F)
  have ft := h.ft.perm pm
  have g : Go S H [D0] S (upd H D0 (.lst (vs ++ [w]))) [D0] := upd_go sd h.hD
  have f1 : Ft S (upd H D0 (.lst (vs ++ [w]))) [D0] := ⟨by simp, ft.left.dj, fun b z => by
    have : b = D0 := by simpa using z
    subst this; rw [upd_same]; trivial, sd_new sd⟩
  have all := (Ft.frame ft.comm g f1).comm
  have ap : ∀ b ∈ (G ++ T3) ++ (T1 ++ F), b ∉ [D0] := ft.apart'
  refine ⟨⟨upd_same, ?_, all, ?_⟩, ?_, fun r σ q => q.go g ft.left (fun b z => ap b (by simp [z])) all.right.right.right⟩
  · exact (RepL.go g ft.left acc vs G (fun b z => ap b (by simp [z])) h.rl).append (RepL.one (Rep.go g ft.left d w T3 (fun b z => ap b (by simp [z])) hd))
  · refine st S H [D0] S _ [D0] h.p ?_ g
    have : Ft S H ([D0] ++ ((T1 ++ F) ++ (G ++ T3))) := ft.perm (List.Perm.append_left _ List.perm_append_comm)
    rw [List.append_assoc, ← List.append_assoc] at this
    exact this.left.comm
  · have := g.frameR ((G ++ T3) ++ (T1 ++ F))
    exact (this.wide fun b z => pm.mem_iff.mpr z)
end
theorem wipe_idem (σ : L2.St) (vs : List Nat) : L2.wipe (L2.wipe σ vs) vs = L2.wipe σ vs := wipe_eq (fun j hj => wipe_out σ j vs hj) (wipe_length σ vs)
/-- the names of the block's own, shared ones, as they stood before -/
def resE (r1 r : Env) : List Nat → Env
  | [] => r
  | v :: vs => match r1[v]? with
    | some (some d) => if d.sh = true then (resE r1 r vs).set v (some d) else resE r1 r vs
    | _ => resE r1 r vs
theorem At.restore {tb : List Addr} {r1 : Env} {Z : Fp} (q : At K tb S' H' r σ F') (x1 : At K tb S H r1 σ F) (g : Go S H (T ++ F) S' H' Z) (f : Ft S H (T ++ F)) : ∀ {vs : List Nat}, ∃ F2, At K tb S' H' (resE r1 r vs) σ F2 ∧ ∀ b ∈ F2, b ∈ F'
  | [] => ⟨F', q, fun _ z => z⟩
  | v :: vs => by
    obtain ⟨F2, q2, s2⟩ := At.restore q x1 g f (vs := vs)
    show ∃ F2, At K tb S' H' (match r1[v]? with | some (some d) => if d.sh = true then (resE r1 r vs).set v (some d) else resE r1 r vs | _ => resE r1 r vs) σ F2 ∧ ∀ b ∈ F2, b ∈ F'
    split
    · rename_i d e
      split
      · rename_i hs
        obtain ⟨w, T0, e1, h1, _⟩ := x1.get e
        have eT : T0 = [] := Rep.sh d w T0 hs h1
        subst eT
        have h2 := Rep.go g f d w [] (fun _ z => nomatch z) h1
        by_cases l : v < (resE r1 r vs).length
        · obtain ⟨F3, q3, s3⟩ := q2.back l e1 h2 (by simpa using q2.ft)
          exact ⟨F3, q3, fun b z => s2 b (by simpa using s3 b z)⟩
        · rw [List.set_eq_of_length_le (by omega)]
          exact ⟨F2, q2, s2⟩
      · exact ⟨F2, q2, s2⟩
    · exact ⟨F2, q2, s2⟩
theorem rd_lc {vs ws : List Nat} {wi : TI} {I : Env → Res (List D)} {G : D → Env → Option Env} {Tt : Env → Res Bool} {E : Env → Res D} (zi : ∀ S H r σ F R, At X.K W.tb S H r σ F → IP1 X W S H F σ R (I r) → wi σ H R) (hws : ∀ j ∈ ws, j ∈ vs) :
    RdE X W (tLc wi (tG X ws G) (tT X (W0 W.tb) Tt) (tE X (W0 W.tb) E) vs) (fun r => (I r).bind fun ds r1 => (lcL G Tt E vs ds [] (wipeE r1 vs)).bind fun acc r2 => .ok (.lst true acc) (resE r1 r2 vs)) := by
  intro S H r σ F Q x y
  refine zi S H r σ F _ x ?_
  have y : EP1 (Rep X.K) X W S H F σ Q ((I r).bind fun ds r1 => (lcL G Tt E vs ds [] (wipeE r1 vs)).bind fun acc r2 => .ok (.lst true acc) (resE r1 r2 vs)) := y
  cases eI : I r with
  | stk => rw [eI] at y; exact y
  | exc c r1 => rw [eI] at y; exact y
  | ok ds r1 =>
    rw [eI] at y
    intro J S1 H1 F1 T1 P g1 x1 f1 it p0 st D0 hD0
    have y : EP1 (Rep X.K) X W S H F σ Q ((lcL G Tt E vs ds [] (wipeE r1 vs)).bind fun acc r2 => .ok (.lst true acc) (resE r1 r2 vs)) := y
    have hlen : ds.length = ds.length := rfl
    refine ⟨fun i m H' => m = ds.length - i ∧ i ≤ ds.length ∧ ∃ S' r' F' acc ns G', Bd X.K P T1 D0 S' H' acc ns G' F' ∧ At X.K W.tb S' H' (wipeE r' vs) (L2.wipe σ vs) F' ∧ Go S1 H1 (T1 ++ F1) S' H' ((D0 :: G') ++ (T1 ++ F')) ∧
      EP1 (Rep X.K) X W S H F σ Q ((lcL G Tt E vs (ds.drop i) acc (wipeE r' vs)).bind fun acc r2 => .ok (.lst true acc) (resE r1 r2 vs)), ⟨ds.length, by simp, Nat.zero_le _, ?_⟩, ?_⟩
    · obtain ⟨F1', q1, s1⟩ := x1.wiped vs
      have gn : Go S1 H1 [] S1 (upd H1 D0 (.lst [])) [D0] := go_new x1.ft.sd hD0 [D0] (fun _ z => by simpa using z)
      have fn : Ft S1 (upd H1 D0 (.lst [])) [D0] := ft_new x1.ft.sd hD0
      have f2 : Ft S1 H1 (T1 ++ F1') := f1.narrow q1.ft s1
      have f3 : Ft S1 (upd H1 D0 (.lst [])) ((T1 ++ F1') ++ [D0]) := Ft.frame (T := T1 ++ F1') (F := []) (by simpa using f2) gn fn
      refine ⟨S1, r1, F1', [], [], [], ⟨upd_same, ⟨rfl, rfl⟩, f3.comm, ?_⟩, q1.ext gn fn, ?_, y⟩
      · refine st S1 H1 [] S1 _ [D0] p0 (by simpa using f1.left) gn
      · have g2 : Go S1 H1 (T1 ++ F1) S1 (upd H1 D0 (.lst [])) ((T1 ++ F1) ++ [D0]) := by simpa using gn.frame (T1 ++ F1)
        refine g2.sub fun b z => ?_
        simp only [List.mem_append, List.mem_cons, List.mem_singleton] at z ⊢
        rcases z with (rfl | z) | z | z
        · exact .inr (.inl rfl)
        · exact absurd z (by simp)
        · exact .inl (.inl z)
        · exact .inl (.inr (s1 b z))
    · rintro i m H3 ⟨rfl, hi, S3, r3, F3, acc, ns, G3, bd, x3, g3, y3⟩
      by_cases hlt : i < ds.length
      · have ed : ds[i]? = some ds[i] := List.getElem?_eq_getElem hlt
        obtain ⟨hgo, hyl⟩ := it.item i ds[i] S3 H3 ed bd.p bd.ft.sd
        refine .inr ⟨hgo, fun H' => i + 1 ≤ ds.length ∧ ∃ S' r' F' acc ns G', Bd X.K P T1 D0 S' H' acc ns G' F' ∧ At X.K W.tb S' H' (wipeE r' vs) (L2.wipe σ vs) F' ∧ Go S1 H1 (T1 ++ F1) S' H' ((D0 :: G') ++ (T1 ++ F')) ∧
          EP1 (Rep X.K) X W S H F σ Q ((lcL G Tt E vs (ds.drop (i + 1)) acc (wipeE r' vs)).bind fun acc r2 => .ok (.lst true acc) (resE r1 r2 vs)), fun H' nx => ⟨ds.length - (i + 1), by omega, rfl, nx.1, nx.2⟩, fun v H4 yl => ?_⟩
        obtain ⟨g4, sd4, rd4⟩ := hyl v H4 yl
        have fn4 : Ft S3 H4 [] := Ft.nil sd4
        have x4 := x3.ext0 g4 fn4
        have bd4 : Bd X.K P T1 D0 S3 H4 acc ns G3 F3 := bd.step st (go_side g4 F3) x4.ft
        have g34 : Go S1 H1 (T1 ++ F1) S3 H4 ((D0 :: G3) ++ (T1 ++ F3)) := g3.trans (go_side g4 _)
        have y4 := y3
        rw [show ds.drop i = ds[i] :: ds.drop (i + 1) from List.drop_eq_getElem_cons hlt] at y4
        unfold lcL at y4
        cases eG : G ds[i] (wipeE r3 vs) with
        | none => rw [eG] at y4; exact y4.elim
        | some r5 =>
          rw [eG] at y4
          have y4 : EP1 (Rep X.K) X W S H F σ Q (((Tt r5).bindS fun k r2 => if k = true then (E r2).bindS fun x r3 => if acc.length < sizeLine then lcL G Tt E vs (ds.drop (i + 1)) (acc ++ [x]) (wipeE r3 vs) else .stk else lcL G Tt E vs (ds.drop (i + 1)) acc (wipeE r2 vs)).bind fun acc r2 => .ok (.lst true acc) (resE r1 r2 vs)) := y4
          refine ⟨W.tb, S3, wipeE r3 vs, F3, ds[i], [], x4, rd4, x4.ft, r5, eG, fun σ5 F5 q5 s5 o5 l5 => ?_⟩
          have s5 : ∀ b ∈ F5, b ∈ F3 := fun b z => by simpa using s5 b z
          have hw : L2.wipe σ5 vs = L2.wipe σ vs := (wipe_eq (fun j hj => o5 j (fun z => hj (hws j z))) l5).trans (wipe_idem σ vs)
          have bd5 := bd4.narrow q5.ft s5
          have g35 : Go S1 H1 (T1 ++ F1) S3 H4 ((D0 :: G3) ++ (T1 ++ F5)) := g34.sub fun b z => by
            simp only [List.mem_append, List.mem_cons] at z ⊢
            rcases z with z | z | z
            · exact .inl z
            · exact .inr (.inl z)
            · exact .inr (.inr (s5 b z))
          refine ⟨hw, S3, r5, F5, q5, EP1.bindS y4 fun k r6 k' S6 H6 F6 T6 e6 g6 q6 h6 f6 y6 => ?_⟩
          obtain ⟨rfl, rfl⟩ := h6
          have bd6 : Bd X.K P T1 D0 S6 H6 acc ns G3 F6 := bd5.step st g6 f6
          have fr : ∀ {S7 : Addr → Prop} {H7 : Hp} {Z Y : Fp}, Go S3 H4 Z S7 H7 Y → Go S1 H1 (T1 ++ F1) S3 H4 ((D0 :: G3) ++ (T1 ++ Z)) → Go S1 H1 (T1 ++ F1) S7 H7 ((D0 :: G3) ++ (T1 ++ Y)) := fun {S7 H7 Z Y} g g' => by
            have := g.frame ((D0 :: G3) ++ T1)
            rw [List.append_assoc, List.append_assoc] at this
            exact g'.trans this
          have g36 : Go S1 H1 (T1 ++ F1) S6 H6 ((D0 :: G3) ++ (T1 ++ F6)) := fr g6 g35
          cases k with
          | false =>
            have y6 : EP1 (Rep X.K) X W S H F σ Q ((lcL G Tt E vs (ds.drop (i + 1)) acc (wipeE r6 vs)).bind fun acc r2 => .ok (.lst true acc) (resE r1 r2 vs)) := y6
            obtain ⟨F7, q7, s7⟩ := q6.wiped vs
            rw [hw] at q7
            rw [if_neg Bool.false_ne_true]
            refine ⟨hlt, S6, r6, F7, acc, ns, G3, bd6.narrow q7.ft s7, q7, g36.sub fun b z => ?_, y6⟩
            simp only [List.mem_append, List.mem_cons] at z ⊢
            rcases z with z | z | z
            · exact .inl z
            · exact .inr (.inl z)
            · exact .inr (.inr (s7 b z))
          | true =>
            have y6 : EP1 (Rep X.K) X W S H F σ Q (((E r6).bindS fun x r3 => if acc.length < sizeLine then lcL G Tt E vs (ds.drop (i + 1)) (acc ++ [x]) (wipeE r3 vs) else .stk).bind fun acc r2 => .ok (.lst true acc) (resE r1 r2 vs)) := y6
            rw [if_pos rfl]
            refine ⟨S6, r6, F6, q6, EP1.bindS y6 fun d7 r7 w7 S7 H7 F7 T7 e7 g7 q7 h7 f7 y7 => ?_⟩
            have bd7 : Bd X.K P T1 D0 S7 H7 acc ns G3 (T7 ++ F7) := bd6.step st g7 f7
            have g37 : Go S1 H1 (T1 ++ F1) S7 H7 ((D0 :: G3) ++ (T1 ++ (T7 ++ F7))) := by
              have := g7.frame ((D0 :: G3) ++ T1)
              rw [List.append_assoc, List.append_assoc] at this
              exact g36.trans this
            by_cases hz : acc.length < sizeLine
            · rw [if_pos hz] at y7
              obtain ⟨F8, q8, s8⟩ := q7.wiped vs
              rw [hw] at q8
              obtain ⟨b1, b2, b3⟩ := Bd.add bd7 st h7
              have q9 := b3 _ _ q7
              refine ⟨ns, bd7.hD, by rw [← bd7.rl.len]; exact hz, hlt, S7, r7, F8, acc ++ [d7], ns ++ [w7], G3 ++ T7, ?_, ?_, ?_, y7⟩
              · obtain ⟨F9, q10, s10⟩ := q9.wiped vs
                exact b1.narrow (show Ft S7 _ F8 from ⟨q8.ft.nd, q8.ft.dj, fun b z => b1.ft.mu b (by simp [s8 b z]), b1.ft.sd⟩) s8
              · exact q8.go (upd_go q7.ft.sd bd7.hD) (show Ft S7 H7 [D0] from ⟨by simp, fun b z => bd7.ft.dj b (by simp at z; simp [z]), fun b z => bd7.ft.mu b (by simp at z; simp [z]), q7.ft.sd⟩)
                  (fun b z y => by
                    have e : b = D0 := by simpa using y
                    subst e
                    have nd := (List.nodup_cons.mp (show (b :: (G3 ++ (T1 ++ (T7 ++ F7)))).Nodup from bd7.ft.nd)).1
                    exact nd (by simp [s8 b z])) (show Ft S7 _ F8 from ⟨q8.ft.nd, q8.ft.dj, fun b z => b1.ft.mu b (by simp [s8 b z]), b1.ft.sd⟩)
              · refine (g37.trans b2).sub fun b z => ?_
                simp only [List.mem_append, List.mem_cons] at z ⊢
                rcases z with z | z | z
                · exact .inl z
                · exact .inr (.inl z)
                · exact .inr (.inr (s8 b z))
            · rw [if_neg hz] at y7
              exact y7.elim
      · have e : i = ds.length := by omega
        subst e
        refine .inl ⟨it.stop S3 H3 bd.p, ?_⟩
        rw [List.drop_length] at y3
        have ft : Ft S3 H3 ((D0 :: G3) ++ F3) := by
          have h1 : Ft S3 H3 ((D0 :: G3) ++ (T1 ++ F3)) := bd.ft
          exact h1.narrow x3.ft (fun b z => List.mem_append_right _ z)
        obtain ⟨F9, q9, s9⟩ := x3.unwipe.restore (vs := vs) x1 g3 f1
        exact y3 (.ref D0) S3 H3 F9 (D0 :: G3) ((g1.trans g3).sub fun b z => by
          simp only [List.mem_append, List.mem_cons] at z ⊢
          rcases z with z | z
          · exact .inl z
          · exact .inr (.inr (s9 b z))) q9 ⟨D0, ns, G3, rfl, bd.hD, rfl, bd.rl⟩ (ft.narrow q9.ft s9)
theorem de_lc {elt iter : Expr} {ifs : List Expr} {scope : Scope} {own : List (Str × Nat)} {ws : List Nat} {I : Env → Res (List D)} {G : D → Env → Option Env} {Tt : Env → Res Bool} {E : Env → Res D} (hc : X.calm = true) (hN : X.N.Nodup) (hi : DI X W tg iter I)
    (ok : BlkOk X.N X.env.scope scope own) (hws : ∀ j ∈ ws, j ∈ own.map (·.2)) (hg : ∀ (s : Shared) (H : Hp) (C : Addr) (cl : List (Str × Addr)) (fp : List Addr), DG (X.blk s H scope (compEnvC scope cl C X.env) fp) ws tg G)
    (ht : ∀ (s : Shared) (H : Hp) (C : Addr) (cl : List (Str × Addr)) (fp : List Addr), DTs (X.blk s H scope (compEnvC scope cl C X.env) fp) (W0 W.tb) ifs Tt)
    (he : ∀ (s : Shared) (H : Hp) (C : Addr) (cl : List (Str × Addr)) (fp : List Addr), DE (X.blk s H scope (compEnvC scope cl C X.env) fp) (W0 W.tb) elt E) (hs : ∀ x, foldedSetIterable iter X.env x = pure x := by intro _; rfl) :
    DE X W (.ListComp elt [⟨tg, iter, ifs, 0⟩] scope pos) (fun r => (I r).bind fun ds r1 => (lcL G Tt E (own.map (·.2)) ds [] (wipeE r1 (own.map (·.2)))).bind fun acc r2 => .ok (.lst true acc) (resE r1 r2 (own.map (·.2)))) := by
  obtain ⟨wi, qi, zi⟩ := hi
  exact ⟨_, pe_lc hc hN qi ok (fun s H C cl fp => (hg s H C cl fp).pg) (fun s H C cl fp => (ht s H C cl fp).pts) (fun s H C cl fp => (he s H C cl fp).pe) hs, rd_lc (X := X) (W := W) zi hws⟩
end
end DL

/-! DStmt: statements. -/
namespace DL
open PySem PySem.Spec PyProof.Rows L2
structure Fix (fx : List Nat) (σ σ' : L2.St) : Prop where
  at_ : ∀ i ∈ fx, σ'[i]? = σ[i]?
theorem Fix.refl (fx : List Nat) (σ : L2.St) : Fix fx σ σ := ⟨fun _ _ => rfl⟩
theorem Fix.trans {fx : List Nat} {σ σ1 σ2 : L2.St} (a : Fix fx σ σ1) (b : Fix fx σ1 σ2) : Fix fx σ σ2 := ⟨fun i h => (b.at_ i h).trans (a.at_ i h)⟩
/-- what is asked behind a statement -/
def SP1 (X : Cx) (W : WT) (fx : List Nat) (S : Addr → Prop) (H : Hp) (F : Fp) (σ : L2.St) (D0 : Ends) : SR → Prop
  | .nx r => ∀ σ' S' H' F', Go S H F S' H' F' → At X.K W.tb S' H' r σ' F' → Fix fx σ σ' → D0.nx σ' H'
  | .bk r => ∀ σ' S' H' F', Go S H F S' H' F' → At X.K W.tb S' H' r σ' F' → Fix fx σ σ' → D0.bk σ' H'
  | .ct r => ∀ σ' S' H' F', Go S H F S' H' F' → At X.K W.tb S' H' r σ' F' → Fix fx σ σ' → D0.ct σ' H'
  | .rt d r => ∀ v σ' S' H' F' T, Go S H F S' H' (T ++ F') → At X.K W.tb S' H' r σ' F' → Rep X.K S' H' d v T → Ft S' H' (T ++ F') → Fix fx σ σ' → D0.rt v H'
  | .exc c r => ∀ σ' S' H' F', Go S H F S' H' F' → At X.K W.tb S' H' r σ' F' → Fix fx σ σ' → W (clsV X.mg c) none σ' H'
  | .stk => False
def DS (X : Cx) (W : WT) (fx : List Nat) (st : Stmt) (B : Env → SR) : Prop := ∃ t, PS X st t ∧ ∀ S H r σ F D0, At X.K W.tb S H r σ F → SP1 X W fx S H F σ D0 (B r) → t D0 σ H
def DSs (X : Cx) (W : WT) (fx : List Nat) (st : List Stmt) (B : Env → SR) : Prop := ∃ t, PSs X st t ∧ ∀ S H r σ F D0, At X.K W.tb S H r σ F → SP1 X W fx S H F σ D0 (B r) → t D0 σ H
def tS (X : Cx) (W : WT) (fx : List Nat) (B : Env → SR) : TS := fun D0 σ H => ∃ S r F, At X.K W.tb S H r σ F ∧ SP1 X W fx S H F σ D0 (B r)
section
variable {X : Cx} {W : WT} {fx : List Nat} {e a b c tg : Expr} {es : List Expr} {st : Stmt} {sts : List Stmt} {S S' S1 S2 : Addr → Prop} {H H' H1 H2 : Hp} {F F' F1 F2 T : Fp} {σ σ1 : L2.St} {r : Env} {pos p p2 : Pos} {x : Str} {D0 : Ends}
theorem DSs.pss {B : Env → SR} (h : DSs X W fx sts B) : PSs X sts (tS X W fx B) := by
  obtain ⟨t, q, z⟩ := h
  exact ⟨fun pins s σ H D0 I ⟨S, r, F, x, y⟩ => q.run pins s σ H D0 I (z S H r σ F D0 x y)⟩
theorem SP1.step (g : Go S H F S1 H1 F1) (fi : Fix fx σ σ1) : ∀ {x : SR}, SP1 X W fx S H F σ D0 x → SP1 X W fx S1 H1 F1 σ1 D0 x
  | .nx r, h => fun σ' S' H' F' g' x f => h σ' S' H' F' (g.trans g') x (fi.trans f)
  | .bk r, h => fun σ' S' H' F' g' x f => h σ' S' H' F' (g.trans g') x (fi.trans f)
  | .ct r, h => fun σ' S' H' F' g' x f => h σ' S' H' F' (g.trans g') x (fi.trans f)
  | .rt d r, h => fun v σ' S' H' F' T g' x y z f => h v σ' S' H' F' T (g.trans g') x y z (fi.trans f)
  | .exc c r, h => fun σ' S' H' F' g' x f => h σ' S' H' F' (g.trans g') x (fi.trans f)
  | .stk, h => h
/-- an expression, then something -/
def Res.thn {α : Type} (x : Res α) (f : α → Env → SR) : SR := match x with
  | .ok a r => f a r
  | .exc c r => .exc c r
  | .stk => .stk
theorem SP1.thn {α β : Type} {R : RR α β} {x : Res α} {f : α → Env → SR} {Q1 : β → Hp → Prop} (y : SP1 X W fx S H F σ D0 (x.thn f))
    (k : ∀ a r b S2 H2 F2 T2, Go S H F S2 H2 (T2 ++ F2) → At X.K W.tb S2 H2 r σ F2 → R S2 H2 a b T2 → Ft S2 H2 (T2 ++ F2) → SP1 X W fx S H F σ D0 (f a r) → Q1 b H2) : EP1 R X W S H F σ Q1 x := by
  cases x with
  | ok a r => exact fun b S' H' F' T g' x z t => k a r b S' H' F' T g' x z t y
  | exc c r => exact fun S' H' F' g x => y σ S' H' F' g x (.refl _ _)
  | stk => exact y
def SR.seq (x : SR) (f : Env → SR) : SR := match x with
  | .nx r => f r
  | y => y
theorem dss_nil : DSs X W fx [] .nx := ⟨_, pss_nil, fun S H r σ F D0 x y => y σ S H F (.refl _ _ _) x (.refl _ _)⟩
theorem dss_cons {B C : Env → SR} (h1 : DS X W fx st B) (h2 : DSs X W fx sts C) : DSs X W fx (st :: sts) (fun r => (B r).seq C) := by
  obtain ⟨t, p, q⟩ := h1; obtain ⟨t', p', q'⟩ := h2
  refine ⟨_, pss_cons p p', fun S H r σ F D0 x y => q S H r σ F _ x ?_⟩
  have y : SP1 X W fx S H F σ D0 ((B r).seq C) := y
  cases e1 : B r with
  | nx r1 => rw [e1] at y; exact fun σ' S' H' F' g x' f => q' S' H' r1 σ' F' D0 x' (SP1.step g f y)
  | bk r1 => rw [e1] at y; exact y
  | ct r1 => rw [e1] at y; exact y
  | rt d r1 => rw [e1] at y; exact y
  | exc c r1 => rw [e1] at y; exact y
  | stk => rw [e1] at y; exact y
theorem dss_one {B : Env → SR} (h1 : DS X W fx st B) : DSs X W fx [st] B := by
  obtain ⟨t, p, q⟩ := h1
  exact ⟨_, pss_one p, q⟩
theorem ds_pass : DS X W fx (.Pass pos) .nx := ⟨_, ps_pass, fun S H r σ F D0 x y => y σ S H F (.refl _ _ _) x (.refl _ _)⟩
theorem ds_break : DS X W fx (.Break pos) .bk := ⟨_, ps_break, fun S H r σ F D0 x y => y σ S H F (.refl _ _ _) x (.refl _ _)⟩
theorem ds_cont : DS X W fx (.Continue pos) .ct := ⟨_, ps_continue, fun S H r σ F D0 x y => y σ S H F (.refl _ _ _) x (.refl _ _)⟩
theorem ds_expr {E : Env → Res D} (he : DE X W e E) (hs : swapsWith e none pos.line X.env = pure false := by rfl) : DS X W fx (.Expr e pos) (fun r => (E r).thn fun _ r1 => .nx r1) := by
  obtain ⟨t, p, q⟩ := he
  exact ⟨_, ps_expr p hs, fun S H r σ F D0 x y => q S H r σ F _ x (SP1.thn y fun d r1 v S1 H1 F1 T1 g1 x1 h1 f1 y1 => y1 σ S1 H1 F1 (g1.sub fun b z => List.mem_append_right _ z) x1 (.refl _ _))⟩
theorem ds_ret {E : Env → Res D} (he : DE X W e E) : DS X W fx (.Return (some e) pos) (fun r => (E r).thn fun d r1 => .rt d r1) := by
  obtain ⟨t, p, q⟩ := he
  exact ⟨_, ps_ret p, fun S H r σ F D0 x y => q S H r σ F _ x (SP1.thn y fun d r1 v S1 H1 F1 T1 g1 x1 h1 f1 y1 => y1 v σ S1 H1 F1 T1 g1 x1 h1 f1 (.refl _ _))⟩
theorem ds_retN : DS X W fx (.Return none pos) (fun r => .rt .non r) := ⟨_, ps_retN, fun S H r σ F D0 x y => y .non σ S H F [] (.refl _ _ _) x ⟨rfl, rfl⟩ x.ft (.refl _ _)⟩
theorem ds_if {E : Env → Res Bool} {B C : Env → SR} {sa sb : List Stmt} (hc : DT X W c E) (ha : DSs X W fx sa B) (hb : DSs X W fx sb C) : DS X W fx (.If c sa sb pos) (fun r => (E r).thn fun k r1 => if k = true then B r1 else C r1) := by
  obtain ⟨t, p, q⟩ := hc; obtain ⟨t1, p1, q1⟩ := ha; obtain ⟨t2, p2, q2⟩ := hb
  refine ⟨_, ps_if p p1 p2, fun S H r σ F D0 x y => q S H r σ F _ x (SP1.thn y fun k r1 k' S1 H1 F1 T1 g1 x1 h1 f1 y1 => ?_)⟩
  obtain ⟨rfl, rfl⟩ := h1
  cases k with
  | true => exact q1 S1 H1 r1 σ F1 D0 x1 (SP1.step g1 (.refl _ _) y1)
  | false => exact q2 S1 H1 r1 σ F1 D0 x1 (SP1.step g1 (.refl _ _) y1)
/-! ### stores -/
def setS (i : Nat) (d : D) (r : Env) : SR := if i < r.length then .nx (r.set i (some d)) else .stk
theorem fix_set {i : Nat} {o : Option V} (h : i ∉ fx) : Fix fx σ (σ.set i o) := ⟨fun j hj => List.getElem?_set_ne fun e => h (by rw [e]; exact hj)⟩
theorem setS_end {i : Nat} {d : D} {v : V} (hf : i ∉ fx) (g : Go S H F S1 H1 (T ++ F1)) (x1 : At X.K W.tb S1 H1 r σ F1) (h1 : Rep X.K S1 H1 d v T) (f1 : Ft S1 H1 (T ++ F1)) (y : SP1 X W fx S H F σ D0 (setS i d r)) : D0.nx (σ.set i (some v)) H1 := by
  unfold setS at y
  split at y
  · rename_i l
    obtain ⟨F2, a1, a2⟩ := x1.put l h1 f1
    exact y _ S1 H1 F2 (g.sub a2) a1 (fix_set hf)
  · exact y.elim
theorem ds_set (i : Nat) {E : Env → Res D} (hN : X.N.Nodup) (hi : X.N[i]? = some x) (hx : Loc X.env.scope x) (he : DE X W e E) (hfx : i ∉ fx := by decide) (hs : swapsWith e (some (.Name x p)) pos.line X.env = pure false := by rfl)
    (hf : X.fn x = true ∨ X.env.scope.names.lookup x = some .local := by first | exact .inl rfl | exact .inr rfl | assumption) : DS X W fx (.Assign [.Name x p] e pos) (fun r => (E r).thn (setS i)) := by
  obtain ⟨t, h, q⟩ := he
  exact ⟨_, ps_set hN hi hx h hs hf, fun S H r σ F D0 x y => q S H r σ F _ x (SP1.thn y fun d r1 v S1 H1 F1 T1 g1 x1 h1 f1 y1 => setS_end hfx g1 x1 h1 f1 y1)⟩
/-- name = [..], a local name, on one line -/
theorem ds_setLc (i : Nat) {elt iter : Expr} {ifs : List Expr} {scope : Scope} {own : List (Str × Nat)} {ws : List Nat} {I : Env → Res (List D)} {G : D → Env → Option Env} {Tt : Env → Res Bool} {E : Env → Res D} (hc : X.calm = true) (hN : X.N.Nodup) (hi : X.N[i]? = some x) (hx : X.env.scope.names.lookup x = some .local)
    (hsw : swapsWith (.ListComp elt [⟨tg, iter, ifs, 0⟩] scope p2) (some (.Name x p)) pos.line X.env = pure true) (hit : DI X W tg iter I)
    (ok : BlkOk X.N X.env.scope scope own) (hws : ∀ j ∈ ws, j ∈ own.map (·.2)) (hg : ∀ (s : Shared) (H : Hp) (C : Addr) (cl : List (Str × Addr)) (fp : List Addr), DG (X.blk s H scope (compEnvC scope cl C X.env) fp) ws tg G)
    (ht : ∀ (s : Shared) (H : Hp) (C : Addr) (cl : List (Str × Addr)) (fp : List Addr), DTs (X.blk s H scope (compEnvC scope cl C X.env) fp) (W0 W.tb) ifs Tt)
    (he : ∀ (s : Shared) (H : Hp) (C : Addr) (cl : List (Str × Addr)) (fp : List Addr), DE (X.blk s H scope (compEnvC scope cl C X.env) fp) (W0 W.tb) elt E) (hfx : i ∉ fx := by decide) (hs : ∀ x, foldedSetIterable iter X.env x = pure x := by intro _; rfl) :
    DS X W fx (.Assign [.Name x p] (.ListComp elt [⟨tg, iter, ifs, 0⟩] scope p2) pos) (fun r => ((I r).bind fun ds r1 => (lcL G Tt E (own.map (·.2)) ds [] (wipeE r1 (own.map (·.2)))).bind fun acc r2 => .ok (.lst true acc) (resE r1 r2 (own.map (·.2)))).thn (setS i)) := by
  obtain ⟨wi, qi, zi⟩ := hit
  refine ⟨_, ps_setLc (te := tE X (W0 W.tb) E) (tt := tT X (W0 W.tb) Tt) (g := tG X ws G) hc hN hi hx hsw qi ok (fun s H C cl fp => (hg s H C cl fp).pg) (fun s H C cl fp => (ht s H C cl fp).pts) (fun s H C cl fp => (he s H C cl fp).pe) hs, fun S H r σ F D0 x y => ?_⟩
  exact rd_lc (X := X) (W := W) (Tt := Tt) (E := E) zi hws S H r σ F _ x (SP1.thn y fun d r1 v S1 H1 F1 T1 g1 x1 h1 f1 y1 => setS_end hfx g1 x1 h1 f1 y1)
/-- any target -/
def asgS (G : D → Env → Option Env) (d : D) (r : Env) : SR := match G d r with
  | some r' => .nx r'
  | none => .stk
theorem ds_asg {ws : List Nat} {G : D → Env → Option Env} {E : Env → Res D} (he : DE X W e E) (hg : DG X ws tg G) (hw : ∀ i ∈ ws, i ∉ fx) (hs : swapsWithSole [tg] e pos.line X.env = pure false := by rfl) (hs2 : swappedStores [tg] e X.env = pure none := by rfl)
    (h1 : (assignEach [tg] X.env).map (·.2) = [assign tg X.env] := by rfl) : DS X W fx (.Assign [tg] e pos) (fun r => (E r).thn (asgS G)) := by
  obtain ⟨t, h, q⟩ := he; obtain ⟨g, h', q'⟩ := hg
  refine ⟨_, ps_asg h h' hs hs2 h1, fun S H r σ F D0 x y => q S H r σ F _ x (SP1.thn y fun d r1 v S1 H1 F1 T1 g1 x1 h1 f1 y1 => ?_)⟩
  unfold asgS at y1
  split at y1
  · rename_i r' eg
    exact q' W.tb S1 H1 r1 σ F1 d v T1 _ x1 h1 f1 ⟨r', eg, fun σ' F' a1 a2 a3 a4 => y1 σ' S1 H1 F' (g1.sub a2) a1 ⟨fun i hi => a3 i fun z => hw i z hi⟩⟩
  · exact y1.elim
/-- a, b = x, y and a, b, c = x, y, z -/
def parS (i j : Nat) (ds : List D) (r : Env) : SR := match ds with
  | [d1, d2] => if i < r.length ∧ j < r.length then .nx ((r.set i (some d1)).set j (some d2)) else .stk
  | _ => .stk
theorem ds_par (i j : Nat) {y : Str} {E : Env → Res (List D)} {px py pt pt2 : Pos} {kt k2 : Nat} (hc : X.calm = true) (hN : X.N.Nodup) (hi : X.N[i]? = some x) (hj : X.N[j]? = some y) (hx : X.env.scope.names.lookup x = some .local) (hy : X.env.scope.names.lookup y = some .local)
    (ha : DA X W [a, b] E) (hij : i ≠ j := by decide) (hfi : i ∉ fx := by decide) (hfj : j ∉ fx := by decide) (hw : swappedStores [.Tuple [.Name x px, .Name y py] kt pt] (.Tuple [a, b] k2 pt2) X.env = pure (some [x, y]) := by rfl)
    (hs : swapsWithSole [.Tuple [.Name x px, .Name y py] kt pt] (.Tuple [a, b] k2 pt2) pos.line X.env = pure false := by rfl) : DS X W fx (.Assign [.Tuple [.Name x px, .Name y py] kt pt] (.Tuple [a, b] k2 pt2) pos) (fun r => (E r).thn (parS i j)) := by
  obtain ⟨t, h, q⟩ := ha
  refine ⟨_, ps_par hc hN hi hj hij hx hy h hw hs, fun S H r σ F D0 x y => q S H r σ F _ x (SP1.thn y fun ds r1 vs S1 H1 F1 T1 g1 x1 h1 f1 y1 => ?_)⟩
  unfold parS at y1
  split at y1
  · rename_i d1 d2
    split at y1
    · rename_i l
      obtain ⟨v, t1, A1, B1, e1, e2, r1', w, t2, A2, B2, e3, e4, r2', e5, e6⟩ := h1
      subst e5 e6 e3 e4 e1 e2
      refine ⟨v, w, rfl, ?_⟩
      simp only [List.append_nil] at f1 g1
      have f1' : Ft S1 H1 (A1 ++ (A2 ++ F1)) := by rw [← List.append_assoc]; exact f1
      obtain ⟨F2, a1, a2⟩ := x1.put l.1 r1' (f1'.narrow x1.ft fun b z => List.mem_append_right _ z)
      have f2 : Ft S1 H1 (A2 ++ F2) := f1'.right.left |> fun fA => ⟨List.nodup_append.mpr ⟨fA.nd, a1.ft.nd, fun b z c y e => by
        subst e
        rcases List.mem_append.mp (a2 b y) with q | q
        · exact f1'.apart b q (List.mem_append_left _ z)
        · exact f1'.right.apart b z q⟩, fun b z => (List.mem_append.mp z).elim (fA.dj b) (a1.ft.dj b), fun b z => (List.mem_append.mp z).elim (fA.mu b) (a1.ft.mu b), fA.sd⟩
      obtain ⟨F3, b1, b2⟩ := a1.put (i := j) (by simpa using l.2) r2' f2
      refine y1 _ S1 H1 F3 (g1.sub fun b z => ?_) b1 ((fix_set hfi).trans (fix_set hfj))
      have := b2 b z
      simp only [List.mem_append] at this ⊢
      rcases this with q | q
      · exact .inl (.inr q)
      · rcases List.mem_append.mp (a2 b q) with q | q
        · exact .inl (.inl q)
        · exact .inr q
    · exact y1.elim
  · exact y1.elim
/-- name op= e, what stood there shared -/
def augS (i : Nat) (g : D → D → Option D) (d0 d : D) (r : Env) : SR := match g d0 d with
  | some d' => setS i d' r
  | none => .stk
theorem ds_aug (i : Nat) {op : Operator} {q : R2} {g : D → D → Option D} {E : Env → Res D} (ho : OpR X (inplaceOp op) q) (v : V2 X.K q g) (hN : X.N.Nodup) (hi : X.N[i]? = some x) (hx : Loc X.env.scope x) (he : DE X W e E) (hfx : i ∉ fx := by decide)
    (hf : X.fn x = true ∨ X.env.scope.names.lookup x = some .local := by first | exact .inl rfl | exact .inr rfl | assumption) :
    DS X W fx (.AugAssign (.Name x p) op e pos) (fun r => match r[i]? with
      | some (some d0) => if d0.sh = true then (E r).thn (augS i g d0) else .stk
      | _ => .stk) := by
  obtain ⟨t, h, z⟩ := he
  refine ⟨_, ps_aug hN hi hx h (show PIp X op q from fun pins s σ H x y v u Q I rx ry w => augR ho I rx ry w) hf, fun S H r σ F D0 x y => ?_⟩
  dsimp only at y
  split at y
  · rename_i d0 e0
    split at y
    · rename_i hsh
      obtain ⟨v0, T0, s0, h0, _⟩ := x.get e0
      have eT : T0 = [] := Rep.sh d0 v0 T0 hsh h0
      subst eT
      refine ⟨v0, s0, z S H r σ F _ x (SP1.thn y fun d r1 w S1 H1 F1 T1 g1 x1 h1 f1 y1 => ?_)⟩
      unfold augS at y1
      split at y1
      · rename_i d' e'
        have h0' := Rep.go g1 x.ft d0 v0 [] (fun _ z => nomatch z) h0
        refine v S1 H1 d0 d v0 w [] T1 _ x1.ft.sd h0' h1 ⟨d', e', fun u S2 H2 T2 g2 h2 f2 => ?_⟩
        obtain ⟨a1, a2, a3⟩ := own_end g1 x1 g2 f2
        exact setS_end hfx a1 a2 h2 a3 y1
      · exact y1.elim
    · exact y.elim
  · exact y.elim
/-! ### loops -/
/-- behind a turn's body -/
def SR.loop (x : SR) (k : Env → SR) : SR := match x with
  | .nx r => k r
  | .ct r => k r
  | .bk r => .nx r
  | y => y
def forL (G : D → Env → Option Env) (B : Env → SR) : List D → Env → SR
  | [], r => .nx r
  | d :: ds, r => match G d r with
    | none => .stk
    | some r1 => (B r1).loop (forL G B ds)
theorem SP1.loop {k : Env → SR} {N : L2.St → Hp → Prop} {x : SR} (y : SP1 X W fx S H F σ D0 (x.loop k)) (h : ∀ r, SP1 X W fx S H F σ D0 (k r) → ∀ σ' S' H' F', Go S H F S' H' F' → At X.K W.tb S' H' r σ' F' → Fix fx σ σ' → N σ' H') :
    SP1 X W fx S H F σ { D0 with nx := N, ct := N, bk := D0.nx } x := by
  cases x with
  | nx r => exact h r y
  | ct r => exact h r y
  | bk r => exact y
  | rt d r => exact y
  | exc c r => exact y
  | stk => exact y
theorem ds_for {iter : Expr} {ws : List Nat} {I : Env → Res (List D)} {G : D → Env → Option Env} {B : Env → SR} (hp : PassesOwn (model X.prog X.w) X.A X.env X.xe) (hc : X.calm = true) (hi : DI X W tg iter I) (hg : DG X ws tg G) (hb : DSs X W fx sts B) (hw : ∀ i ∈ ws, i ∉ fx)
    (hs : ∀ x, foldedSetIterable iter X.env x = pure x := by intro _; rfl) : DS X W fx (.For tg iter sts [] pos) (fun r => (I r).thn (forL G B)) := by
  obtain ⟨wi, qi, zi⟩ := hi
  refine ⟨_, ps_for hp hc qi hg.pg hb.pss hs, fun S H r σ F D0 x y => zi S H r σ F _ x ?_⟩
  have y : SP1 X W fx S H F σ D0 ((I r).thn (forL G B)) := y
  cases eI : I r with
  | stk => rw [eI] at y; exact y
  | exc c r1 => rw [eI] at y; exact fun S' H' F' g x' => y σ S' H' F' g x' (.refl _ _)
  | ok ds r1 =>
    rw [eI] at y
    intro J S1 H1 F1 T1 P g1 x1 f1 it p0 st
    have y : SP1 X W fx S H F σ D0 (forL G B ds r1) := y
    have y0 := SP1.step (g1.sub (F2 := F1) fun b z => List.mem_append_right _ z) (.refl fx σ) y
    refine ⟨fun i m σ' H' => m = ds.length - i ∧ i ≤ ds.length ∧ ∃ S' r' F', At X.K W.tb S' H' r' σ' F' ∧ Ft S' H' (T1 ++ F') ∧ P S' H' ∧ SP1 X W fx S' H' F' σ' D0 (forL G B (ds.drop i) r'), ⟨ds.length, by simp, Nat.zero_le _, S1, r1, F1, x1, f1, p0, y0⟩, ?_⟩
    rintro i m σ2 H2 ⟨rfl, hi, S2, r2, F2, x2, f2, p2, y2⟩
    by_cases hlt : i < ds.length
    · have ed : ds[i]? = some ds[i] := List.getElem?_eq_getElem hlt
      obtain ⟨hgo, hyl⟩ := it.item i ds[i] S2 H2 ed p2 x2.ft.sd
      refine .inr ⟨hgo, fun σ' H' => i + 1 ≤ ds.length ∧ ∃ S' r' F', At X.K W.tb S' H' r' σ' F' ∧ Ft S' H' (T1 ++ F') ∧ P S' H' ∧ SP1 X W fx S' H' F' σ' D0 (forL G B (ds.drop (i + 1)) r'), fun σ' H' nx => ⟨ds.length - (i + 1), by omega, rfl, nx.1, nx.2⟩, fun v H3 yl => ?_⟩
      obtain ⟨g3, sd3, rd3⟩ := hyl v H3 yl
      have fn3 : Ft S2 H3 [] := Ft.nil sd3
      have x3 := x2.ext0 g3 fn3
      have p3 : P S2 H3 := st S2 H2 [] S2 H3 [] p2 (by simpa using f2.left) g3
      have f3 : Ft S2 H3 (T1 ++ F2) := f2.frame (go_side g3 F2) x3.ft
      rw [show ds.drop i = ds[i] :: ds.drop (i + 1) from List.drop_eq_getElem_cons hlt] at y2
      unfold forL at y2
      cases eG : G ds[i] r2 with
      | none => rw [eG] at y2; exact y2.elim
      | some r4 =>
        rw [eG] at y2
        refine ⟨W.tb, S2, r2, F2, ds[i], [], x3, rd3, x3.ft, r4, eG, fun σ4 F4 q4 s4 o4 l4 => ?_⟩
        have s4 : ∀ b ∈ F4, b ∈ F2 := fun b z => by simpa using s4 b z
        have f4 : Ft S2 H3 (T1 ++ F4) := f3.narrow q4.ft s4
        have fi4 : Fix fx σ2 σ4 := ⟨fun j hj => o4 j fun z => hw j z hj⟩
        have y4 := SP1.step ((go_side g3 F2).sub s4) fi4 y2
        refine ⟨S2, r4, F4, q4, ?_⟩
        have fin : ∀ {r5 : Env}, SP1 X W fx S2 H3 F4 σ4 D0 (forL G B (ds.drop (i + 1)) r5) → ∀ σ' S' H' F', Go S2 H3 F4 S' H' F' → At X.K W.tb S' H' r5 σ' F' → Fix fx σ4 σ' → i + 1 ≤ ds.length ∧ ∃ S'' r' F', At X.K W.tb S'' H' r' σ' F' ∧ Ft S'' H' (T1 ++ F') ∧ P S'' H' ∧ SP1 X W fx S'' H' F' σ' D0 (forL G B (ds.drop (i + 1)) r') := fun {r5} h σ' S' H' F' g x' f =>
          ⟨hlt, S', r5, F', x', f4.frame g x'.ft, st S2 H3 F4 S' H' F' p3 f4 g, SP1.step g f h⟩
        exact SP1.loop y4 fun r5 h => fin h
    · have e : i = ds.length := by omega
      subst e
      rw [List.drop_length] at y2
      exact .inl ⟨it.stop S2 H2 p2, y2 σ2 S2 H2 F2 (.refl _ _ _) x2 (.refl _ _)⟩
def whileL (E : Env → Res Bool) (B : Env → SR) : Nat → Env → SR
  | 0, _ => .stk
  | n + 1, r => (E r).thn fun k r1 => if k = true then (B r1).loop (whileL E B n) else .nx r1
theorem ds_while (n : Nat) {E : Env → Res Bool} {B : Env → SR} (hp : PassesOwn (model X.prog X.w) X.A X.env X.xe) (hc : DT X W c E) (hb : DSs X W fx sts B) : DS X W fx (.While c sts [] pos) (whileL E B n) := by
  refine ⟨_, ps_while hp hc.pt hb.pss, fun S H r σ F D0 x y => ?_⟩
  refine ⟨fun m σ' H' => ∃ S' r' F', At X.K W.tb S' H' r' σ' F' ∧ SP1 X W fx S' H' F' σ' D0 (whileL E B m r'), ⟨n, S, r, F, x, y⟩, ?_⟩
  rintro m σ1 H1 ⟨S1, r1, F1, x1, y1⟩
  cases m with
  | zero => exact y1.elim
  | succ m =>
    refine ⟨S1, r1, F1, x1, SP1.thn y1 fun k r2 k' S2 H2 F2 T2 g2 x2 h2 f2 y2 => ?_⟩
    obtain ⟨rfl, rfl⟩ := h2
    have g2 : Go S1 H1 F1 S2 H2 F2 := g2
    cases k with
    | false =>
      have y2 : SP1 X W fx S1 H1 F1 σ1 D0 (.nx r2) := y2
      rw [if_neg Bool.false_ne_true]
      exact y2 σ1 S2 H2 F2 g2 x2 (.refl _ _)
    | true =>
      rw [if_pos rfl]
      have y3 := SP1.step g2 (.refl fx σ1) y2
      refine ⟨fun σ' H' => ∃ S' r' F', At X.K W.tb S' H' r' σ' F' ∧ SP1 X W fx S' H' F' σ' D0 (whileL E B m r'), fun σ' H' h => ⟨m, Nat.lt_succ_self m, h⟩, S2, r2, F2, x2, ?_⟩
      rw [if_pos rfl] at y3
      exact SP1.loop y3 fun r5 h σ' S' H' F' g x' f => ⟨S', r5, F', x', SP1.step g f h⟩
end
end DL

/-! DRev: list(reversed(xs)). -/
namespace DL
open PySem PySem.Spec PyProof.Rows L2
section
variable {prog : Program} {w : World} {A : Around} {E : Value → Shared → Prop} {s : Shared}
theorem ext_rev {it l S : Addr} {items : Array Value} {c0 : Nat} {R : Result → Shared → Prop} {res : Value} (hh : A.handled = none) (hit : s.heap.IsRevIter it l ((items.size : Int) - 1)) (hl : s.heap.IsList l items) (hne : l ≠ it) (hn : items.size ≤ sizeLine)
    (hS : s.heap.get? S = some { cls := .type "list", data := .seq #[] c0 }) (hSi : S ≠ it) (hSl : S ≠ l)
    (hR : ∀ h' tk acc' c', (∀ b o, b ≠ S → b ≠ it → s.heap.get? b = some o → h'.get? b = some o) → h'.get? S = some { cls := .type "list", dict := none, data := .seq acc' c', slots := #[] } → ItemsOf (fun i v => items[items.size - 1 - i]? = some v) acc' items.size → R (.ok (.ret res)) { s with heap := h', toks := tk }) :
    wpAny (model prog w) A.in1 (Builtin.List.listExtendWith (.ref S) (.ref it) res)
      (fun fin s' => match fin with | .done f => R (.ok f) s' | .again c' => c'.quiet = true ∧ codeAny (model prog w) A c' R s') (fun e s' => R (.error e) s') s := by
  have W := (Walks.listRev (prog := prog) (w := w) (A := A.in1) hh it l hne items).toS
  have hSf : S ∉ [it, l] := by
    simp only [List.mem_cons, List.not_mem_nil, or_false, not_or]
    exact ⟨hSi, hSl⟩
  have ty := Heap.IsRevIter.typeIs hit
  have same : Builtin.List.listSameRef (.ref S) (.ref it) = false := by simp [Builtin.List.listSameRef, hSi]
  unfold Builtin.List.listExtendWith
  refine wpAny_bind (wpAny_typeOf ty ?_)
  rw [if_neg (by rw [same]; decide)]
  refine wpAny_bind (wpAny_pyIter_revIter hit (wpAny_bind (wpAny_holding ?_)))
  unfold Builtin.List.listLengthHint
  refine wpAny_bind (wpAny_specialOf ty RT.nolen_lri ?_)
  show wpAny _ A.in1 (specialOf (Value.ref it) (Str.ofString "__length_hint__") >>= _) _ _ _
  refine wpAny_bind (wpAny_specialOf ty RT.hint_lri ?_)
  generalize hx : ("list_reverseiterator.__length_hint__" : String) = nm
  wp_delta
  rw [show splitId nm = some ("list_reverseiterator", "__length_hint__") from by subst hx; decide +kernel]
  subst hx
  refine wpAny_bind (wpAny_isInstance (b := true) ty (by rw [isSubtype_type]; kernel_rfl) (wpAny_pure ?_))
  rw [if_neg (by decide)]
  have z : ((items.size : Nat) : Int) - 1 - ((0 : Nat) : Int) = (items.size : Int) - 1 := by omega
  refine wpAny_pure ⟨plainId_quiet F.plain_extend_loop _, codeAny_extend_loopS W hn S hSf res items.size 0 s #[] c0 rfl (Nat.zero_le _) ⟨Nat.zero_le _, ?_, hl⟩ hS (ItemsOf.nil _) fun s' acc' c' hm hS' hacc => ?_⟩
  · rw [z]; exact hit
  · rw [Moved.eq_with hm]
    refine hR s'.heap s'.toks acc' c' (fun b o n1 n2 e => hm.heap b o (fun q => ?_) e) hS' hacc
    rcases List.mem_cons.mp q with q | q
    · exact n1 q
    · exact n2 (List.mem_singleton.mp q)
theorem call_list_rev {it l : Addr} {items : Array Value} {Q : Value → Shared → Prop} (hh : A.handled = none) (hit : s.heap.IsRevIter it l ((items.size : Int) - 1)) (hl : s.heap.IsList l items) (hne : l ≠ it) (hn : items.size ≤ sizeLine)
    (hQ : ∀ h' tk acc' c', (∀ b o, b ≠ it → s.heap.get? b = some o → h'.get? b = some o) → h'.get? s.heap.objs.size = some { cls := .type "list", dict := none, data := .seq acc' c', slots := #[] } → ItemsOf (fun i v => items[items.size - 1 - i]? = some v) acc' items.size → Q (.ref s.heap.objs.size) { s with heap := h', toks := tk }) :
    wpAny (model prog w) A (call (.type "list") [.ref it]) Q E s := by
  obtain ⟨oi, hoi, _⟩ := id hit
  obtain ⟨ol, hol, _⟩ := id hl
  have n1 : s.heap.objs.size ≠ it := Nat.ne_of_gt (Heap.lt_size hoi)
  have n2 : s.heap.objs.size ≠ l := Nat.ne_of_gt (Heap.lt_size hol)
  refine callType_codes (Q₁ := fun obj s₁ => obj = .ref s.heap.objs.size ∧ s₁ = { s with heap := s.heap.push { cls := .type "list", data := .seq #[] } }) PySem.F.called_list (PySem.F.typeCall_list_1 _) PySem.F.entry_list_init (code_list_new _ ⟨rfl, rfl⟩) fun obj s₁ h₁ => ?_
  obtain ⟨rfl, rfl⟩ := h₁
  have hS : (s.heap.push { cls := .type "list", data := .seq #[] }).get? s.heap.objs.size = some { cls := .type "list", data := .seq #[] } := Heap.get?_push_size _ rfl
  refine ⟨⟨_, hS, rfl⟩, PySem.F.args_list_init_2 _ _, ?_⟩
  show wpAny _ _ (do let old ← Builtin.List.listItems (.ref s.heap.objs.size); Builtin.List.listUpdate (.ref s.heap.objs.size) (fun _ => #[]); letGo old.toList.reverse; Builtin.List.listExtendWith (.ref s.heap.objs.size) (.ref it) .none) _ _ _
  refine wpAny_bind ?_
  unfold Builtin.List.listItems
  refine wpAny_bind (wpAny_seqItems hS rfl (wpAny_pure ?_))
  show wpAny _ _ (updateSeq s.heap.objs.size (fun _ => #[]) >>= fun _ => letGo (#[] : Array Value).toList.reverse >>= fun _ => Builtin.List.listExtendWith (.ref s.heap.objs.size) (.ref it) .none) _ _ _
  refine wpAny_bind (wpAny_updateSeq hS rfl ?_)
  have hS2 := Heap.get?_update_self (Obj.mapSeq (fun _ => (#[] : Array Value))) hS rfl
  have oth : ∀ b o, s.heap.get? b = some o → ((s.heap.push { cls := .type "list", data := .seq #[] }).update s.heap.objs.size (Obj.mapSeq (fun _ => (#[] : Array Value)))).get? b = some o :=
    fun b o e => (Heap.get?_update_other _ _ (Ne.symm (Nat.ne_of_lt (Heap.lt_size e)))).trans (Heap.get?_push_of_some _ e)
  refine wpAny_bind (wpAny_letGo ?_)
  refine ext_rev (A := A.in1) hh (hit.at fun o e => oth it o e) (by obtain ⟨o, e, r⟩ := hl; exact ⟨o, oth l o e, r⟩) hne hn hS2 n1 n2 (fun h' tk acc' c' hk hS' hacc => ?_)
  exact ⟨rfl, hQ h' tk acc' c' (fun b o hb e => hk b o (Nat.ne_of_lt (Heap.lt_size e)) hb (oth b o e)) hS' hacc⟩
end
section
variable {X : Cx} {W : WT} {e : Expr} {S : Addr → Prop} {H : Hp} {F : Fp} {σ : L2.St} {r : Env} {pos p p2 pos2 : Pos}
def tLstRev (K : PySem.W.Frag) (te : TE) : TE := fun σ H Q => te σ H fun v H1 => ∃ (a : Addr) (xs : List V), v = .ref a ∧ SqL K H1 a xs ∧ ∀ q, H1 q = none → Q (.ref q) (upd H1 q (.lst xs.reverse))
theorem pe_lstRev {te : TE} (hc : X.calm = true) (hg : Gl X "list") (hm : X.mg "list" = none) (hg2 : Gl X "reversed") (hm2 : X.mg "reversed" = none) (he : PE X e te)
    (hs : starEach [e] X.env = (false, eval e X.env) :: starEach [] X.env := by rfl)
    (hs2 : starEach [.Call (.Name "reversed" p2) [e] [] pos2] X.env = (false, eval (.Call (.Name "reversed" p2) [e] [] pos2) X.env) :: starEach [] X.env := by rfl) :
    PE X (.Call (.Name "list" p) [.Call (.Name "reversed" p2) [e] [] pos2] [] pos) (tLstRev X.K te) := by
  constructor
  intro pins s σ H Q I h
  have inner : ∀ {Q' : Value → Shared → Prop}, (∀ u s1 v H1, Inv X pins σ H1 s1 → RelV v u → (∃ (a : Addr) (xs : List V), v = .ref a ∧ SqL X.K H1 a xs ∧ ∀ q, H1 q = none → Q (.ref q) (upd H1 q (.lst xs.reverse))) → wpAny (model X.prog X.w) X.A (call (.type "reversed") [u]) Q' X.xe s1) →
      wpAny (model X.prog X.w) X.A (eval (.Call (.Name "reversed" p2) [e] [] pos2) X.env) Q' X.xe s := fun {Q'} k =>
    Call_ (ld_blt I hg2 hm2 PyProof.Rows.boot_reversed (PyProof.Rows.callWith_type1 (args_cons (thn (he.run pins s σ H _ I h) fun u s1 ⟨v, H1, I1, r1, q1⟩ => args_nil (k u s1 v H1 I1 r1 q1)) hs) hs rfl))
  refine Call_ (ld_blt I hg hm boot_list (PyProof.Rows.callWith_type1 (args_cons (inner fun u s1 v H1 I1 r1 ⟨a, xs, ev, hq, q⟩ => ?_) hs2) hs2 rfl))
  subst ev
  have eu : u = .ref a := r1
  subst eu
  obtain ⟨its, rv, pl, hz⟩ := I1.list hq
  refine call_reversed_list pl.isList (args_nil ?_)
  have I2 : Inv X pins σ H1 { s1 with heap := s1.heap.push (revObj a ((its.toArray.size : Int) - 1)) } := I1.kept (t' := s1.toks) fun b o z => Heap.get?_push_of_some _ z
  obtain ⟨f0, f1, f2, f3, f4, f5⟩ := I1.fpOk (H' := H1) (b := s1.heap.objs.size) (Nat.le_refl _) (I1.hok.fresh (Nat.le_refl _))
  have hl := pl.isList
  obtain ⟨ol, hol, _⟩ := id hl
  have hn : its.toArray.size ≤ sizeLine := by rw [List.size_toArray, ← rv.length]; exact hz
  refine call_list_rev (s := { s1 with heap := s1.heap.push (revObj a ((its.toArray.size : Int) - 1)) }) (I1.ok.hd hc) ⟨_, Heap.get?_push_size _ rfl, rfl, rfl⟩ (hl.push _) (Nat.ne_of_lt (Heap.lt_size hol)) hn fun h' tk acc c' hk hD hi => ?_
  have I3 : Inv X pins σ H1 { s1 with heap := h', toks := tk } := I2.turned (t' := tk) hk f0 f1 f3 f4 f5
  generalize hq0 : (s1.heap.push (revObj a ((its.toArray.size : Int) - 1))).objs.size = q0 at hD ⊢
  have fr : H1 q0 = none := I2.hok.fresh (by rw [← hq0]; exact Nat.le_refl _)
  have val : Vals xs.reverse acc.toList := RT.vals_rev rv hi
  have big : ∀ b o, (s1.heap.push (revObj a ((its.toArray.size : Int) - 1))).get? b = some o → b ≠ q0 := fun b o z => by rw [← hq0]; exact Nat.ne_of_lt (Heap.lt_size z)
  have ne : ∀ b u, H1 b = some u → b ≠ q0 := fun b u z y => by rw [y, fr] at z; cases z
  have hok : HOk X.prog X.w (upd H1 q0 (.lst xs.reverse)) h' := fun b u z => by
    by_cases hb : b = q0
    · subst hb
      rw [upd_same] at z
      cases z
      exact ⟨by rw [List.length_reverse]; exact hz, acc.toList, c', val, by rw [Array.toArray_toList]; exact hD⟩
    · rw [upd_ne hb] at z
      exact (I3.hok b u z).stay (fun _ _ _ y => y) (fun d y => by rw [upd_ne (ne d _ y)]; exact y) fun d ys y => by rw [upd_ne (ne d _ y)]; exact y
  refine ⟨.ref q0, upd H1 q0 (.lst xs.reverse), ?_, rfl, q q0 fr⟩
  refine I2.step (g' := s1.gens) (d' := s1.drawn) (t' := tk) (ch := [s1.heap.objs.size]) (fun b hb => by rw [List.mem_singleton.mp hb]; exact ⟨f3, f1, f4, f5⟩) (fun b o _ _ hc z _ => hk b o (fun y => hc (by simp [y])) z) (fun b o _ _ hc z _ => ⟨o.slots, hk b o (fun y => hc (by simp [y])) z⟩)
    (fun b o _ z n => by rw [upd_ne (big b o z)]; exact n) (fun b o hc z => ⟨o, hk b o (fun y => hc (by simp [y])) z⟩) (fun b ys z => by rw [upd_ne (ne b _ z)]; exact z) (fun b o u z => by rw [upd_ne (ne b _ z)]; exact z) (fun b ps z => ⟨#[], by rw [upd_ne (ne b _ z), z]; simp⟩) (fun m hm => ?_) hok I2.bare
  obtain ⟨o, es, ep, ho, rest⟩ := hm
  exact ⟨o, es, ep, hk _ o (fun y => f1 y.symm) ho, rest⟩
def revE (d : D) (r : Env) : Res D := match d with
  | .lst _ ds => if D.shL ds = true then .ok (.lst true ds.reverse) r else .stk
  | _ => .stk
theorem RepL.rev {K : PySem.W.Frag} {S : Addr → Prop} {H : Hp} : ∀ {ds : List D} {vs : List V}, RepL K S H ds vs [] → RepL K S H ds.reverse vs.reverse []
  | [], vs, h => by rw [h.1]; exact ⟨rfl, rfl⟩
  | d :: ds, vs, h => by
    obtain ⟨v, t, F1, F2, e1, e2, h1, h2⟩ := h
    obtain ⟨rfl, rfl⟩ := List.append_eq_nil_iff.mp e2.symm
    subst e1
    rw [List.reverse_cons, List.reverse_cons]
    simpa using (RepL.rev h2).append (RepL.one h1)
theorem de_lstRev {E : Env → Res D} (hc : X.calm = true) (hg : Gl X "list") (hm : X.mg "list" = none) (hg2 : Gl X "reversed") (hm2 : X.mg "reversed" = none) (he : DR X W e E)
    (hs : starEach [e] X.env = (false, eval e X.env) :: starEach [] X.env := by rfl)
    (hs2 : starEach [.Call (.Name "reversed" p2) [e] [] pos2] X.env = (false, eval (.Call (.Name "reversed" p2) [e] [] pos2) X.env) :: starEach [] X.env := by rfl) :
    DE X W (.Call (.Name "list" p) [.Call (.Name "reversed" p2) [e] [] pos2] [] pos) (fun r => (E r).bind revE) := by
  obtain ⟨t, h, z⟩ := he
  refine ⟨_, pe_lstRev hc hg hm hg2 hm2 h hs hs2, fun S H r σ F Q x y => z S H r σ F _ x (EP1.bindR (Go.refl _ _ _) y fun d r1 v S1 H1 F1 T1 g1 x1 h1 y1 => ?_)⟩
  unfold revE at y1
  split at y1
  · rename_i o ds
    split at y1
    · rename_i c
      obtain ⟨a, vs, rfl, hq, rl⟩ := h1.lst_at c
      refine ⟨a, vs, rfl, .inl (.inl hq), fun q hq0 => ?_⟩
      have sd := x1.ft.sd
      have g2 : Go S1 H1 [] S1 (upd H1 q (.lst vs.reverse)) [q] := go_new sd hq0 [q] (fun _ z => by simpa using z)
      obtain ⟨a1, a2, a3⟩ := own_end (T1 := []) (by simpa using g1) x1 g2 (ft_new sd hq0)
      exact y1 (.ref q) S1 _ F1 [q] a1 a2 (rep_lst sd hq0 rl.rev) a3
    · exact y1.elim
  · exact y1.elim
end
end DL

/-! DBody: a def by its body; the law's end. -/
namespace DL
open PySem PySem.Spec PyProof.Rows L2
def startE (n : Nat) (ds : List D) : Env := ds.map some ++ List.replicate (n - ds.length) none
section
variable {K : PySem.W.Frag} {S S' : Addr → Prop} {H H' : Hp} {F F' T : Fp} {σ : L2.St} {r : Env}
theorem repE_none : ∀ n : Nat, RepE K S H (List.replicate n none) (List.replicate n none) []
  | 0 => ⟨rfl, rfl⟩
  | n + 1 => ⟨none, _, rfl, repE_none n⟩
theorem repE_start {n : Nat} : ∀ {ds : List D} {vs : List V} {T : Fp}, RepL K S H ds vs T → RepE K S H (ds.map some ++ List.replicate n none) (vs.map some ++ List.replicate n none) T
  | [], vs, T, h => by obtain ⟨rfl, rfl⟩ := h; exact repE_none n
  | d :: ds, vs, T, h => by
    obtain ⟨v, t, F1, F2, e1, e2, h1, h2⟩ := h
    subst e1 e2
    exact ⟨v, _, F1, F2, rfl, rfl, h1, repE_start h2⟩
end
def outP : SR → PR D
  | .nx _ => .ok .non
  | .rt d _ => .ok d
  | .exc c _ => .exc c
  | _ => .stk
def slot0 (r : Env) : Option D := match r[0]? with
  | some (some o) => some o
  | _ => none
theorem slot0_some {r : Env} {o : D} (h : slot0 r = some o) : r[0]? = some (some o) := by
  unfold slot0 at h
  split at h
  · rename_i e; cases h; exact e
  · cases h
def outM : SR → MR
  | .nx r => (slot0 r).elim .stk fun o => .ok .non o
  | .rt d r => (slot0 r).elim .stk fun o => .ok d o
  | .exc c r => (slot0 r).elim .stk fun o => .exc c o
  | _ => .stk
section
variable {tb : List Addr} {P : Program} {w : World} {K : PySem.W.Frag} {mg : Str → Option Value} {base : Heap} {x qual : Str} {st : Stmt} {f : Addr} {fd : FuncData} {N ps : List Str} {k : Nat}

abbrev wE (tb : List Addr) (E : XK) : WT := ⟨fun c d _ H => E c d H, tb⟩
/-- a def by its body; its code object is known -/
theorem fun_okC {k : Nat} {sp : Sp} (F : Fun K x qual st f fd) (Sc : FnScope N ps (defScope st)) (len : ∀ vs H Q E, sp vs H Q E → vs.length = ps.length)
    (hbody : ∀ (cdv : Value) (A : Around) (outer : List PySem.Env) (s : Shared) (H : Hp) (vs : List V) (Q : VK) (E : XK), fd.code = cdv → Room k (A.deeper (envOfC qual (defScope st) s.heap.objs.size f cdv)) → sp vs H Q E →
      ∃ t, PSs (cxOf (L2N.CX P w) P w K mg base N qual (defScope st) f cdv A outer s H E) (defBody st) t ∧ t { nx := fun _ H' => Q .non H', rt := Q } (L2.start N vs) H) : FnOk P w K mg base (L2N.CX P w) (k + 1) f fd ps sp := by
  obtain ⟨oc, od, kV, doc, pm, an, cdv, ct, osl, rfl, lk, hcd⟩ := F.ex
  exact fn_of lk hcd Sc len fun A outer s H vs Q E hr hsp => hbody cdv A outer s H vs Q E rfl hr hsp
theorem fnD_of {m : List D → PR D} {B : Env → SR} (F : Fun K x qual st f fd) (Sc : FnScope N ps (defScope st))
    (hb : ∀ (cdv : Value) (A : Around) (outer : List PySem.Env) (s : Shared) (H : Hp) (E : XK), fd.code = cdv → Room k (A.deeper (envOfC qual (defScope st) s.heap.objs.size f cdv)) → DSs (cxOf (L2N.CX P w) P w K mg base N qual (defScope st) f cdv A outer s H E) (wE tb E) [] (defBody st) B)
    (hm : ∀ ds : List D, ds.length = ps.length → m ds = outP (B (startE N.length ds))) : FnD P w K mg base tb (k + 1) f fd ps m := by
  refine fun_okC F Sc (fun vs H Q E h => h.1) (fun cdv A outer s H vs Q E hcd hr h => ?_)
  obtain ⟨t, q, z⟩ := hb cdv A outer s H E hcd hr
  obtain ⟨hl, S, ds, T, rl, ft, tb0, h⟩ := h
  refine ⟨t, q, z S H (startE N.length ds) (L2.start N vs) T _ ⟨ft, ?_, tb0⟩ ?_⟩
  · unfold startE L2.start
    rw [rl.len]
    exact repE_start rl
  · have hlen : ds.length = ps.length := by rw [rl.len]; exact hl
    rw [hm ds hlen] at h
    cases eB : B (startE N.length ds) with
    | nx r => rw [eB] at h; exact fun σ' S' H' F' g x' fi => h .non S' H' [] (g.sub fun _ z => nomatch z) ⟨rfl, rfl⟩ (Ft.nil x'.ft.sd)
    | rt d r => rw [eB] at h; exact fun v σ' S' H' F' T' g x' hv f' fi => h v S' H' T' (g.sub fun b z => List.mem_append_left _ z) hv f'.left
    | exc c r => rw [eB] at h; exact fun σ' S' H' F' g x' fi => h S' H' (g.sub fun _ z => nomatch z) (Ft.nil x'.ft.sd)
    | bk r => rw [eB] at h; exact h.elim
    | ct r => rw [eB] at h; exact h.elim
    | stk => rw [eB] at h; exact h.elim
theorem fnM_of {m : List D → MR} {B : Env → SR} (F : Fun K x qual st f fd) (Sc : FnScope N ps (defScope st)) (h0 : 0 < ps.length)
    (hb : ∀ (cdv : Value) (A : Around) (outer : List PySem.Env) (s : Shared) (H : Hp) (E : XK), fd.code = cdv → Room k (A.deeper (envOfC qual (defScope st) s.heap.objs.size f cdv)) → DSs (cxOf (L2N.CX P w) P w K mg base N qual (defScope st) f cdv A outer s H E) (wE tb E) [0] (defBody st) B)
    (hm : ∀ ds : List D, ds.length = ps.length → m ds = outM (B (startE N.length ds))) : FnM P w K mg base tb (k + 1) f fd ps m := by
  refine fun_okC F Sc (fun vs H Q E h => h.1) (fun cdv A outer s H vs Q E hcd hr h => ?_)
  obtain ⟨t, q, z⟩ := hb cdv A outer s H E hcd hr
  obtain ⟨hl, _, S, ds, T, rl, ft, tb0, h⟩ := h
  refine ⟨t, q, z S H (startE N.length ds) (L2.start N vs) T _ ⟨ft, ?_, tb0⟩ ?_⟩
  · unfold startE L2.start
    rw [rl.len]
    exact repE_start rl
  · have hlen : ds.length = ps.length := by rw [rl.len]; exact hl
    rw [hm ds hlen] at h
    obtain ⟨v0, vr, ev⟩ : ∃ v0 vr, vs = v0 :: vr := by
      cases vs with
      | nil => simp at hl; omega
      | cons a b => exact ⟨a, b, rfl⟩
    have s0 : (L2.start N vs)[0]? = some (some v0) := by rw [ev]; rfl
    have g0 : vs.getD 0 .non = v0 := by rw [ev]; rfl
    rw [g0] at h
    -- what stands in slot 0 at the end
    have last : ∀ {r : Env} {o : D} {σ' : L2.St} {S' : Addr → Prop} {H' : Hp} {F' : Fp}, r[0]? = some (some o) → At K tb S' H' r σ' F' → Fix [0] (L2.start N vs) σ' → ∃ T2, Rep K S' H' o v0 T2 ∧ (∀ b ∈ T2, b ∈ F') ∧ Ft S' H' T2 := fun {r o σ' S' H' F'} e x' fi => by
      obtain ⟨v, T2, F2, a1, a2, a3, a4, a5⟩ := x'.take e
      have := fi.at_ 0 (by simp)
      rw [s0, a1] at this
      cases this
      exact ⟨T2, a2, fun b z => (a5 b).mp (List.mem_append_left _ z), a4.left⟩
    cases eB : B (startE N.length ds) with
    | nx r =>
      rw [eB] at h
      intro σ' S' H' F' g x' fi
      cases e0 : slot0 r with
      | none =>
        rw [show outM (.nx r) = .stk from by show Option.elim (slot0 r) _ _ = _; rw [e0]; rfl] at h
        exact h.elim
      | some o =>
        rw [show outM (.nx r) = .ok .non o from by show Option.elim (slot0 r) _ _ = _; rw [e0]; rfl] at h
        obtain ⟨T2, a1, a2, a3⟩ := last (slot0_some e0) x' fi
        exact h .non S' H' [] T2 (g.sub (by simpa using a2)) ⟨rfl, rfl⟩ a1 (by simpa using a3)
    | rt d r =>
      rw [eB] at h
      intro v σ' S' H' F' T' g x' hv f' fi
      cases e0 : slot0 r with
      | none =>
        rw [show outM (.rt d r) = .stk from by show Option.elim (slot0 r) _ _ = _; rw [e0]; rfl] at h
        exact h.elim
      | some o =>
        rw [show outM (.rt d r) = .ok d o from by show Option.elim (slot0 r) _ _ = _; rw [e0]; rfl] at h
        obtain ⟨T2, a1, a2, a3⟩ := last (slot0_some e0) x' fi
        refine h v S' H' T' T2 (g.sub fun b z => ?_) hv a1 (f'.narrow a3 a2)
        rcases List.mem_append.mp z with z | z
        · exact List.mem_append_left _ z
        · exact List.mem_append_right _ (a2 b z)
    | exc c r =>
      rw [eB] at h
      intro σ' S' H' F' g x' fi
      cases e0 : slot0 r with
      | none =>
        rw [show outM (.exc c r) = .stk from by show Option.elim (slot0 r) _ _ = _; rw [e0]; rfl] at h
        exact h.elim
      | some o =>
        rw [show outM (.exc c r) = .exc c o from by show Option.elim (slot0 r) _ _ = _; rw [e0]; rfl] at h
        obtain ⟨T2, a1, a2, a3⟩ := last (slot0_some e0) x' fi
        exact h S' H' T2 (g.sub a2) a1 a3
    | bk r => rw [eB] at h; exact h.elim
    | ct r => rw [eB] at h; exact h.elim
    | stk => rw [eB] at h; exact h.elim
/-- within a body: the wish about exceptions is taken -/
theorem takes_body {cdv : Value} {A : Around} {outer : List PySem.Env} {s : Shared} {H : Hp} {E : XK} : L2N.Takes (cxOf (L2N.CX P w) P w K mg base N qual (defScope st) f cdv A outer s H E) (wE tb E) := L2N.takes_of rfl rfl rfl rfl
/-! ### the law -/
def spLaw (K : PySem.W.Frag) (tb : List Addr) : Sp := fun vs H Q _ => ∃ (a : Addr) (ns : List Int), vs = [.ref a] ∧ ns.length ≤ 63 ∧ (∀ P ∈ tb, H P = some (.tbl #[])) ∧ SqL K H a (ns.map V.int) ∧ ∀ H', Q (.bl true) H'
theorem law_imp {m : List D → PR D} {ps : List Str} (hps : ps.length = 1) (F : FnD P w K mg base tb k f fd ps m) (hm : ∀ ns : List Int, ns.length ≤ 63 → m [.scr ns] = .ok (.bl true)) : FnOk P w K mg base (L2N.CX P w) k f fd ps (spLaw K tb) := by
  refine F.imp fun vs H Q E h => ?_
  obtain ⟨a, ns, rfl, hl, ht, hs, q⟩ := h
  have tabs : ∀ P ∈ tb, TabG H P := fun P hP => ⟨#[], ht P hP, trivial⟩
  have fin : ∀ S : Addr → Prop, (∀ b, S b → H b ≠ none) → Scr K S H a (ns.map V.int) → spD K mg tb ps.length m [.ref a] H Q E := fun S sd sc => by
    refine ⟨hps.symm, S, [.scr ns], [], ⟨.ref a, [], [], [], rfl, rfl, ⟨rfl, a, rfl, sc⟩, rfl, rfl⟩, Ft.nil sd, tabs, ?_⟩
    rw [hm ns hl]
    intro v S' H' T' g hv f'
    obtain ⟨rfl, _⟩ := hv
    exact q H'
  rcases hs with (hs | ⟨o, hs⟩) | hs
  · exact fin (fun b => b = a) (fun b e => by subst e; rw [hs]; simp) (.inl (.inr ⟨hs, rfl⟩))
  · exact fin (fun _ => False) (fun _ z => z.elim) (.inl (.inl ⟨o, hs⟩))
  · exact fin (fun _ => False) (fun _ z => z.elim) (.inr hs)
end
end DL
namespace DL
open PySem PySem.Spec PyProof.Rows L2
theorem takes0N {X : Cx} : L2N.Takes X (fun _ _ _ _ => False) := fun _ _ x => by
  obtain ⟨_, _, _, _, _, _, _, _, _, _, _, _, _, _, _, _, z⟩ := x
  exact z.elim
end DL

/-! DNames: the data functions by name, and the rules said with them. -/
namespace DL
open PySem PySem.Spec PyProof.Rows L2
/-! ### the functions -/
abbrev EP := Env → PR D
abbrev EE := Env → Res D
abbrev BP := Env → PR Bool
abbrev BE := Env → Res Bool
def pC (d : D) : EP := fun _ => .ok d
def eSh (P : EP) : EE := fun r => ((P r).up r).bind shO
def eUp (P : EP) : EE := fun r => (P r).up r
def tUp (P : BP) : BE := fun r => (P r).up r
def pOp (g : D → D → Option D) (A B : EP) : EP := fun r => (A r).bind fun x => (B r).bind fun y => opP (g x) y
def eOp (g : D → D → Option D) (A B : EE) : EE := fun r => (A r).bind fun x r1 => (B r1).bind fun y r2 => opE (g x) y r2
def pUn (g : D → Option D) (A : EP) : EP := fun r => (A r).bind (opP g)
def eUn (g : D → Option D) (A : EE) : EE := fun r => (A r).bind (opE g)
def bP (P : EP) : BP := fun r => (P r).bind asBp
def bE (E : EE) : BE := fun r => (E r).bind asB
def tNot (E : BE) : BE := fun r => (E r).bind fun k r1 => .ok (!k) r1
def tpNot (E : BP) : BP := fun r => (E r).bind fun k => .ok (!k)
def tAnd (E G : BE) : BE := fun r => (E r).bind fun k r1 => if k = true then G r1 else .ok false r1
def tOr (E G : BE) : BE := fun r => (E r).bind fun k r1 => if k = true then .ok true r1 else G r1
def tpAnd (E G : BP) : BP := fun r => (E r).bind fun k => if k = true then G r else .ok false
def tpOr (E G : BP) : BP := fun r => (E r).bind fun k => if k = true then .ok true else G r
def pAnd (E G : EP) : EP := fun r => ((E r).bind asBp).bind fun k => if k = true then G r else .ok (.bl false)
def pOr (E G : EP) : EP := fun r => ((E r).bind asBp).bind fun k => if k = true then .ok (.bl true) else G r
def eAnd (E G : EE) : EE := fun r => ((E r).bind asB).bind fun k r1 => if k = true then G r1 else .ok (.bl false) r1
def eOr (E G : EE) : EE := fun r => ((E r).bind asB).bind fun k r1 => if k = true then .ok (.bl true) r1 else G r1
def pNot (E : EP) : EP := fun r => ((E r).bind asBp).bind fun k => .ok (.bl !k)
def eIf (E : BE) (A B : EE) : EE := fun r => (E r).bind fun k r1 => if k = true then A r1 else B r1
def pIf (E : BP) (A B : EP) : EP := fun r => (E r).bind fun k => if k = true then A r else B r
def pIx (A B : EP) : EP := fun r => (A r).bind fun x => (B r).bind fun y => opP (dIx x) y
def eIx (A B : EE) : EE := fun r => (A r).bind fun x r1 => (B r1).bind fun y r2 => (opE (dIx x) y r2).bind shO
def aNil : Env → Res (List D) := fun r => .ok [] r
def aCons (E : EE) (G : Env → Res (List D)) : Env → Res (List D) := fun r => (E r).bind fun d r1 => (G r1).bind fun ds r2 => .ok (d :: ds) r2
def paNil : Env → PR (List D) := fun _ => .ok []
def paCons (E : EP) (G : Env → PR (List D)) : Env → PR (List D) := fun r => (E r).bind fun d => (G r).bind fun ds => .ok (d :: ds)
def eTup (A : Env → Res (List D)) : EE := fun r => (A r).bind tupE
def pTup (A : Env → PR (List D)) : EP := fun r => (A r).bind fun ds => if ds.length ≤ sizeLine then .ok (.tup ds) else .stk
def eLst (A : Env → Res (List D)) : EE := fun r => (A r).bind lstE
def pLst (A : Env → PR (List D)) : EP := fun r => (A r).bind fun ds => if ds.length ≤ sizeLine then .ok (.lst true ds) else .stk
def eCB (g : List D → Option D) (A : Env → Res (List D)) : EE := fun r => (A r).bind (opE g)
def pCB (g : List D → Option D) (A : Env → PR (List D)) : EP := fun r => (A r).bind (opP g)
def epCB (g : List D → Option D) (A : Env → PR (List D)) : EE := fun r => ((A r).up r).bind (opE g)
def eCall (n : Nat) (m : List D → PR D) (A : Env → Res (List D)) : EE := fun r => (A r).bind (callE n m)
def pCall (n : Nat) (m : List D → PR D) (A : Env → PR (List D)) : EP := fun r => (A r).bind (callP n m)
def eCallM (n : Nat) (m : List D → MR) (i : Nat) (A : Env → Res (List D)) : EE := fun r => match r[i]? with
  | some (some _) => (A r).bind (callME n m i)
  | _ => .stk
def eApp (i : Nat) (E : EE) : EE := fun r => if isL r[i]? = true then (E r).bind (appE i) else .stk
def eRev (E : EE) : EE := fun r => (E r).bind revE
def iSq (E : EE) : Env → Res (List D) := fun r => (E r).bind itemsE
def iR1 (E : Env → Res (List D)) : Env → Res (List D) := fun r => (E r).bind rng1E
def iR2 (E : Env → Res (List D)) : Env → Res (List D) := fun r => (E r).bind rng2E
def tYes : BE := fun r => .ok true r
def eLc (G : D → Env → Option Env) (T : BE) (E : EE) (vs : List Nat) (I : Env → Res (List D)) : EE := fun r => (I r).bind fun ds r1 => (lcL G T E vs ds [] (wipeE r1 vs)).bind fun acc r2 => .ok (.lst true acc) (resE r1 r2 vs)
def sSeq (B C : Env → SR) : Env → SR := fun r => (B r).seq C
def sExpr (E : EE) : Env → SR := fun r => (E r).thn fun _ r1 => .nx r1
def sRet (E : EE) : Env → SR := fun r => (E r).thn fun d r1 => .rt d r1
def sRetN : Env → SR := fun r => .rt .non r
def sIf (T : BE) (B C : Env → SR) : Env → SR := fun r => (T r).thn fun k r1 => if k = true then B r1 else C r1
def sSet (i : Nat) (E : EE) : Env → SR := fun r => (E r).thn (setS i)
def sAsg (G : D → Env → Option Env) (E : EE) : Env → SR := fun r => (E r).thn (asgS G)
def sPar (i j : Nat) (E : Env → Res (List D)) : Env → SR := fun r => (E r).thn (parS i j)
def sAug (i : Nat) (g : D → D → Option D) (E : EE) : Env → SR := fun r => match r[i]? with
  | some (some d0) => if d0.sh = true then (E r).thn (augS i g d0) else .stk
  | _ => .stk
def sFor (I : Env → Res (List D)) (G : D → Env → Option Env) (B : Env → SR) : Env → SR := fun r => (I r).thn (forL G B)
def sWhile (n : Nat) (T : BE) (B : Env → SR) : Env → SR := whileL T B n
/-! ### the rules -/
section
variable {X : Cx} {W : WT} {fx : List Nat} {e a b c tg : Expr} {es : List Expr} {st : Stmt} {sts : List Stmt} {pos p p2 pos2 apos : Pos} {x : Str}
variable {A B C : EP} {E G : EE} {M : Env → Res (List D)} {PM : Env → PR (List D)}
theorem n_sh (h : DP X W e A) : DE X W e (eSh A) := de_of_dp h
theorem n_int {i j pos} : DP X W (.Constant (.int i) j pos) (pC (.int i)) := dp_int
theorem n_bl {b j pos} : DP X W (.Constant (.bool b) j pos) (pC (.bl b)) := dp_bl
theorem n_non {j pos} : DP X W (.Constant .none j pos) (pC .non) := dp_non
theorem n_str {z j pos} : DP X W (.Constant (.str z) j pos) (pC (.str z)) := dp_str
theorem n_pop {op : Operator} {q : R2} {g : D → D → Option D} (ho : OpR X (binaryOp op) q) (v : V2 X.K q g) (ha : DP X W a A) (hb : DP X W b B) : DP X W (.BinOp a op b pos) (pOp g A B) := dp_op ho v ha hb
theorem n_epop {op : Operator} {q : R2} {g : D → D → Option D} (ho : OpR X (binaryOp op) q) (v : V2 X.K q g) (ha : DP X W a A) (hb : DP X W b B) : DE X W (.BinOp a op b pos) (eUp (pOp g A B)) := dpe_op ho v ha hb
theorem n_eop {op : Operator} {q : R2} {g : D → D → Option D} (ho : OpR X (binaryOp op) q) (v : V2 X.K q g) (ha : DE X W a E) (hb : DE X W b G) : DE X W (.BinOp a op b pos) (eOp g E G) := de_op ho v ha hb
theorem n_pun {op : UnaryOp} {q : V → Hp → VK → Prop} {g : D → Option D} (ho : UnR X (unaryOp op) q) (v : V1 X.K q g) (ha : DP X W a A) : DP X W (.UnaryOp op a pos) (pUn g A) := dp_un ho v ha
theorem n_eun {op : UnaryOp} {q : V → Hp → VK → Prop} {g : D → Option D} (ho : UnR X (unaryOp op) q) (v : V1 X.K q g) (ha : DE X W a E) : DE X W (.UnaryOp op a pos) (eUn g E) := de_un ho v (dr_of_de ha)
theorem n_pcmp {op : CmpOp} {q : R2} {g : D → D → Option D} (ho : OpR X (compareOp op) q) (v : V2 X.K q g) (hm : behindInMarks op b = false) (ha : DP X W a A) (hb : DP X W b B) : DP X W (.Compare a [op] [b] pos) (pOp g A B) := dp_cmp ho v hm ha hb
theorem n_ecmp {op : CmpOp} {q : R2} {g : D → D → Option D} (ho : OpR X (compareOp op) q) (v : V2 X.K q g) (hm : behindInMarks op b = false) (ha : DE X W a E) (hb : DE X W b G) : DE X W (.Compare a [op] [b] pos) (eOp g E G) := de_cmp ho v hm ha hb
theorem n_tpcmp {op : CmpOp} {q : R2} {g : D → D → Option D} (ho : OpR X (compareOp op) q) (v : V2 X.K q g) (hm : behindInMarks op b = false) (ha : DP X W a A) (hb : DP X W b B) : DTp X W (.Compare a [op] [b] pos) (bP (pOp g A B)) := dtp_cmp ho v hm ha hb
theorem n_tcmp {op : CmpOp} {q : R2} {g : D → D → Option D} (ho : OpR X (compareOp op) q) (v : V2 X.K q g) (hm : behindInMarks op b = false) (ha : DE X W a E) (hb : DE X W b G) : DT X W (.Compare a [op] [b] pos) (bE (eOp g E G)) := dt_cmp ho v hm ha hb
theorem n_pch {op op' : CmpOp} {q q' : R2} {g g' : D → D → Option D} (ho : OpR X (compareOp op) q) (ho' : OpR X (compareOp op') q') (v : V2 X.K q g) (v' : V2 X.K q' g') (ha : DP X W a A) (hb : DP X W b B) (hc : DP X W c C)
    (hm : lastMarks [op, op'] [b, c] = false := by with_unfolding_all rfl) : DP X W (.Compare a [op, op'] [b, c] pos) (chP g g' A B C) := dp_chain ho ho' v v' ha hb hc hm
theorem n_tpch {op op' : CmpOp} {q q' : R2} {g g' : D → D → Option D} (ho : OpR X (compareOp op) q) (ho' : OpR X (compareOp op') q') (v : V2 X.K q g) (v' : V2 X.K q' g') (ha : DP X W a A) (hb : DP X W b B) (hc : DP X W c C)
    (hm : lastMarks [op, op'] [b, c] = false := by with_unfolding_all rfl) : DTp X W (.Compare a [op, op'] [b, c] pos) (bP (chP g g' A B C)) := dtp_chain ho ho' v v' ha hb hc hm
theorem n_tup_ {P : BP} (h : DTp X W e P) : DT X W e (tUp P) := dt_of_dtp h
theorem n_tval (h : DE X W e E) (he : ∀ whole, isTrue e X.env whole = (do let v ← whole; standAt e.pos; holding [v] (truthy v)) := by intro _; rfl) : DT X W e (bE E) := dt_val (dr_of_de h) he
theorem n_tpval (h : DP X W e A) (he : ∀ whole, isTrue e X.env whole = (do let v ← whole; standAt e.pos; holding [v] (truthy v)) := by intro _; rfl) : DTp X W e (bP A) := dtp_val h he
theorem n_tnot {T : BE} (h : DT X W a T) : DT X W (.UnaryOp .Not a pos) (tNot T) := dt_not h
theorem n_tpnot {T : BP} (h : DTp X W a T) : DTp X W (.UnaryOp .Not a pos) (tpNot T) := dtp_not h
theorem n_wand {rest : List Expr} {T U : BE} (h : DT X W a T) (h' : DW X W (.BoolOp .And (b :: rest) pos) U) : DW X W (.BoolOp .And (a :: b :: rest) pos) (tAnd T U) := dw_and h h'
theorem n_wor {rest : List Expr} {T U : BE} (h : DT X W a T) (h' : DW X W (.BoolOp .Or (b :: rest) pos) U) : DW X W (.BoolOp .Or (a :: b :: rest) pos) (tOr T U) := dw_or h h'
theorem n_wpand {rest : List Expr} {T U : BP} (h : DTp X W a T) (h' : DWp X W (.BoolOp .And (b :: rest) pos) U) : DWp X W (.BoolOp .And (a :: b :: rest) pos) (tpAnd T U) := dwp_and h h'
theorem n_wpor {rest : List Expr} {T U : BP} (h : DTp X W a T) (h' : DWp X W (.BoolOp .Or (b :: rest) pos) U) : DWp X W (.BoolOp .Or (a :: b :: rest) pos) (tpOr T U) := dwp_or h h'
theorem n_pand {rest : List Expr} (h : DP X W a A) (h' : DP X W (.BoolOp .And (b :: rest) pos) B) : DP X W (.BoolOp .And (a :: b :: rest) pos) (pAnd A B) := dp_and h h'
theorem n_por {rest : List Expr} (h : DP X W a A) (h' : DP X W (.BoolOp .Or (b :: rest) pos) B) : DP X W (.BoolOp .Or (a :: b :: rest) pos) (pOr A B) := dp_or h h'
theorem n_eand {rest : List Expr} (h : DE X W a E) (h' : DE X W (.BoolOp .And (b :: rest) pos) G) : DE X W (.BoolOp .And (a :: b :: rest) pos) (eAnd E G) := de_and h h'
theorem n_eor {rest : List Expr} (h : DE X W a E) (h' : DE X W (.BoolOp .Or (b :: rest) pos) G) : DE X W (.BoolOp .Or (a :: b :: rest) pos) (eOr E G) := de_or h h'
theorem n_pnot (h : DP X W a A) : DP X W (.UnaryOp .Not a pos) (pNot A) := dp_not h
theorem n_eif {T : BE} (h : DT X W c T) (ha : DE X W a E) (hb : DE X W b G) : DE X W (.IfExp c a b pos) (eIf T E G) := de_if h ha hb
theorem n_pif {T : BP} (h : DTp X W c T) (ha : DP X W a A) (hb : DP X W b B) : DP X W (.IfExp c a b pos) (pIf T A B) := dp_if h ha hb
theorem n_pix (ha : DP X W a A) (hb : DP X W b B) (hs : PlainIx b := by intro _ _; rfl) : DP X W (.Subscript a b pos) (pIx A B) := dp_ix ha hb hs
theorem n_eix (ha : DE X W a E) (hb : DE X W b G) (hs : PlainIx b := by intro _ _; rfl) : DE X W (.Subscript a b pos) (eIx E G) := de_ix ha hb hs
theorem n_anil : DA X W [] aNil := da_nil
theorem n_acons (ha : DE X W e E) (hb : DA X W es M) (hs : starEach (e :: es) X.env = (false, eval e X.env) :: starEach es X.env := by rfl) : DA X W (e :: es) (aCons E M) := da_cons ha hb hs
theorem n_panil : DPA X W [] paNil := dpa_nil
theorem n_pacons (ha : DP X W e A) (hb : DPA X W es PM) (hs : starEach (e :: es) X.env = (false, eval e X.env) :: starEach es X.env := by rfl) : DPA X W (e :: es) (paCons A PM) := dpa_cons ha hb hs
theorem n_etup {k : Nat} (h : DA X W es M) : DE X W (.Tuple es k pos) (eTup M) := de_tup h
theorem n_ptup {k : Nat} (h : DPA X W es PM) : DP X W (.Tuple es k pos) (pTup PM) := dp_tup h
theorem n_elst (h : DA X W es M) : DE X W (.List es pos) (eLst M) := de_lst h
theorem n_plst (h : DPA X W es PM) : DP X W (.List es pos) (pLst PM) := dp_lst h
variable {id T0 : String} {q : List V → Hp → VK → Prop} {g : List D → Option D}
theorem n_ecb (hc : CallR X (.builtin id) q) (v : VL X.K q g) (hm : X.mg x = none) (hv : bootBuiltins x = some (.builtin id)) (ha : DA X W (e :: es) M) (hg : Gl X x := by rfl) (hn : x ≠ "__name__" := by decide) (hdb : (x == ("__debug__" : Str)) = false := by decide)
    (hs : starEach (e :: es) X.env = (false, eval e X.env) :: starEach es X.env := by rfl) (hp : (backTo pos (starEach es X.env)).any (·.1) = false := by rfl) : DE X W (.Call (.Name x p) (e :: es) [] pos) (eCB g M) := de_callB hc v hg hm hv ha hn hdb hs hp
theorem n_pcb (hc : CallR X (.builtin id) q) (v : VL X.K q g) (hm : X.mg x = none) (hv : bootBuiltins x = some (.builtin id)) (ha : DPA X W (e :: es) PM) (hg : Gl X x := by rfl) (hn : x ≠ "__name__" := by decide) (hdb : (x == ("__debug__" : Str)) = false := by decide)
    (hs : starEach (e :: es) X.env = (false, eval e X.env) :: starEach es X.env := by rfl) (hp : (backTo pos (starEach es X.env)).any (·.1) = false := by rfl) : DP X W (.Call (.Name x p) (e :: es) [] pos) (pCB g PM) := dp_callB hc v hg hm hv ha hn hdb hs hp
theorem n_epcb (hc : CallR X (.builtin id) q) (v : VL X.K q g) (hm : X.mg x = none) (hv : bootBuiltins x = some (.builtin id)) (ha : DPA X W (e :: es) PM) (hg : Gl X x := by rfl) (hn : x ≠ "__name__" := by decide) (hdb : (x == ("__debug__" : Str)) = false := by decide)
    (hs : starEach (e :: es) X.env = (false, eval e X.env) :: starEach es X.env := by rfl) (hp : (backTo pos (starEach es X.env)).any (·.1) = false := by rfl) : DE X W (.Call (.Name x p) (e :: es) [] pos) (epCB g PM) := dpe_callB hc v hg hm hv ha hn hdb hs hp
theorem n_ect (hc : CallR X (.type T0) q) (v : VL X.K q g) (hm : X.mg x = none) (hv : bootBuiltins x = some (.type T0)) (ha : DA X W (e :: es) M) (hg : Gl X x := by rfl) (hn : x ≠ "__name__" := by decide) (hdb : (x == ("__debug__" : Str)) = false := by decide)
    (hs : starEach (e :: es) X.env = (false, eval e X.env) :: starEach es X.env := by rfl) (hp : (backTo pos (starEach es X.env)).any (·.1) = false := by rfl) : DE X W (.Call (.Name x p) (e :: es) [] pos) (eCB g M) := de_callT hc v hg hm hv ha hn hdb hs hp
theorem n_pct (hc : CallR X (.type T0) q) (v : VL X.K q g) (hm : X.mg x = none) (hv : bootBuiltins x = some (.type T0)) (ha : DPA X W (e :: es) PM) (hg : Gl X x := by rfl) (hn : x ≠ "__name__" := by decide) (hdb : (x == ("__debug__" : Str)) = false := by decide)
    (hs : starEach (e :: es) X.env = (false, eval e X.env) :: starEach es X.env := by rfl) (hp : (backTo pos (starEach es X.env)).any (·.1) = false := by rfl) : DP X W (.Call (.Name x p) (e :: es) [] pos) (pCB g PM) := dp_callT hc v hg hm hv ha hn hdb hs hp
theorem n_epct (hc : CallR X (.type T0) q) (v : VL X.K q g) (hm : X.mg x = none) (hv : bootBuiltins x = some (.type T0)) (ha : DPA X W (e :: es) PM) (hg : Gl X x := by rfl) (hn : x ≠ "__name__" := by decide) (hdb : (x == ("__debug__" : Str)) = false := by decide)
    (hs : starEach (e :: es) X.env = (false, eval e X.env) :: starEach es X.env := by rfl) (hp : (backTo pos (starEach es X.env)).any (·.1) = false := by rfl) : DE X W (.Call (.Name x p) (e :: es) [] pos) (epCB g PM) := dpe_callT hc v hg hm hv ha hn hdb hs hp
theorem n_isi (t : Ty) (hm : X.mg "isinstance" = none) (hmT : X.mg x = none) (hbT : bootBuiltins x = some (.type t.nm)) (ha : DP X W e A) (hg : Gl X "isinstance" := by rfl) (hgT : Gl X x := by rfl) (hn : x ≠ "__name__" := by decide) (hd : (x == ("__debug__" : Str)) = false := by decide)
    (hs : starEach [e, .Name x p2] X.env = (false, eval e X.env) :: starEach [.Name x p2] X.env := by rfl) (hs2 : starEach [.Name x p2] X.env = (false, eval (.Name x p2) X.env) :: starEach [] X.env := by rfl)
    (hp : (backTo pos (starEach [.Name x p2] X.env)).any (·.1) = false := by rfl) : DP X W (.Call (.Name "isinstance" p) [e, .Name x p2] [] pos) (pUn (dIsi t) A) := dp_isi t hg hm hgT hmT hbT ha hn hd hs hs2 hp
variable {k : Nat} {f : Addr} {fd : FuncData} {ps : List Str}
theorem n_ecall {m : List D → PR D} (tk : L2N.Takes X W) (Gf : FnD X.prog X.w X.K X.mg X.base W.tb k f fd ps m) (hr : Room k X.A) (hm : X.mg x = some (.ref f)) (hk : PySem.W.keepIn X.K (.ref f) = true) (hb : Binds X.K fd ps []) (ha : DA X W (e :: es) M) (hg : Gl X x := by rfl)
    (hdb : (x == ("__debug__" : Str)) = false := by decide) (he : starEach (e :: es) X.env = (false, eval e X.env) :: starEach es X.env := by rfl) (hpl : (backTo pos (starEach es X.env)).any (·.1) = false := by rfl) : DE X W (.Call (.Name x p) (e :: es) [] pos) (eCall ps.length m M) := de_call tk Gf hr hg hm hk hb ha hdb he hpl
theorem n_pcall {m : List D → PR D} (tk : L2N.Takes X W) (Gf : FnD X.prog X.w X.K X.mg X.base W.tb k f fd ps m) (hr : Room k X.A) (hm : X.mg x = some (.ref f)) (hk : PySem.W.keepIn X.K (.ref f) = true) (hb : Binds X.K fd ps []) (ha : DPA X W (e :: es) PM) (hg : Gl X x := by rfl)
    (hdb : (x == ("__debug__" : Str)) = false := by decide) (he : starEach (e :: es) X.env = (false, eval e X.env) :: starEach es X.env := by rfl) (hpl : (backTo pos (starEach es X.env)).any (·.1) = false := by rfl) : DP X W (.Call (.Name x p) (e :: es) [] pos) (pCall ps.length m PM) := dp_call tk Gf hr hg hm hk hb ha hdb he hpl
theorem n_epcall {m : List D → PR D} (tk : L2N.Takes X W) (Gf : FnD X.prog X.w X.K X.mg X.base W.tb k f fd ps m) (hr : Room k X.A) (hm : X.mg x = some (.ref f)) (hk : PySem.W.keepIn X.K (.ref f) = true) (hb : Binds X.K fd ps []) (ha : DPA X W (e :: es) PM) (hg : Gl X x := by rfl)
    (hdb : (x == ("__debug__" : Str)) = false := by decide) (he : starEach (e :: es) X.env = (false, eval e X.env) :: starEach es X.env := by rfl) (hpl : (backTo pos (starEach es X.env)).any (·.1) = false := by rfl) : DE X W (.Call (.Name x p) (e :: es) [] pos) (eUp (pCall ps.length m PM)) := dpe_call tk Gf hr hg hm hk hb ha hdb he hpl
theorem n_callM (i : Nat) {y : Str} {m : List D → MR} (tk : L2N.Takes X W) (Gf : FnM X.prog X.w X.K X.mg X.base W.tb k f fd ps m) (hr : Room k X.A) (hm : X.mg x = some (.ref f)) (hk : PySem.W.keepIn X.K (.ref f) = true) (hb : Binds X.K fd ps []) (ha : DA X W es M) (hg : Gl X x := by rfl)
    (hN : X.N[i]? = some y := by rfl) (hv : Vis X.env.scope y := by first | exact Or.inl rfl | exact Or.inr (Or.inl rfl) | exact Or.inr (Or.inr rfl)) (hdy : (y == ("__debug__" : Str)) = false := by decide) (hcd : (y == ("__classdict__" : Str)) = false := by decide)
    (hdb : (x == ("__debug__" : Str)) = false := by decide) (he : starEach (.Name y p2 :: es) X.env = (false, eval (.Name y p2) X.env) :: starEach es X.env := by rfl) (hpl : (backTo pos (starEach es X.env)).any (·.1) = false := by rfl) : DE X W (.Call (.Name x p) (.Name y p2 :: es) [] pos) (eCallM ps.length m i M) :=
  de_callM i tk Gf hr hg hm hk hb ha hN hv hdy hcd hdb he hpl
theorem n_app (i : Nat) (he : DE X W e E) (hN : X.N[i]? = some x := by rfl) (hv : Vis X.env.scope x := by first | exact Or.inl rfl | exact Or.inr (Or.inl rfl) | exact Or.inr (Or.inr rfl)) (hd : (x == ("__debug__" : Str)) = false := by decide) (hcd : (x == ("__classdict__" : Str)) = false := by decide)
    (hbase : attributeBase (.Name x p) "append" X.env (eval (.Name x p) X.env) = eval (.Name x p) X.env := by rfl)
    (hfew : ((backTo pos (starEach [e] X.env)).all (fun x => !x.1) && (backToKw pos (keywordEach [] X.env)).all (fun x => x.1.isSome) && decide ([e].length + ([] : List Keyword).length + (if ([] : List Keyword).isEmpty then 0 else 1) < 30)) = true := by rfl)
    (hline : (apos.endLine == pos.line) = true := by rfl) (hs : starEach [e] X.env = (false, eval e X.env) :: starEach [] X.env := by rfl) (hplain : (backTo pos (starEach [] X.env)).any (·.1) = false := by rfl) : DE X W (.Call (.Attribute (.Name x p) "append" apos) [e] [] pos) (eApp i E) := de_append i he hN hv hd hcd hbase hfew hline hs hplain
theorem n_rev (hc : X.calm = true) (hm : X.mg "list" = none) (hm2 : X.mg "reversed" = none) (he : DR X W e E) (hg : Gl X "list" := by rfl) (hg2 : Gl X "reversed" := by rfl) (hs : starEach [e] X.env = (false, eval e X.env) :: starEach [] X.env := by rfl)
    (hs2 : starEach [.Call (.Name "reversed" p2) [e] [] pos2] X.env = (false, eval (.Call (.Name "reversed" p2) [e] [] pos2) X.env) :: starEach [] X.env := by rfl) : DE X W (.Call (.Name "list" p) [.Call (.Name "reversed" p2) [e] [] pos2] [] pos) (eRev E) := de_lstRev hc hg hm hg2 hm2 he hs hs2
theorem n_isq (h : DE X W e E) : DI X W tg e (iSq E) := di_seq h
theorem n_ir1 (hm : X.mg "range" = none) (h : DA X W [a] M) (hg : Gl X "range" := by rfl) (hs : starEach [a] X.env = [(false, eval a X.env)] := by rfl) : DI X W tg (.Call (.Name "range" p) [a] [] pos) (iR1 M) := di_rng1 hg hm h hs
theorem n_ir2 (hm : X.mg "range" = none) (h : DA X W [a, b] M) (hg : Gl X "range" := by rfl) (hs : starEach [a, b] X.env = [(false, eval a X.env), (false, eval b X.env)] := by rfl) (hs2 : starEach [b] X.env = [(false, eval b X.env)] := by rfl) : DI X W tg (.Call (.Name "range" p) [a, b] [] pos) (iR2 M) := di_rng2 hg hm h hs hs2
theorem n_tyes : DTs X W [] tYes := dts_nil
theorem n_lc {elt iter : Expr} {ifs : List Expr} {scope : Scope} (own : List (Str × Nat)) {ws : List Nat} {I : Env → Res (List D)} {Gt : D → Env → Option Env} {Tt : BE} {Et : EE} (hc : X.calm = true) (hN : X.N.Nodup) (hi : DI X W tg iter I)
    (ok : BlkOk X.N X.env.scope scope own) (hg : ∀ (s : Shared) (H : Hp) (C : Addr) (cl : List (Str × Addr)) (fp : List Addr), DG (X.blk s H scope (compEnvC scope cl C X.env) fp) ws tg Gt)
    (ht : ∀ (s : Shared) (H : Hp) (C : Addr) (cl : List (Str × Addr)) (fp : List Addr), DTs (X.blk s H scope (compEnvC scope cl C X.env) fp) (W0 W.tb) ifs Tt)
    (he : ∀ (s : Shared) (H : Hp) (C : Addr) (cl : List (Str × Addr)) (fp : List Addr), DE (X.blk s H scope (compEnvC scope cl C X.env) fp) (W0 W.tb) elt Et) (hws : ∀ j ∈ ws, j ∈ own.map (·.2) := by decide) (hs : ∀ x, foldedSetIterable iter X.env x = pure x := by intro _; rfl) :
    DE X W (.ListComp elt [⟨tg, iter, ifs, 0⟩] scope pos) (eLc Gt Tt Et (own.map (·.2)) I) := de_lc hc hN hi ok hws hg ht he hs
theorem n_nil : DSs X W fx [] .nx := dss_nil
theorem n_cons {S1 S2 : Env → SR} (h1 : DS X W fx st S1) (h2 : DSs X W fx sts S2) : DSs X W fx (st :: sts) (sSeq S1 S2) := dss_cons h1 h2
theorem n_one {S1 : Env → SR} (h1 : DS X W fx st S1) : DSs X W fx [st] S1 := dss_one h1
theorem n_expr (he : DE X W e E) (hs : swapsWith e none pos.line X.env = pure false := by rfl) : DS X W fx (.Expr e pos) (sExpr E) := ds_expr he hs
theorem n_ret (he : DE X W e E) : DS X W fx (.Return (some e) pos) (sRet E) := ds_ret he
theorem n_retN : DS X W fx (.Return none pos) sRetN := ds_retN
theorem n_if {T : BE} {S1 S2 : Env → SR} {sa sb : List Stmt} (hc : DT X W c T) (ha : DSs X W fx sa S1) (hb : DSs X W fx sb S2) : DS X W fx (.If c sa sb pos) (sIf T S1 S2) := ds_if hc ha hb
theorem n_set (i : Nat) (hN : X.N.Nodup) (he : DE X W e E) (hi : X.N[i]? = some x := by rfl) (hx : Loc X.env.scope x := by first | exact Or.inl rfl | exact Or.inr rfl) (hfx : i ∉ fx := by decide) (hs : swapsWith e (some (.Name x p)) pos.line X.env = pure false := by rfl)
    (hf : X.fn x = true ∨ X.env.scope.names.lookup x = some .local := by first | exact .inl rfl | exact .inr rfl | assumption) : DS X W fx (.Assign [.Name x p] e pos) (sSet i E) := ds_set i hN hi hx he hfx hs hf
theorem n_setLc (i : Nat) {elt iter : Expr} {ifs : List Expr} {scope : Scope} (own : List (Str × Nat)) {ws : List Nat} {I : Env → Res (List D)} {Gt : D → Env → Option Env} {Tt : BE} {Et : EE} (hc : X.calm = true) (hN : X.N.Nodup)
    (hsw : swapsWith (.ListComp elt [⟨tg, iter, ifs, 0⟩] scope p2) (some (.Name x p)) pos.line X.env = pure true) (hit : DI X W tg iter I) (ok : BlkOk X.N X.env.scope scope own)
    (hg : ∀ (s : Shared) (H : Hp) (C : Addr) (cl : List (Str × Addr)) (fp : List Addr), DG (X.blk s H scope (compEnvC scope cl C X.env) fp) ws tg Gt)
    (ht : ∀ (s : Shared) (H : Hp) (C : Addr) (cl : List (Str × Addr)) (fp : List Addr), DTs (X.blk s H scope (compEnvC scope cl C X.env) fp) (W0 W.tb) ifs Tt)
    (he : ∀ (s : Shared) (H : Hp) (C : Addr) (cl : List (Str × Addr)) (fp : List Addr), DE (X.blk s H scope (compEnvC scope cl C X.env) fp) (W0 W.tb) elt Et) (hi : X.N[i]? = some x := by rfl) (hx : X.env.scope.names.lookup x = some .local := by rfl)
    (hws : ∀ j ∈ ws, j ∈ own.map (·.2) := by decide) (hfx : i ∉ fx := by decide) (hs : ∀ x, foldedSetIterable iter X.env x = pure x := by intro _; rfl) :
    DS X W fx (.Assign [.Name x p] (.ListComp elt [⟨tg, iter, ifs, 0⟩] scope p2) pos) (sSet i (eLc Gt Tt Et (own.map (·.2)) I)) := ds_setLc i hc hN hi hx hsw hit ok hws hg ht he hfx hs
theorem n_asg {ws : List Nat} {Gt : D → Env → Option Env} (he : DE X W e E) (hg : DG X ws tg Gt) (hw : ∀ i ∈ ws, i ∉ fx := by decide) (hs : swapsWithSole [tg] e pos.line X.env = pure false := by rfl) (hs2 : swappedStores [tg] e X.env = pure none := by rfl)
    (h1 : (assignEach [tg] X.env).map (·.2) = [assign tg X.env] := by rfl) : DS X W fx (.Assign [tg] e pos) (sAsg Gt E) := ds_asg he hg hw hs hs2 h1
theorem n_par (i j : Nat) {y : Str} {px py pt pt2 : Pos} {kt k2 : Nat} (hc : X.calm = true) (hN : X.N.Nodup) (ha : DA X W [a, b] M) (hi : X.N[i]? = some x := by rfl) (hj : X.N[j]? = some y := by rfl) (hx : X.env.scope.names.lookup x = some .local := by rfl) (hy : X.env.scope.names.lookup y = some .local := by rfl)
    (hij : i ≠ j := by decide) (hfi : i ∉ fx := by decide) (hfj : j ∉ fx := by decide) (hw : swappedStores [.Tuple [.Name x px, .Name y py] kt pt] (.Tuple [a, b] k2 pt2) X.env = pure (some [x, y]) := by rfl)
    (hs : swapsWithSole [.Tuple [.Name x px, .Name y py] kt pt] (.Tuple [a, b] k2 pt2) pos.line X.env = pure false := by rfl) : DS X W fx (.Assign [.Tuple [.Name x px, .Name y py] kt pt] (.Tuple [a, b] k2 pt2) pos) (sPar i j M) := ds_par i j hc hN hi hj hx hy ha hij hfi hfj hw hs
theorem n_aug (i : Nat) {op : Operator} {q : R2} {g : D → D → Option D} (ho : OpR X (inplaceOp op) q) (v : V2 X.K q g) (hN : X.N.Nodup) (he : DE X W e E) (hi : X.N[i]? = some x := by rfl) (hx : Loc X.env.scope x := by first | exact Or.inl rfl | exact Or.inr rfl) (hfx : i ∉ fx := by decide)
    (hf : X.fn x = true ∨ X.env.scope.names.lookup x = some .local := by first | exact .inl rfl | exact .inr rfl | assumption) : DS X W fx (.AugAssign (.Name x p) op e pos) (sAug i g E) := ds_aug i ho v hN hi hx he hfx hf
theorem n_for {iter : Expr} {ws : List Nat} {I : Env → Res (List D)} {Gt : D → Env → Option Env} {S1 : Env → SR} (hp : PassesOwn (model X.prog X.w) X.A X.env X.xe) (hc : X.calm = true) (hi : DI X W tg iter I) (hg : DG X ws tg Gt) (hb : DSs X W fx sts S1) (hw : ∀ i ∈ ws, i ∉ fx := by decide)
    (hs : ∀ x, foldedSetIterable iter X.env x = pure x := by intro _; rfl) : DS X W fx (.For tg iter sts [] pos) (sFor I Gt S1) := ds_for hp hc hi hg hb hw hs
theorem n_while (n : Nat) {T : BE} {S1 : Env → SR} (hp : PassesOwn (model X.prog X.w) X.A X.env X.xe) (hc : DT X W c T) (hb : DSs X W fx sts S1) : DS X W fx (.While c sts [] pos) (sWhile n T S1) := ds_while n hp hc hb
theorem n_gname (i : Nat) (hN : X.N.Nodup) (hi : X.N[i]? = some x := by rfl) (hx : Loc X.env.scope x := by first | exact Or.inl rfl | exact Or.inr rfl) (hf : X.fn x = true ∨ X.env.scope.names.lookup x = some .local := by first | exact .inl rfl | exact .inr rfl | assumption) : DG X [i] (.Name x pos) (setG i) := dg_name i hN hi hx hf
end
end DL

/-! DMore: builtins by name, the stuck def, three at once. -/
namespace DL
open PySem PySem.Spec PyProof.Rows L2
theorem bt_len : bootBuiltins "len" = some (.builtin "len") := by decide +kernel
theorem bt_abs : bootBuiltins "abs" = some (.builtin "abs") := by decide +kernel
theorem bt_min : bootBuiltins "min" = some (.builtin "min") := by decide +kernel
theorem bt_max : bootBuiltins "max" = some (.builtin "max") := by decide +kernel
theorem bt_int : bootBuiltins "int" = some (.type "int") := by decide +kernel
theorem bt_bool : bootBuiltins "bool" = some (.type "bool") := by decide +kernel
theorem bt_str : bootBuiltins "str" = some (.type "str") := by decide +kernel
theorem bt_tuple : bootBuiltins "tuple" = some (.type "tuple") := by decide +kernel
theorem bt_list : bootBuiltins "list" = some (.type "list") := by decide +kernel
theorem bt_dict : bootBuiltins "dict" = some (.type "dict") := by decide +kernel
/-- += on ints -/
def dAddI : D → D → Option D := fun a b => match a, b with | .int i, .int j => some (.int (i + j)) | _, _ => none
theorem v2_addI {K : PySem.W.Frag} : V2 K (rI0 fun i j => .int (i + j)) dAddI := v2_int0
section
variable {tb : List Addr} {P : Program} {w : World} {K : PySem.W.Frag} {mg : Str → Option Value} {base : Heap} {f : Addr} {fd : FuncData} {ps : List Str} {k : Nat}
theorem fnD_stk {m : List D → PR D} (h : ∀ ds, m ds = .stk) : FnD P w K mg base tb k f fd ps m := by
  refine ⟨fun vs H Q E hs => ?_, fun A outer s H args us vs Q E hr I rl hb hs => ?_⟩ <;>
  · obtain ⟨_, S, ds, T, _, _, _, z⟩ := hs
    rw [h ds] at z
    exact z.elim
theorem fnM_stk {m : List D → MR} (h : ∀ ds, m ds = .stk) : FnM P w K mg base tb k f fd ps m := by
  refine ⟨fun vs H Q E hs => ?_, fun A outer s H args us vs Q E hr I rl hb hs => ?_⟩ <;>
  · obtain ⟨_, _, S, ds, T, _, _, _, z⟩ := hs
    rw [h ds] at z
    exact z.elim
end
end DL

/-! DSim: the data functions worked out by simp. -/
namespace DL
open PySem PySem.Spec PyProof.Rows L2
section
variable {α β : Type} {a : α} {r : DL.Env} {c : Str} {d x y : D} {i j : Int} {b : Bool} {ds : List D}
@[simp] theorem Res.bind_ok {f : α → Env → Res β} : (Res.ok a r).bind f = f a r := (rfl)
@[simp] theorem Res.bind_exc {f : α → Env → Res β} : (Res.exc c r).bind f = .exc c r := (rfl)
@[simp] theorem Res.bind_stk {f : α → Env → Res β} : (Res.stk).bind f = .stk := (rfl)
@[simp] theorem PR.bind_ok {f : α → PR β} : (PR.ok a).bind f = f a := (rfl)
@[simp] theorem PR.bind_exc {f : α → PR β} : (PR.exc c).bind f = .exc c := (rfl)
@[simp] theorem PR.bind_stk {f : α → PR β} : (PR.stk).bind f = .stk := (rfl)
@[simp] theorem PR.up_ok : (PR.ok a).up r = .ok a r := (rfl)
@[simp] theorem PR.up_exc : (PR.exc c : PR α).up r = .exc c r := (rfl)
@[simp] theorem Res.thn_ok {f : α → Env → SR} : (Res.ok a r).thn f = f a r := (rfl)
@[simp] theorem Res.thn_exc {f : α → Env → SR} : (Res.exc c r).thn f = .exc c r := (rfl)
@[simp] theorem Res.bindS_ok {f : α → Env → Res β} : (Res.ok a r).bindS f = f a r := (rfl)
@[simp] theorem SR.seq_nx {f : Env → SR} : (SR.nx r).seq f = f r := (rfl)
@[simp] theorem SR.seq_rt {f : Env → SR} : (SR.rt d r).seq f = .rt d r := (rfl)
@[simp] theorem SR.seq_exc {f : Env → SR} : (SR.exc c r).seq f = .exc c r := (rfl)
@[simp] theorem SR.seq_bk {f : Env → SR} : (SR.bk r).seq f = .bk r := (rfl)
@[simp] theorem SR.seq_ct {f : Env → SR} : (SR.ct r).seq f = .ct r := (rfl)
@[simp] theorem SR.loop_nx {f : Env → SR} : (SR.nx r).loop f = f r := (rfl)
@[simp] theorem SR.loop_ct {f : Env → SR} : (SR.ct r).loop f = f r := (rfl)
@[simp] theorem SR.loop_bk {f : Env → SR} : (SR.bk r).loop f = .nx r := (rfl)
@[simp] theorem SR.loop_rt {f : Env → SR} : (SR.rt d r).loop f = .rt d r := (rfl)
@[simp] theorem SR.loop_exc {f : Env → SR} : (SR.exc c r).loop f = .exc c r := (rfl)
@[simp] theorem PR.ite_ok {p : Prop} [Decidable p] {u v : α} : (if p then PR.ok u else PR.ok v) = PR.ok (if p then u else v) := by split <;> rfl
@[simp] theorem Res.ite_ok {p : Prop} [Decidable p] {u v : α} : (if p then Res.ok u r else Res.ok v r) = Res.ok (if p then u else v) r := by split <;> rfl
theorem SR.ite_seq {p : Prop} [Decidable p] {A B : SR} {f : Env → SR} : (if p then A else B).seq f = if p then A.seq f else B.seq f := by split <;> rfl
@[simp] theorem outP_nx : outP (.nx r) = .ok .non := (rfl)
@[simp] theorem outP_rt : outP (.rt d r) = .ok d := (rfl)
@[simp] theorem outP_exc : outP (.exc c r) = .exc c := (rfl)
@[simp] theorem slot0_cons : slot0 (some d :: r) = some d := (rfl)
@[simp] theorem outM_nx : outM (.nx (some x :: r)) = .ok .non x := (rfl)
@[simp] theorem outM_rt : outM (.rt d (some x :: r)) = .ok d x := (rfl)
@[simp] theorem outM_exc : outM (.exc c (some x :: r)) = .exc c x := (rfl)
@[simp] theorem getP_zero : getP 0 (some d :: r) = .ok d := (rfl)
@[simp] theorem getP_succ {o : Option D} {n : Nat} : getP (n + 1) (o :: r) = getP n r := (rfl)
@[simp] theorem takeE_some {n : Nat} (h : r[n]? = some (some d)) : takeE n r = .ok d (r.set n none) := by unfold takeE; rw [h]
@[simp] theorem shO_sh (h : d.sh = true) : shO d r = .ok d r := if_pos h
@[simp] theorem opE_some_ {g : α → Option β} {z : β} (h : g a = some z) : opE g a r = .ok z r := by unfold opE; rw [h]
@[simp] theorem opP_some_ {g : α → Option β} {z : β} (h : g a = some z) : opP g a = .ok z := by unfold opP; rw [h]
@[simp] theorem asB_bl : asB (.bl b) r = .ok b r := (rfl)
@[simp] theorem asBp_bl : asBp (.bl b) = .ok b := (rfl)
@[simp] theorem sh_non : D.sh .non = true := by simp [D.sh]
@[simp] theorem sh_bl : D.sh (.bl b) = true := by simp [D.sh]
@[simp] theorem sh_int : D.sh (.int i) = true := by simp [D.sh]
@[simp] theorem sh_str {z : Str} : D.sh (.str z) = true := by simp [D.sh]
@[simp] theorem sh_scr {ns : List Int} : D.sh (.scr ns) = true := by simp [D.sh]
@[simp] theorem sh_tup : D.sh (.tup ds) = D.shL ds := by simp [D.sh]
@[simp] theorem sh_lstF : D.sh (.lst false ds) = D.shL ds := by simp [D.sh]
@[simp] theorem shL_nil : D.shL [] = true := by simp [D.shL]
@[simp] theorem shL_cons : D.shL (d :: ds) = (d.sh && D.shL ds) := by simp [D.shL]
theorem shL_iff : D.shL ds = true ↔ ∀ d ∈ ds, d.sh = true := by induction ds with
  | nil => simp
  | cons a t ih => simp [ih]
@[simp] theorem shL_append {es : List D} : D.shL (ds ++ es) = (D.shL ds && D.shL es) := by induction ds with
  | nil => simp
  | cons a t ih => simp [ih, Bool.and_assoc]
@[simp] theorem shL_reverse : D.shL ds.reverse = D.shL ds := by
  rw [Bool.eq_iff_iff, shL_iff, shL_iff]; simp
@[simp] theorem shL_ints {L : List Int} : D.shL (L.map .int) = true := shL_iff.mpr (by simp)
theorem shL_map {L : List α} {f : α → D} (h : ∀ a ∈ L, (f a).sh = true) : D.shL (L.map f) = true := shL_iff.mpr (by simpa using h)
@[simp] theorem dAdd_int : dAdd (.int i) (.int j) = some (.int (i + j)) := (rfl)
@[simp] theorem dAddI_int : dAddI (.int i) (.int j) = some (.int (i + j)) := (rfl)
@[simp] theorem dSub_int : dSub (.int i) (.int j) = some (.int (i - j)) := (rfl)
@[simp] theorem dMul_int (h : CMul i j) : dMul (.int i) (.int j) = some (.int (i * j)) := if_pos h
@[simp] theorem dFdiv_int (h : CDiv i j) : dFdiv (.int i) (.int j) = some (.int (i / j)) := if_pos h
@[simp] theorem dMod_int (h : 0 < j) : dMod (.int i) (.int j) = some (.int (i % j)) := if_pos h
@[simp] theorem dPow_int (h : CPow i j) : dPow (.int i) (.int j) = some (.int (i ^ j.toNat)) := if_pos h
@[simp] theorem dShl_int (h : CPow i j) : dShl (.int i) (.int j) = some (.int (i * 2 ^ j.toNat)) := if_pos h
@[simp] theorem dShr_int (h : 0 ≤ j) : dShr (.int i) (.int j) = some (.int (i / 2 ^ j.toNat)) := if_pos h
@[simp] theorem CMul_iff : CMul i j ↔ (-(2 ^ 64) < i ∧ i < 2 ^ 64) ∨ (-(2 ^ 64) < j ∧ j < 2 ^ 64) := Iff.rfl
@[simp] theorem CDiv_iff : CDiv i j ↔ 0 < j ∧ j < 1073741824 := Iff.rfl
@[simp] theorem CPow_iff : CPow i j ↔ 0 ≤ j ∧ j ≤ 1000000 ∧ i.natAbs < 2 ^ 64 := Iff.rfl
@[simp] theorem dLt_int : dLt (.int i) (.int j) = some (.bl (decide (i < j))) := (rfl)
@[simp] theorem dLe_int : dLe (.int i) (.int j) = some (.bl (decide (i ≤ j))) := (rfl)
@[simp] theorem dGt_int : dGt (.int i) (.int j) = some (.bl (decide (j < i))) := (rfl)
@[simp] theorem dGe_int : dGe (.int i) (.int j) = some (.bl (decide (j ≤ i))) := (rfl)
@[simp] theorem dNeg_int : dNeg (.int i) = some (.int (-i)) := (rfl)
@[simp] theorem dep_non : D.dep .non = 0 := by simp [D.dep]
@[simp] theorem dep_bl : D.dep (.bl b) = 0 := by simp [D.dep]
@[simp] theorem dep_int : D.dep (.int i) = 0 := by simp [D.dep]
@[simp] theorem dep_tup : D.dep (.tup ds) = D.depL ds + 1 := by simp [D.dep]
@[simp] theorem dep_lst {o : Bool} : D.dep (.lst o ds) = D.depL ds + 1 := by simp [D.dep]
@[simp] theorem depL_nil : D.depL [] = 0 := by simp [D.depL]
@[simp] theorem depL_cons : D.depL (d :: ds) = max d.dep (D.depL ds) := by simp [D.depL]
theorem depL_le {n : Nat} (h : ∀ d ∈ ds, d.dep ≤ n) : D.depL ds ≤ n := by induction ds with
  | nil => simp
  | cons a t ih =>
    rw [depL_cons]
    have := h a (by simp)
    have := ih fun d hd => h d (by simp [hd])
    omega
@[simp] theorem depL_ints {L : List Int} : D.depL (L.map .int) = 0 := Nat.le_zero.mp (depL_le (by simp))
@[simp] theorem eqv_int : D.eqv (.int i) (.int j) = (i == j) := by simp [D.eqv]
@[simp] theorem eqv_bl {b' : Bool} : D.eqv (.bl b) (.bl b') = (b == b') := by simp [D.eqv]
@[simp] theorem eqv_str {z z' : Str} : D.eqv (.str z) (.str z') = (z == z') := by simp [D.eqv]
@[simp] theorem eqv_non : D.eqv .non .non = true := by simp [D.eqv]
@[simp] theorem eqv_tup {es : List D} : D.eqv (.tup ds) (.tup es) = D.eqvL ds es := by simp [D.eqv]
@[simp] theorem eqv_lst {o o' : Bool} {es : List D} : D.eqv (.lst o ds) (.lst o' es) = D.eqvL ds es := by simp [D.eqv]
@[simp] theorem eqvL_nil : D.eqvL [] [] = true := by simp [D.eqvL]
@[simp] theorem eqvL_cons {es : List D} : D.eqvL (x :: ds) (y :: es) = (D.eqv x y && D.eqvL ds es) := by simp [D.eqvL]
@[simp] theorem eqvL_nc {es : List D} : D.eqvL [] (y :: es) = false := by simp [D.eqvL]
@[simp] theorem eqvL_cn : D.eqvL (x :: ds) [] = false := by simp [D.eqvL]
@[simp] theorem dEq_int : dEq (.int i) (.int j) = some (.bl (i == j)) := by simp [dEq, D.pl]
@[simp] theorem dNe_int : dNe (.int i) (.int j) = some (.bl (i != j)) := by simp [dNe, D.pl, bne]
@[simp] theorem dEq_bl {b' : Bool} : dEq (.bl b) (.bl b') = some (.bl (b == b')) := by simp [dEq, D.pl]
@[simp] theorem dNe_bl {b' : Bool} : dNe (.bl b) (.bl b') = some (.bl (b != b')) := by simp [dNe, D.pl, bne]
theorem dEq_dep (h : x.dep ≤ 64) (h' : y.dep ≤ 64) : dEq x y = some (.bl (D.eqv x y)) := if_pos (.inr ⟨h, h'⟩)
theorem dNe_dep (h : x.dep ≤ 64) (h' : y.dep ≤ 64) : dNe x y = some (.bl (!D.eqv x y)) := if_pos (.inr ⟨h, h'⟩)
@[simp] theorem dNe_nil {o o' : Bool} (h : D.depL ds ≤ 63) : dNe (.lst o ds) (.lst o' []) = some (.bl (!ds.isEmpty)) := by
  rw [dNe_dep (by simpa using h) (by simp)]
  cases ds <;> simp
@[simp] theorem dEq_nil {o o' : Bool} (h : D.depL ds ≤ 63) : dEq (.lst o ds) (.lst o' []) = some (.bl ds.isEmpty) := by
  rw [dEq_dep (by simpa using h) (by simp)]
  cases ds <;> simp
@[simp] theorem dIsN_non : dIsN .non .non = some (.bl true) := (rfl)
@[simp] theorem dIsN_int : dIsN (.int i) .non = some (.bl false) := (rfl)
@[simp] theorem dIsN_bl : dIsN (.bl b) .non = some (.bl false) := (rfl)
@[simp] theorem dIsN_tup : dIsN (.tup ds) .non = some (.bl false) := (rfl)
@[simp] theorem dIsN_lst {o : Bool} : dIsN (.lst o ds) .non = some (.bl false) := (rfl)
@[simp] theorem dIsN_str {z : Str} : dIsN (.str z) .non = some (.bl false) := (rfl)
@[simp] theorem dIsNot_non : dIsNot .non .non = some (.bl false) := (rfl)
@[simp] theorem dIsNot_int : dIsNot (.int i) .non = some (.bl true) := (rfl)
@[simp] theorem dIsNot_tup : dIsNot (.tup ds) .non = some (.bl true) := (rfl)
@[simp] theorem dIsNot_lst {o : Bool} : dIsNot (.lst o ds) .non = some (.bl true) := (rfl)
theorem atI_nat {β : Type} {l : List β} {i : Int} {z : β} (h0 : 0 ≤ i) (h : l[i.toNat]? = some z) : atI l i = some z := by
  unfold atI ixN
  have hl : i.toNat < l.length := (List.getElem?_eq_some_iff.mp h).1
  have : i < l.length := by omega
  rw [if_pos h0, if_pos this]
  exact h
@[simp] theorem atI_zero {β : Type} {l : List β} {z : β} : atI (z :: l) 0 = some z := atI_nat (by decide) rfl
@[simp] theorem atI_one {β : Type} {l : List β} {w z : β} : atI (w :: z :: l) 1 = some z := atI_nat (by decide) rfl
@[simp] theorem atI_two {β : Type} {l : List β} {u w z : β} : atI (u :: w :: z :: l) 2 = some z := atI_nat (by decide) rfl
@[simp] theorem atI_three {β : Type} {l : List β} {t u w z : β} : atI (t :: u :: w :: z :: l) 3 = some z := atI_nat (by decide) rfl
@[simp] theorem dIx_tup : dIx (.tup ds) (.int i) = atI ds i := (rfl)
@[simp] theorem dIx_lst {o : Bool} : dIx (.lst o ds) (.int i) = atI ds i := (rfl)
@[simp] theorem dIx_scr {ns : List Int} : dIx (.scr ns) (.int i) = (atI ns i).map .int := (rfl)
@[simp] theorem dLen_lst {o : Bool} : dLen [.lst o ds] = some (.int ds.length) := (rfl)
@[simp] theorem dLen_tup : dLen [.tup ds] = some (.int ds.length) := (rfl)
@[simp] theorem dLen_scr {ns : List Int} : dLen [.scr ns] = some (.int ns.length) := (rfl)
theorem abs_if : (if i < 0 then -i else i) = (i.natAbs : Int) := by split <;> omega
@[simp] theorem dAbs_int : dAbs [.int i] = some (.int i.natAbs) := by rw [← abs_if]; rfl
@[simp] theorem dInt_int : dInt [.int i] = some (.int i) := (rfl)
@[simp] theorem dInt_bl : dInt [.bl b] = some (.int (if b then 1 else 0)) := (rfl)
@[simp] theorem dMax2_int : dMax2 [.int i, .int j] = some (.int (max i j)) := by
  rw [show max i j = if j > i then j else i from by split <;> omega]; rfl
@[simp] theorem dMin2_int : dMin2 [.int i, .int j] = some (.int (min i j)) := by
  rw [show min i j = if j < i then j else i from by split <;> omega]; rfl
@[simp] theorem dTuple_lst {o : Bool} (h : D.shL ds = true) : dTuple [.lst o ds] = some (.tup ds) := if_pos h
@[simp] theorem dTuple_tup (h : D.shL ds = true) : dTuple [.tup ds] = some (.tup ds) := if_pos h
@[simp] theorem dList_lst {o : Bool} (h : D.shL ds = true) : dList [.lst o ds] = some (.lst true ds) := if_pos h
@[simp] theorem dList_tup (h : D.shL ds = true) : dList [.tup ds] = some (.lst true ds) := if_pos h
@[simp] theorem isi_ii : dIsi .int (.int i) = some (.bl true) := (rfl)
@[simp] theorem isi_ib : dIsi .int (.bl b) = some (.bl true) := (rfl)
@[simp] theorem isi_it : dIsi .int (.tup ds) = some (.bl false) := (rfl)
@[simp] theorem isi_bi : dIsi .bool (.int i) = some (.bl false) := (rfl)
@[simp] theorem isi_bb : dIsi .bool (.bl b) = some (.bl true) := (rfl)
@[simp] theorem isi_bt : dIsi .bool (.tup ds) = some (.bl false) := (rfl)
@[simp] theorem isi_bn : dIsi .bool .non = some (.bl false) := (rfl)
@[simp] theorem isi_tt : dIsi .tuple (.tup ds) = some (.bl true) := (rfl)
@[simp] theorem isi_ti : dIsi .tuple (.int i) = some (.bl false) := (rfl)
@[simp] theorem isi_tb : dIsi .tuple (.bl b) = some (.bl false) := (rfl)
@[simp] theorem isi_tl {o : Bool} : dIsi .tuple (.lst o ds) = some (.bl false) := (rfl)
@[simp] theorem isi_tn : dIsi .tuple .non = some (.bl false) := (rfl)
@[simp] theorem isi_ll {o : Bool} : dIsi .list (.lst o ds) = some (.bl true) := (rfl)
@[simp] theorem isi_lt : dIsi .list (.tup ds) = some (.bl false) := (rfl)
@[simp] theorem isi_li : dIsi .list (.int i) = some (.bl false) := (rfl)
@[simp] theorem isi_lb : dIsi .list (.bl b) = some (.bl false) := (rfl)
@[simp] theorem isi_ln : dIsi .list .non = some (.bl false) := (rfl)
@[simp] theorem isi_ss {z : Str} : dIsi .str (.str z) = some (.bl true) := (rfl)
@[simp] theorem isi_ts {z : Str} : dIsi .tuple (.str z) = some (.bl false) := (rfl)
@[simp] theorem isi_ls {z : Str} : dIsi .list (.str z) = some (.bl false) := (rfl)
@[simp] theorem isi_bs {z : Str} : dIsi .bool (.str z) = some (.bl false) := (rfl)
@[simp] theorem isi_is {z : Str} : dIsi .int (.str z) = some (.bl false) := (rfl)
@[simp] theorem isL_lst {o : Bool} : isL (some (some (.lst o ds))) = true := (rfl)
@[simp] theorem appE_some {n : Nat} (h : r[n]? = some (some (.lst true ds))) (hl : ds.length < sizeLine) : appE n d r = .ok .non (r.set n (some (.lst true (ds ++ [d])))) := by unfold appE; rw [h]; exact if_pos hl
@[simp] theorem popE_some {n : Nat} (h : r[n]? = some (some (.lst true ds))) (hl : ds.getLast? = some d) : popE n r = .ok d (r.set n (some (.lst true ds.dropLast))) := by unfold popE; rw [h]; dsimp only; rw [hl]
@[simp] theorem setS_lt {n : Nat} (h : n < r.length) : setS n d r = .nx (r.set n (some d)) := if_pos h
@[simp] theorem setG_lt {n : Nat} (h : n < r.length) : setG n d r = some (r.set n (some d)) := if_pos h
@[simp] theorem nilG_nil : nilG [] r = some r := (rfl)
@[simp] theorem consG_cons {G : D → Env → Option Env} {G' : List D → Env → Option Env} : consG G G' (d :: ds) r = (G d r).bind fun r1 => G' ds r1 := (rfl)
@[simp] theorem tupG_tup {n : Nat} {G : List D → Env → Option Env} (h : ds.length = n) (h' : D.shL ds = true) : tupG n G (.tup ds) r = G ds r := if_pos ⟨h, h'⟩
@[simp] theorem asgS_some {G : D → Env → Option Env} {r' : Env} (h : G d r = some r') : asgS G d r = .nx r' := by unfold asgS; rw [h]
@[simp] theorem parS_two {m n : Nat} (h : m < r.length) (h' : n < r.length) : parS m n [x, y] r = .nx ((r.set m (some x)).set n (some y)) := if_pos ⟨h, h'⟩
@[simp] theorem itemsE_lst {o : Bool} (h : D.shL ds = true) : itemsE (.lst o ds) r = .ok ds r := if_pos h
@[simp] theorem itemsE_tup (h : D.shL ds = true) : itemsE (.tup ds) r = .ok ds r := if_pos h
@[simp] theorem itemsE_scr {ns : List Int} : itemsE (.scr ns) r = .ok (ns.map .int) r := (rfl)
@[simp] theorem rng1E_int (h : -(2 ^ 62) ≤ j) (h' : j < 2 ^ 62) : rng1E [.int j] r = .ok (rgI 0 j.toNat) r := if_pos ⟨h, h'⟩
@[simp] theorem rng2E_int (h : -(2 ^ 62) ≤ i) (h' : i < 2 ^ 62) (h1 : -(2 ^ 62) ≤ j) (h2 : j < 2 ^ 62) : rng2E [.int i, .int j] r = .ok (rgI i (j - i).toNat) r := if_pos ⟨h, h', h1, h2⟩
@[simp] theorem revE_lst {o : Bool} (h : D.shL ds = true) : revE (.lst o ds) r = .ok (.lst true ds.reverse) r := if_pos h
@[simp] theorem wipeE_nil : wipeE r [] = r := (rfl)
@[simp] theorem wipeE_cons {v : Nat} {vs : List Nat} : wipeE r (v :: vs) = (wipeE r vs).set v none := (rfl)
@[simp] theorem resE_nil {r1 : Env} : resE r1 r [] = r := (rfl)
@[simp] theorem resE_none {r1 : Env} {v : Nat} {vs : List Nat} (h : r1[v]? = some none) : resE r1 r (v :: vs) = resE r1 r vs := by
  show (match r1[v]? with | some (some d) => if d.sh = true then (resE r1 r vs).set v (some d) else resE r1 r vs | _ => resE r1 r vs) = _
  rw [h]
@[simp] theorem resE_some {r1 : Env} {v : Nat} {vs : List Nat} (h : r1[v]? = some (some d)) (hs : d.sh = true) : resE r1 r (v :: vs) = (resE r1 r vs).set v (some d) := by
  show (match r1[v]? with | some (some d) => if d.sh = true then (resE r1 r vs).set v (some d) else resE r1 r vs | _ => resE r1 r vs) = _
  rw [h]
  exact if_pos hs
@[simp] theorem tupE_le (h : ds.length ≤ sizeLine) : tupE ds r = .ok (.tup ds) r := if_pos h
@[simp] theorem lstE_le (h : ds.length ≤ sizeLine) : lstE ds r = .ok (.lst true ds) r := if_pos h
@[simp] theorem sizeLine_val : sizeLine = 16777216 := (rfl)
@[simp] theorem callE_len {n : Nat} {m : List D → PR D} (h : ds.length = n) : callE n m ds r = (m ds).up r := if_pos h
@[simp] theorem callP_len {n : Nat} {m : List D → PR D} (h : ds.length = n) (h' : D.shL ds = true) : callP n m ds = m ds := if_pos ⟨h, h'⟩
theorem callME_ok {n k : Nat} {m : List D → MR} {o : D} (h : r[k]? = some (some x)) (hl : ds.length + 1 = n) (hm : m (x :: ds) = .ok d o) : callME n m k ds r = .ok d (r.set k (some o)) := by
  unfold callME; rw [h]; dsimp only; rw [if_pos hl, hm]
@[simp] theorem augS_some {n : Nat} {g : D → D → Option D} {z : D} (h : g x y = some z) : augS n g x y r = setS n z r := by unfold augS; rw [h]
@[simp] theorem startE_val {n : Nat} : startE n ds = ds.map some ++ List.replicate (n - ds.length) none := (rfl)
end
@[simp] theorem pC_ap {r : DL.Env} {d : D} : pC d r = .ok d := (rfl)
@[simp] theorem eSh_ap {r : DL.Env} {P : EP} : eSh P r = ((P r).up r).bind shO := (rfl)
@[simp] theorem eUp_ap {r : DL.Env} {P : EP} : eUp P r = (P r).up r := (rfl)
@[simp] theorem tUp_ap {r : DL.Env} {P : BP} : tUp P r = (P r).up r := (rfl)
@[simp] theorem pOp_ap {r : DL.Env} {g : D → D → Option D} {A B : EP} : pOp g A B r = (A r).bind fun x => (B r).bind fun y => opP (g x) y := (rfl)
@[simp] theorem eOp_ap {r : DL.Env} {g : D → D → Option D} {A B : EE} : eOp g A B r = (A r).bind fun x r1 => (B r1).bind fun y r2 => opE (g x) y r2 := (rfl)
@[simp] theorem pUn_ap {r : DL.Env} {g : D → Option D} {A : EP} : pUn g A r = (A r).bind (opP g) := (rfl)
@[simp] theorem eUn_ap {r : DL.Env} {g : D → Option D} {A : EE} : eUn g A r = (A r).bind (opE g) := (rfl)
@[simp] theorem bP_ap {r : DL.Env} {P : EP} : bP P r = (P r).bind asBp := (rfl)
@[simp] theorem bE_ap {r : DL.Env} {E : EE} : bE E r = (E r).bind asB := (rfl)
@[simp] theorem tNot_ap {r : DL.Env} {E : BE} : tNot E r = (E r).bind fun k r1 => .ok (!k) r1 := (rfl)
@[simp] theorem tpNot_ap {r : DL.Env} {E : BP} : tpNot E r = (E r).bind fun k => .ok (!k) := (rfl)
@[simp] theorem tAnd_ap {r : DL.Env} {E G : BE} : tAnd E G r = (E r).bind fun k r1 => if k = true then G r1 else .ok false r1 := (rfl)
@[simp] theorem tOr_ap {r : DL.Env} {E G : BE} : tOr E G r = (E r).bind fun k r1 => if k = true then .ok true r1 else G r1 := (rfl)
@[simp] theorem tpAnd_ap {r : DL.Env} {E G : BP} : tpAnd E G r = (E r).bind fun k => if k = true then G r else .ok false := (rfl)
@[simp] theorem tpOr_ap {r : DL.Env} {E G : BP} : tpOr E G r = (E r).bind fun k => if k = true then .ok true else G r := (rfl)
@[simp] theorem pAnd_ap {r : DL.Env} {E G : EP} : pAnd E G r = ((E r).bind asBp).bind fun k => if k = true then G r else .ok (.bl false) := (rfl)
@[simp] theorem pOr_ap {r : DL.Env} {E G : EP} : pOr E G r = ((E r).bind asBp).bind fun k => if k = true then .ok (.bl true) else G r := (rfl)
@[simp] theorem eAnd_ap {r : DL.Env} {E G : EE} : eAnd E G r = ((E r).bind asB).bind fun k r1 => if k = true then G r1 else .ok (.bl false) r1 := (rfl)
@[simp] theorem eOr_ap {r : DL.Env} {E G : EE} : eOr E G r = ((E r).bind asB).bind fun k r1 => if k = true then .ok (.bl true) r1 else G r1 := (rfl)
@[simp] theorem pNot_ap {r : DL.Env} {E : EP} : pNot E r = ((E r).bind asBp).bind fun k => .ok (.bl !k) := (rfl)
@[simp] theorem eIf_ap {r : DL.Env} {E : BE} {A B : EE} : eIf E A B r = (E r).bind fun k r1 => if k = true then A r1 else B r1 := (rfl)
@[simp] theorem pIf_ap {r : DL.Env} {E : BP} {A B : EP} : pIf E A B r = (E r).bind fun k => if k = true then A r else B r := (rfl)
@[simp] theorem pIx_ap {r : DL.Env} {A B : EP} : pIx A B r = (A r).bind fun x => (B r).bind fun y => opP (dIx x) y := (rfl)
@[simp] theorem eIx_ap {r : DL.Env} {A B : EE} : eIx A B r = (A r).bind fun x r1 => (B r1).bind fun y r2 => (opE (dIx x) y r2).bind shO := (rfl)
@[simp] theorem aCons_ap {r : DL.Env} {E : EE} {G : Env → Res (List D)} : aCons E G r = (E r).bind fun d r1 => (G r1).bind fun ds r2 => .ok (d :: ds) r2 := (rfl)
@[simp] theorem paCons_ap {r : DL.Env} {E : EP} {G : Env → PR (List D)} : paCons E G r = (E r).bind fun d => (G r).bind fun ds => .ok (d :: ds) := (rfl)
@[simp] theorem eTup_ap {r : DL.Env} {A : Env → Res (List D)} : eTup A r = (A r).bind tupE := (rfl)
@[simp] theorem pTup_ap {r : DL.Env} {A : Env → PR (List D)} : pTup A r = (A r).bind fun ds => if ds.length ≤ sizeLine then .ok (.tup ds) else .stk := (rfl)
@[simp] theorem eLst_ap {r : DL.Env} {A : Env → Res (List D)} : eLst A r = (A r).bind lstE := (rfl)
@[simp] theorem pLst_ap {r : DL.Env} {A : Env → PR (List D)} : pLst A r = (A r).bind fun ds => if ds.length ≤ sizeLine then .ok (.lst true ds) else .stk := (rfl)
@[simp] theorem eCB_ap {r : DL.Env} {g : List D → Option D} {A : Env → Res (List D)} : eCB g A r = (A r).bind (opE g) := (rfl)
@[simp] theorem pCB_ap {r : DL.Env} {g : List D → Option D} {A : Env → PR (List D)} : pCB g A r = (A r).bind (opP g) := (rfl)
@[simp] theorem epCB_ap {r : DL.Env} {g : List D → Option D} {A : Env → PR (List D)} : epCB g A r = ((A r).up r).bind (opE g) := (rfl)
@[simp] theorem eCall_ap {r : DL.Env} {n : Nat} {m : List D → PR D} {A : Env → Res (List D)} : eCall n m A r = (A r).bind (callE n m) := (rfl)
@[simp] theorem pCall_ap {r : DL.Env} {n : Nat} {m : List D → PR D} {A : Env → PR (List D)} : pCall n m A r = (A r).bind (callP n m) := (rfl)
@[simp] theorem eRev_ap {r : DL.Env} {E : EE} : eRev E r = (E r).bind revE := (rfl)
@[simp] theorem iSq_ap {r : DL.Env} {E : EE} : iSq E r = (E r).bind itemsE := (rfl)
@[simp] theorem iR1_ap {r : DL.Env} {E : Env → Res (List D)} : iR1 E r = (E r).bind rng1E := (rfl)
@[simp] theorem iR2_ap {r : DL.Env} {E : Env → Res (List D)} : iR2 E r = (E r).bind rng2E := (rfl)
@[simp] theorem eLc_ap {r : DL.Env} {G : D → Env → Option Env} {T : BE} {E : EE} {vs : List Nat} {I : Env → Res (List D)} : eLc G T E vs I r = (I r).bind fun ds r1 => (lcL G T E vs ds [] (wipeE r1 vs)).bind fun acc r2 => .ok (.lst true acc) (resE r1 r2 vs) := (rfl)
theorem sSeq_ap {r : DL.Env} {B C : Env → SR} : sSeq B C r = (B r).seq C := (rfl)
@[simp] theorem sExpr_ap {r : DL.Env} {E : EE} : sExpr E r = (E r).thn fun _ r1 => .nx r1 := (rfl)
@[simp] theorem sRet_ap {r : DL.Env} {E : EE} : sRet E r = (E r).thn fun d r1 => .rt d r1 := (rfl)
@[simp] theorem sIf_ap {r : DL.Env} {T : BE} {B C : Env → SR} : sIf T B C r = (T r).thn fun k r1 => if k = true then B r1 else C r1 := (rfl)
@[simp] theorem sSet_ap {r : DL.Env} {i : Nat} {E : EE} : sSet i E r = (E r).thn (setS i) := (rfl)
@[simp] theorem sAsg_ap {r : DL.Env} {G : D → Env → Option Env} {E : EE} : sAsg G E r = (E r).thn (asgS G) := (rfl)
@[simp] theorem sPar_ap {r : DL.Env} {i j : Nat} {E : Env → Res (List D)} : sPar i j E r = (E r).thn (parS i j) := (rfl)
@[simp] theorem sFor_ap {r : DL.Env} {I : Env → Res (List D)} {G : D → Env → Option Env} {B : Env → SR} : sFor I G B r = (I r).thn (forL G B) := (rfl)
@[simp] theorem aNil_ap {r : DL.Env} : aNil r = .ok [] r := (rfl)
@[simp] theorem paNil_ap {r : DL.Env} : paNil r = .ok [] := (rfl)
@[simp] theorem tYes_ap {r : DL.Env} : tYes r = .ok true r := (rfl)
@[simp] theorem sRetN_ap {r : DL.Env} : sRetN r = .rt .non r := (rfl)
@[simp] theorem chP_ap {r : DL.Env} {g g' : D → D → Option D} {A B C : EP} : chP g g' A B C r = (A r).bind fun x => (B r).bind fun y => (opP (g x) y).bind fun z => (asBp z).bind fun k => if k = true then (C r).bind fun w => opP (g' y) w else .ok (.bl false) := (rfl)
@[simp] theorem eApp_ap {i : Nat} {E : EE} {r : DL.Env} (h : isL r[i]? = true) : eApp i E r = (E r).bind (appE i) := if_pos h
@[simp] theorem eCallM_ap {n i : Nat} {m : List D → MR} {A : DL.Env → Res (List D)} {r : DL.Env} {d : D} (h : r[i]? = some (some d)) : eCallM n m i A r = (A r).bind (callME n m i) := by unfold eCallM; rw [h]
@[simp] theorem sAug_ap {i : Nat} {g : D → D → Option D} {E : EE} {r : DL.Env} {d0 : D} (h : r[i]? = some (some d0)) (hs : d0.sh = true) : sAug i g E r = (E r).thn (augS i g d0) := by unfold sAug; rw [h]; exact if_pos hs
@[simp] theorem sWhile_ap {n : Nat} {T : BE} {B : DL.Env → SR} {r : DL.Env} : sWhile n T B r = whileL T B n r := (rfl)
/-! ### loops -/
theorem forL_nil {G : D → DL.Env → Option DL.Env} {B : DL.Env → SR} {r : DL.Env} : forL G B [] r = .nx r := (rfl)
theorem forL_cons {G : D → DL.Env → Option DL.Env} {B : DL.Env → SR} {r r1 : DL.Env} {d : D} {ds : List D} (h : G d r = some r1) : forL G B (d :: ds) r = (B r1).loop (forL G B ds) := by
  show (match G d r with | none => SR.stk | some r1 => (B r1).loop (forL G B ds)) = _
  rw [h]
/-- a loop that is never left -/
theorem forL_inv {G : D → DL.Env → Option DL.Env} {B : DL.Env → SR} (I : Nat → DL.Env → Prop) : ∀ (ds : List D) (k : Nat) (r : DL.Env), I k r →
    (∀ j d r, ds[j]? = some d → I (k + j) r → ∃ r1 r2, G d r = some r1 ∧ (B r1 = .nx r2 ∨ B r1 = .ct r2) ∧ I (k + j + 1) r2) → ∃ r2, forL G B ds r = .nx r2 ∧ I (k + ds.length) r2
  | [], k, r, h, _ => ⟨r, rfl, h⟩
  | d :: ds, k, r, h, st => by
    obtain ⟨r1, r2, e1, e2, h2⟩ := st 0 d r rfl h
    obtain ⟨r3, e3, h3⟩ := forL_inv I ds (k + 1) r2 h2 fun j d' r' e h' => by
      have := st (j + 1) d' r' (by simpa using e) (by rw [show k + (j + 1) = k + 1 + j by omega]; exact h')
      rw [show k + (j + 1) = k + 1 + j by omega] at this
      exact this
    refine ⟨r3, ?_, by rw [List.length_cons, show k + (ds.length + 1) = k + 1 + ds.length by omega]; exact h3⟩
    rw [forL_cons e1]
    rcases e2 with e2 | e2 <;> rw [e2] <;> exact e3
/-- .. or left with an answer -/
theorem forL_post {G : D → DL.Env → Option DL.Env} {B : DL.Env → SR} (I : Nat → DL.Env → Prop) (Q : SR → Prop) : ∀ (ds : List D) (k : Nat) (r : DL.Env), I k r →
    (∀ j d r, ds[j]? = some d → I (k + j) r → ∃ r1, G d r = some r1 ∧ ((∃ r2, (B r1 = .nx r2 ∨ B r1 = .ct r2) ∧ I (k + j + 1) r2) ∨ (∃ r2, B r1 = .bk r2 ∧ Q (.nx r2)) ∨ (∃ v r2, B r1 = .rt v r2 ∧ Q (.rt v r2)) ∨ (∃ c r2, B r1 = .exc c r2 ∧ Q (.exc c r2)))) →
    (∀ r, I (k + ds.length) r → Q (.nx r)) → Q (forL G B ds r)
  | [], k, r, h, _, q => q r h
  | d :: ds, k, r, h, st, q => by
    obtain ⟨r1, e1, h2⟩ := st 0 d r rfl h
    rw [forL_cons e1]
    rcases h2 with ⟨r2, e2, h2⟩ | ⟨r2, e2, h2⟩ | ⟨v, r2, e2, h2⟩ | ⟨c, r2, e2, h2⟩
    · have : (B r1).loop (forL G B ds) = forL G B ds r2 := by rcases e2 with e2 | e2 <;> rw [e2] <;> rfl
      rw [this]
      refine forL_post I Q ds (k + 1) r2 h2 (fun j d' r' e h' => ?_) fun r' h' => q r' ?_
      · have := st (j + 1) d' r' (by simpa using e) (by rw [show k + (j + 1) = k + 1 + j by omega]; exact h')
        rw [show k + (j + 1) = k + 1 + j by omega] at this
        exact this
      · rw [List.length_cons, show k + (ds.length + 1) = k + 1 + ds.length by omega]; exact h'
    all_goals (rw [e2]; exact h2)
theorem whileL_step {T : BE} {B : DL.Env → SR} {n : Nat} {r r1 : DL.Env} {k : Bool} (h : T r = .ok k r1) : whileL T B (n + 1) r = if k = true then (B r1).loop (whileL T B n) else .nx r1 := by
  show (T r).thn _ = _
  rw [h]; rfl
/-- a while that comes to its end: I at the start of each turn, a measure falls -/
theorem whileL_inv {T : BE} {B : DL.Env → SR} (I : Nat → DL.Env → Prop) (Q : DL.Env → Prop) (st : ∀ m r, I m r → ∃ k r1, T r = .ok k r1 ∧ if k = true then ∃ r2 m', (B r1 = .nx r2 ∨ B r1 = .ct r2) ∧ m' < m ∧ I m' r2 else Q r1) :
    ∀ (n m : Nat) (r : DL.Env), I m r → m < n → ∃ r2, whileL T B n r = .nx r2 ∧ Q r2
  | 0, m, r, _, h => absurd h (Nat.not_lt_zero _)
  | n + 1, m, r, hI, h => by
    obtain ⟨k, r1, e1, h1⟩ := st m r hI
    rw [whileL_step e1]
    cases k with
    | false => exact ⟨r1, rfl, by simpa using h1⟩
    | true =>
      rw [if_pos rfl] at h1
      obtain ⟨r2, m', e2, l, h2⟩ := h1
      obtain ⟨r3, e3, h3⟩ := whileL_inv I Q st n m' r2 h2 (by omega)
      refine ⟨r3, ?_, h3⟩
      rw [if_pos rfl]
      rcases e2 with e2 | e2 <;> rw [e2] <;> exact e3
@[simp] theorem rgI_len_ {lo : Int} {n : Nat} : (rgI lo n).length = n := by simp [rgI]
theorem rgI_item {lo : Int} {n j : Nat} {d : D} (h : (rgI lo n)[j]? = some d) : j < n ∧ d = .int (lo + j) := by
  have hj : j < n := by have := (List.getElem?_eq_some_iff.mp h).1; simpa using this
  rw [rgI_get, if_pos hj] at h
  cases h
  exact ⟨hj, rfl⟩
theorem ints_get {L : List Int} {j : Nat} {d : D} (h : (L.map D.int)[j]? = some d) : ∃ i, L[j]? = some i ∧ d = .int i := by
  rw [List.getElem?_map] at h
  cases e : L[j]? with
  | none => rw [e] at h; cases h
  | some i => rw [e] at h; cases h; exact ⟨i, rfl, rfl⟩
@[simp] theorem sh_rgI {lo : Int} {n : Nat} : D.shL (rgI lo n) = true := shL_map fun _ _ => sh_int
end DL

/-! DSat: what holds behind a statement, for data functions; simp walks through, loops by invariants. -/
namespace DL
open PySem PySem.Spec PyProof.Rows L2
structure Po where
  nx : DL.Env → Prop
  rt : D → DL.Env → Prop
  bk : DL.Env → Prop
  ct : DL.Env → Prop
  ex : Str → DL.Env → Prop
def SR.satR (x : SR) (p : Po) : Prop := match x with
  | .nx r => p.nx r
  | .rt d r => p.rt d r
  | .bk r => p.bk r
  | .ct r => p.ct r
  | .exc c r => p.ex c r
  | .stk => False
/-- sealed: nothing looks into it but the rules below -/
structure SR.sat (x : SR) (p : Po) : Prop where
  out : x.satR p
/-- then C -/
def Po.andd (p : Po) (C : DL.Env → SR) : Po := ⟨fun r => (C r).sat p, p.rt, p.bk, p.ct, p.ex⟩
/-- a turn of a loop -/
def Po.turn (p : Po) (I : DL.Env → Prop) : Po := ⟨I, p.rt, p.nx, I, p.ex⟩
/-- a def's answer -/
def Po.ans (Q : D → DL.Env → Prop) : Po := ⟨Q .non, Q, fun _ => False, fun _ => False, fun _ _ => False⟩
section
variable {p : Po} {r : DL.Env} {d : D} {c : Str} {x : SR} {C B : DL.Env → SR}
@[simp] theorem sat_nx : (SR.nx r).sat p ↔ p.nx r := ⟨fun h => h.out, fun h => ⟨h⟩⟩
@[simp] theorem sat_rt : (SR.rt d r).sat p ↔ p.rt d r := ⟨fun h => h.out, fun h => ⟨h⟩⟩
@[simp] theorem sat_bk : (SR.bk r).sat p ↔ p.bk r := ⟨fun h => h.out, fun h => ⟨h⟩⟩
@[simp] theorem sat_ct : (SR.ct r).sat p ↔ p.ct r := ⟨fun h => h.out, fun h => ⟨h⟩⟩
@[simp] theorem sat_exc : (SR.exc c r).sat p ↔ p.ex c r := ⟨fun h => h.out, fun h => ⟨h⟩⟩
@[simp] theorem sat_stk : ¬ SR.stk.sat p := fun h => h.out
@[simp] theorem sat_ite {q : Prop} [Decidable q] {a b : SR} : (if q then a else b).sat p ↔ (q → a.sat p) ∧ (¬ q → b.sat p) := by
  split
  · rename_i h; simp [h]
  · rename_i h; simp [h]
theorem sat_seq_ : (x.seq C).sat p ↔ x.sat (p.andd C) := by
  cases x with
  | nx r => exact (sat_nx (p := p.andd C) (r := r)).symm
  | rt d r => exact sat_rt.trans (sat_rt (p := p.andd C) (r := r)).symm
  | bk r => exact sat_bk.trans (sat_bk (p := p.andd C) (r := r)).symm
  | ct r => exact sat_ct.trans (sat_ct (p := p.andd C) (r := r)).symm
  | exc c r => exact sat_exc.trans (sat_exc (p := p.andd C) (r := r)).symm
  | stk => exact ⟨fun h => (sat_stk h).elim, fun h => (sat_stk h).elim⟩
@[simp] theorem sat_sSeq : (sSeq B C r).sat p ↔ (B r).sat (p.andd C) := sat_seq_
@[simp] theorem andd_nx : (p.andd C).nx r ↔ (C r).sat p := (Iff.rfl)
@[simp] theorem andd_rt : (p.andd C).rt = p.rt := (rfl)
@[simp] theorem andd_bk : (p.andd C).bk = p.bk := (rfl)
@[simp] theorem andd_ct : (p.andd C).ct = p.ct := (rfl)
@[simp] theorem andd_ex : (p.andd C).ex = p.ex := (rfl)
@[simp] theorem turn_nx {I : DL.Env → Prop} : (p.turn I).nx r ↔ I r := (Iff.rfl)
@[simp] theorem turn_ct {I : DL.Env → Prop} : (p.turn I).ct r ↔ I r := (Iff.rfl)
@[simp] theorem turn_bk {I : DL.Env → Prop} : (p.turn I).bk = p.nx := (rfl)
@[simp] theorem turn_rt {I : DL.Env → Prop} : (p.turn I).rt = p.rt := (rfl)
@[simp] theorem turn_ex {I : DL.Env → Prop} : (p.turn I).ex = p.ex := (rfl)
@[simp] theorem ans_nx {Q : D → DL.Env → Prop} : (Po.ans Q).nx r ↔ Q .non r := (Iff.rfl)
@[simp] theorem ans_rt {Q : D → DL.Env → Prop} : (Po.ans Q).rt d r ↔ Q d r := (Iff.rfl)
@[simp] theorem ans_bk {Q : D → DL.Env → Prop} : ¬ (Po.ans Q).bk r := fun h => h
@[simp] theorem ans_ct {Q : D → DL.Env → Prop} : ¬ (Po.ans Q).ct r := fun h => h
@[simp] theorem ans_ex {Q : D → DL.Env → Prop} : ¬ (Po.ans Q).ex c r := fun h => h
theorem sat_imp {p q : Po} (h : x.sat p) (h1 : ∀ r, p.nx r → q.nx r) (h2 : ∀ d r, p.rt d r → q.rt d r) (h3 : ∀ r, p.bk r → q.bk r) (h4 : ∀ r, p.ct r → q.ct r) (h5 : ∀ c r, p.ex c r → q.ex c r) : x.sat q := by
  cases x with
  | nx r => exact ⟨h1 r h.out⟩
  | rt d r => exact ⟨h2 d r h.out⟩
  | bk r => exact ⟨h3 r h.out⟩
  | ct r => exact ⟨h4 r h.out⟩
  | exc c r => exact ⟨h5 c r h.out⟩
  | stk => exact h.out.elim
/-- a pure def's answer -/
theorem outP_eq {d : D} (h : x.sat (.ans fun d' _ => d' = d)) : outP x = .ok d := by
  cases x with
  | nx r => have h : D.non = d := h.out; rw [← h]; rfl
  | rt d' r => have h : d' = d := h.out; rw [← h]; rfl
  | _ => exact h.out.elim
theorem outP_ex {Q : D → Prop} (h : x.sat (.ans fun d' _ => Q d')) : ∃ d, outP x = .ok d ∧ Q d := by
  cases x with
  | nx r => exact ⟨_, rfl, h.out⟩
  | rt d' r => exact ⟨_, rfl, h.out⟩
  | _ => exact h.out.elim
theorem outM_ex {Q : D → D → Prop} (h : x.sat (.ans fun d r => ∃ o, slot0 r = some o ∧ Q d o)) : ∃ d o, outM x = .ok d o ∧ Q d o := by
  cases x with
  | nx r =>
    obtain ⟨o, e, q⟩ : ∃ o, slot0 r = some o ∧ Q .non o := h.out
    exact ⟨_, o, by show Option.elim (slot0 r) _ _ = _; rw [e]; rfl, q⟩
  | rt d r =>
    obtain ⟨o, e, q⟩ : ∃ o, slot0 r = some o ∧ Q d o := h.out
    exact ⟨_, o, by show Option.elim (slot0 r) _ _ = _; rw [e]; rfl, q⟩
  | _ => exact h.out.elim
theorem sat_loop : (x.loop C).sat p ↔ x.sat (p.turn fun r => (C r).sat p) := by
  cases x with
  | nx r => exact (sat_nx (p := p.turn fun r => (C r).sat p) (r := r)).symm
  | rt d r => exact sat_rt.trans (sat_rt (p := p.turn fun r => (C r).sat p) (r := r)).symm
  | bk r => exact sat_nx.trans (sat_bk (p := p.turn fun r => (C r).sat p) (r := r)).symm
  | ct r => exact (sat_ct (p := p.turn fun r => (C r).sat p) (r := r)).symm
  | exc c r => exact sat_exc.trans (sat_exc (p := p.turn fun r => (C r).sat p) (r := r)).symm
  | stk => exact ⟨fun h => (sat_stk h).elim, fun h => (sat_stk h).elim⟩
theorem sat_for {G : D → DL.Env → Option DL.Env} (I : Nat → DL.Env → Prop) {ds : List D} (h0 : I 0 r)
    (st : ∀ j d r, ds[j]? = some d → I j r → ∃ r1, G d r = some r1 ∧ (B r1).sat (p.turn (I (j + 1)))) (q : ∀ r, I ds.length r → p.nx r) : (forL G B ds r).sat p := by
  have key : ∀ (es : List D) (k : Nat) (r : DL.Env), (∀ j, es[j]? = ds[k + j]?) → k + es.length = ds.length → I k r → (forL G B es r).sat p := by
    intro es
    induction es with
    | nil => intro k r _ hl h; exact sat_nx.mpr (q r (by rw [← hl]; exact h))
    | cons e es ih =>
      intro k r he hl h
      obtain ⟨r1, e1, h1⟩ := st k e r (by rw [show k = k + 0 from rfl, ← he 0]; rfl) h
      rw [forL_cons e1, sat_loop]
      have nxt : ∀ r, I (k + 1) r → (forL G B es r).sat p := fun r h => ih (k + 1) r (fun j => by rw [show k + 1 + j = k + (j + 1) by omega, ← he (j + 1)]; rfl) (by rw [← hl, List.length_cons]; omega) h
      exact sat_imp h1 nxt (fun _ _ h => h) (fun _ h => h) nxt (fun _ _ h => h)
  exact key ds 0 r (fun j => by rw [Nat.zero_add]) (by simp) h0
/-- over some list read as data -/
theorem sat_forM {α : Type} {G : D → DL.Env → Option DL.Env} (I : Nat → DL.Env → Prop) {L : List α} {f : α → D} (h0 : I 0 r)
    (st : ∀ j a r, L[j]? = some a → I j r → ∃ r1, G (f a) r = some r1 ∧ (B r1).sat (p.turn (I (j + 1)))) (q : ∀ r, I L.length r → p.nx r) : (forL G B (L.map f) r).sat p := by
  refine sat_for I h0 (fun j d r e h => ?_) (fun r h => q r (by simpa using h))
  rw [List.getElem?_map] at e
  cases e' : L[j]? with
  | none => rw [e'] at e; cases e
  | some a => rw [e'] at e; cases e; exact st j a r e' h
theorem sat_forR {G : D → DL.Env → Option DL.Env} (I : Nat → DL.Env → Prop) {lo : Int} {n : Nat} (h0 : I 0 r)
    (st : ∀ j r, j < n → I j r → ∃ r1, G (.int (lo + j)) r = some r1 ∧ (B r1).sat (p.turn (I (j + 1)))) (q : ∀ r, I n r → p.nx r) : (forL G B (rgI lo n) r).sat p := by
  refine sat_for I h0 (fun j d r e h => ?_) (fun r h => q r (by simpa using h))
  obtain ⟨hj, rfl⟩ := rgI_item e
  exact st j r hj h
theorem sat_while {T : BE} (I : Nat → DL.Env → Prop) {n m : Nat} (hm : m < n) (h0 : I m r)
    (st : ∀ m r, I m r → ∃ k r1, T r = .ok k r1 ∧ (k = true → (B r1).sat (p.turn fun r2 => ∃ m', m' < m ∧ I m' r2)) ∧ (k = false → p.nx r1)) : (whileL T B n r).sat p := by
  induction n generalizing m r with
  | zero => omega
  | succ n ih =>
    obtain ⟨k, r1, e1, h1, h2⟩ := st m r h0
    rw [whileL_step e1]
    cases k with
    | false => rw [if_neg (by decide)]; exact sat_nx.mpr (h2 rfl)
    | true =>
      rw [if_pos rfl, sat_loop]
      have nxt : ∀ r, (∃ m', m' < m ∧ I m' r) → (whileL T B n r).sat p := fun r ⟨m', l, h⟩ => ih (by omega) h
      exact sat_imp (h1 rfl) nxt (fun _ _ h => h) (fun _ h => h) nxt (fun _ _ h => h)
/-- .. whose test changes nothing -/
theorem sat_whileP {T : BE} (I : Nat → DL.Env → Prop) {n m : Nat} (hm : m < n) (h0 : I m r)
    (st : ∀ m r, I m r → ∃ k, T r = .ok k r ∧ (k = true → (B r).sat (p.turn fun r2 => ∃ m', m' < m ∧ I m' r2)) ∧ (k = false → p.nx r)) : (whileL T B n r).sat p :=
  sat_while I hm h0 fun m r h => by
    obtain ⟨k, e, h1, h2⟩ := st m r h
    exact ⟨k, r, e, h1, h2⟩
end
/-- a list comprehension that leaves the names as they were -/
theorem lcL_eq {G : D → DL.Env → Option DL.Env} {T : BE} {E : EE} {vs : List Nat} {r : DL.Env} (q : D → Bool) (f : D → D) : ∀ (ds acc : List D), acc.length + ds.length < sizeLine →
    (∀ d ∈ ds, ∃ r1, G d r = some r1 ∧ T r1 = .ok (q d) r1 ∧ (q d = true → E r1 = .ok (f d) r1) ∧ wipeE r1 vs = r) → lcL G T E vs ds acc r = .ok (acc ++ (ds.filter q).map f) r
  | [], acc, _, _ => by simp [lcL]
  | d :: ds, acc, hl, h => by
    obtain ⟨r1, e1, e2, e3, e4⟩ := h d (by simp)
    have ih := fun acc hl => lcL_eq (G := G) (T := T) (E := E) (vs := vs) q f ds acc hl fun d hd => h d (by simp [hd])
    unfold lcL
    rw [e1]
    dsimp only
    rw [e2, Res.bindS_ok]
    rw [List.length_cons] at hl
    cases hq : q d with
    | false => rw [if_neg (by decide), e4, ih acc (by omega), List.filter_cons_of_neg (by simp [hq])]
    | true =>
      rw [if_pos rfl, e3 hq, Res.bindS_ok, if_pos (by omega), e4, ih _ (by rw [List.length_append, List.length_singleton]; omega), List.filter_cons_of_pos hq, List.map_cons, List.append_assoc]
      rfl
/-- a call that changes its first argument -/
def MR.at (x : MR) (k : Nat) (r : DL.Env) : Res D := match x with
  | .ok d o => .ok d (r.set k (some o))
  | .exc c o => .exc c (r.set k (some o))
  | .stk => .stk
@[simp] theorem MR.at_ok {d o : D} {k : Nat} {r : DL.Env} : (MR.ok d o).at k r = .ok d (r.set k (some o)) := (rfl)
@[simp] theorem callME_at {n k : Nat} {m : List D → MR} {ds : List D} {r : DL.Env} {x : D} (h : r[k]? = some (some x)) (hl : ds.length + 1 = n) : callME n m k ds r = (m (x :: ds)).at k r := by
  unfold callME; rw [h]; dsimp only; rw [if_pos hl]; rfl
end DL

/-! DLaw: the draws, told once for all laws. -/
namespace DL
open PySem PySem.Spec PyProof.Rows L2
abbrev iL (L : List Int) : D := .lst true (L.map .int)
def b_draws : DL.Env → SR := (sSeq (sSet 1 (eLst aNil))
    (sSeq (sFor (iSq (eSh (getP 0))) (setG 2) (sSeq (sSet 5 (epCB dAbs (paCons (getP 2) paNil)))
    (sSeq (sIf (tUp (bP (pOp dLt (getP 5) (pOp dPow (pC (.int 10)) (pC (.int 18)))))) (sSeq (sSet 6 (eUp (pOp dMod (pCB dInt (paCons (pOp dAdd (pOp dMul (getP 5) (pC (.int 48271))) (pC (.int 11))) paNil)) (pC (.int 2147483647)))))
    (sSeq (sExpr (eApp 1 (eUp (pOp dMod (pCB dInt (paCons (pOp dAdd (pOp dMul (getP 6) (pC (.int 69621))) (getP 5)) paNil)) (pC (.int 2147483629))))))
    (sSeq (sExpr (eApp 1 (eUp (pOp dMod (pCB dInt (paCons (pOp dAdd (getP 6) (pOp dFdiv (getP 5) (pC (.int 7)))) paNil)) (pC (.int 1000003))))))
    (sSet 5 (eSh (pC (.int 0))))))) (.nx))
    (sFor (iR1 (aCons (eSh (pC (.int 60))) aNil)) (setG 4) (sIf (tUp (bP (pOp dGt (getP 5) (pC (.int 0))))) (sSeq (sExpr (eApp 1 (eUp (pOp dMod (pCB dInt (paCons (getP 5) paNil)) (pC (.int 997))))))
    (sSet 5 (eUp (pOp dFdiv (getP 5) (pC (.int 997)))))) (.nx))))))
    (sSeq (sSet 3 (eSh (pC (.int 1))))
    (sSeq (sIf (tUp (bP (pOp dGt (pCB dLen (paCons (getP 0) paNil)) (pC (.int 0))))) (sSet 3 (eUp (pOp dAdd (pC (.int 1)) (pCB dAbs (paCons (pIx (getP 0) (pC (.int 0))) paNil))))) (.nx))
    (sSeq (sFor (iR1 (aCons (eSh (pC (.int 900))) aNil)) (setG 4) (sSeq (sSet 3 (eUp (pOp dMod (pCB dInt (paCons (pOp dAdd (pOp dMul (getP 3) (pC (.int 48271))) (pC (.int 69621))) paNil)) (pC (.int 2147483647)))))
    (sExpr (eApp 1 (eUp (pOp dFdiv (getP 3) (pC (.int 5))))))))
    (sRet (eRev (eUp (getP 1)))))))))
def m_draws (ds : List D) : PR D := outP (b_draws (startE 7 ds))
def b_take : DL.Env → SR := (sSeq (sIf (tUp (bP (pOp dEq (pCB dLen (paCons (getP 0) paNil)) (pC (.int 0))))) (sRet (eSh (pC (.int 0)))) (.nx))
    (sRet (eOp dMod (eCB dInt (aCons (popE 0) aNil)) (eSh (getP 1)))))
def m_take (ds : List D) : MR := outM (b_take (startE 2 ds))

theorem take_ok {L : List Int} {b : Int} (hb : 0 < b) : ∃ (x : Int) (L' : List Int), m_take [iL L, .int b] = .ok (.int x) (iL L') ∧ 0 ≤ x ∧ x < b := by
  unfold m_take b_take iL
  rcases List.eq_nil_or_concat L with rfl | ⟨L', a, rfl⟩
  · refine ⟨0, [], ?_, by omega, hb⟩
    simp [sSeq_ap]
  · refine ⟨a % b, L', ?_, Int.emod_nonneg _ (by omega), Int.emod_lt_of_pos _ hb⟩
    have h0 : ¬ ((L'.length : Int) + 1 = 0) := by omega
    simp [hb, h0, sSeq_ap]
def DrI (ns : List Int) (m : Nat) (r : DL.Env) : Prop := ∃ (L : List Int) (x2 x3 x4 x5 x6 : Option D), L.length ≤ m ∧ r = [some (.scr ns), some (.lst true (L.map .int)), x2, x3, x4, x5, x6]
def DrJ (ns : List Int) (x2 x3 x6 : Option D) (m k : Nat) (r : DL.Env) : Prop := ∃ (L : List Int) (n : Int) (x4 : Option D), L.length ≤ m + (if n = 0 then 2 + k else k) ∧ 0 ≤ n ∧ r = [some (.scr ns), some (.lst true (L.map .int)), x2, x3, x4, some (.int n), x6]
def DrK (ns : List Int) (x2 x5 x6 : Option D) (m : Nat) (r : DL.Env) : Prop := ∃ (L : List Int) (n : Int) (x4 : Option D), L.length ≤ m ∧ r = [some (.scr ns), some (.lst true (L.map .int)), x2, some (.int n), x4, x5, x6]
theorem draws_in {ns : List Int} {j : Nat} {p : Po} (hj : j < 63) (L0 : List Int) (n : Int) (x2 x3 x4 x6 : Option D) (hL0 : L0.length ≤ 62 * j + (if n = 0 then 2 else 0)) (hn : 0 ≤ n) :
    (forL (setG 4) (sIf (tUp (bP (pOp dGt (getP 5) (pC (D.int 0)))))
              (sSeq (sExpr (eApp 1 (eUp (pOp dMod (pCB dInt (paCons (getP 5) paNil)) (pC (D.int 997))))))
                (sSet 5 (eUp (pOp dFdiv (getP 5) (pC (D.int 997)))))) SR.nx) (rgI 0 60) [some (D.scr ns), some (D.lst true (List.map D.int L0)), x2, x3, x4, some (D.int n), x6]).sat (p.turn (DrI ns (62 * (j + 1)))) := by
  refine sat_forR (DrJ ns x2 x3 x6 (62 * j)) ⟨L0, n, x4, by simpa using hL0, hn, rfl⟩ ?_ ?_
  · rintro k r hk ⟨L, n, x4, hL, hn, rfl⟩
    have h1 : L.length < 16777216 := by split at hL <;> omega
    simp [h1]
    refine ⟨fun hp => ⟨L ++ [n % 997], n / 997, _, ?_, Int.ediv_nonneg hn (by omega), by rw [List.map_append]; rfl⟩, fun hz => ⟨L, n, _, ?_, hn, rfl⟩⟩
    · rw [if_neg (by omega)] at hL
      rw [List.length_append, List.length_singleton]
      split <;> omega
    · split at hL <;> split <;> omega
  · rintro r ⟨L, n, x4, hL, hn, rfl⟩
    exact ⟨L, _, _, _, _, _, by split at hL <;> omega, rfl⟩
theorem draws_end {ns : List Int} (h : ns.length ≤ 63) (L : List Int) (hL : L.length ≤ 62 * ns.length) (n : Int) (x2 x4 x5 x6 : Option D) (m : Nat) (hm : m ≤ 1000) : (forL (setG 4)
            (sSeq
              (sSet 3
                (eUp
                  (pOp dMod
                    (pCB dInt (paCons (pOp dAdd (pOp dMul (getP 3) (pC (D.int 48271))) (pC (D.int 69621))) paNil))
                    (pC (D.int 2147483647)))))
              (sExpr (eApp 1 (eUp (pOp dFdiv (getP 3) (pC (D.int 5)))))))
            (rgI 0 m) [some (D.scr ns), some (D.lst true (List.map D.int L)), x2, some (D.int n), x4, x5, x6]).sat
        ((Po.ans fun d' x => ∃ L, d' = iL L).andd (sRet (eRev (eUp (getP 1))))) := by
  refine sat_forR (fun k => DrK ns x2 x5 x6 (62 * 63 + k)) ⟨L, n, x4, by omega, rfl⟩ ?_ ?_
  · rintro k r hk ⟨L, n, x4, hL, rfl⟩
    have h1 : L.length < 16777216 := by omega
    simp [h1]
    exact ⟨L ++ [(n * 48271 + 69621) % 2147483647 / 5], _, _, by rw [List.length_append, List.length_singleton]; omega, by rw [List.map_append]; rfl⟩
  · rintro r ⟨L, n, x4, hL, rfl⟩
    simp
    exact ⟨L.reverse, by rw [List.map_reverse]⟩
theorem draws_ok {ns : List Int} (h : ns.length ≤ 63) : ∃ L : List Int, m_draws [.scr ns] = .ok (iL L) := by
  suffices ∃ d, m_draws [.scr ns] = .ok d ∧ ∃ L, d = iL L by
    obtain ⟨d, e, L, rfl⟩ := this
    exact ⟨L, e⟩
  unfold m_draws b_draws
  refine outP_ex ?_
  simp [List.replicate]
  refine sat_forM (fun k => DrI ns (62 * k)) ⟨[], _, _, _, _, _, by simp, rfl⟩ ?_ ?_
  · rintro j a r hj ⟨L, x2, x3, x4, x5, x6, hL, rfl⟩
    have hj : j < ns.length := (List.getElem?_eq_some_iff.mp hj).1
    have h1 : L.length < 16777216 := by omega
    have h2 : L.length + 1 < 16777216 := by omega
    simp [h1, h2]
    refine ⟨fun _ => ?_, fun hb => draws_in (by omega) L _ _ _ _ _ (by omega) (by omega)⟩
    have e : ∀ (u v : Int), L.map D.int ++ [.int u, .int v] = (L ++ [u, v]).map D.int := fun u v => by rw [List.map_append]; rfl
    rw [e]
    refine draws_in ?_ _ _ _ _ _ _ ?_ ?_
    · omega
    · simp; omega
    · exact Int.le_refl _
  · rintro r ⟨L, x2, x3, x4, x5, x6, hL, rfl⟩
    simp
    refine ⟨fun hp => ?_, fun _ => draws_end h L hL _ _ _ _ _ _ (by decide)⟩
    obtain ⟨a, t, rfl⟩ : ∃ a t, ns = a :: t := by
      cases ns with
      | nil => simp at hp
      | cons a t => exact ⟨a, t, rfl⟩
    simp
    generalize 1 + (a.natAbs : Int) = n
    exact draws_end h L hL n x2 x4 x5 x6 900 (by decide)
end DL

/-! DEnd: the law's end, with the tables of the defs that hold generator expressions. -/
namespace DL
open PySem PySem.Spec PyProof.Rows L2
/-- a def's code object and its table, as the written part and the start of the law have them -/
structure CTab (K : PySem.W.Frag) (h : Heap) (c P : Addr) : Prop where
  hd : PySem.W.CodeHd h c P
  emp : h.get? P = some { cls := .none, data := .fields #[] }
  none : K.lookup P = none
/-- every def of the program has its table empty when the law is called -/
def Tabs (q : Program) (K : PySem.W.Frag) (h : Heap) : Prop := ∀ (d : DefRec) (x : Str) (c P : Addr), (recsOf q).find? (fun e => e.name == x) = some d → PySem.W.tabIn K x = some (c, P) → K.lookup P = none → CTab K h c P
theorem walk_tabs {l : PySem.W.OpenLaw} {n k : Nat} {q : Program} {loose : List Str} {XP : (Str → Option Value) → Heap → Prop} {YP : World → Heap → Prop} {dr : DefRec} {Kf : Params → PySem.W.Frag} {x : Str}
    (h1 : l.most = some n) (h2 : n ≤ sizeLine) (h3 : dr.params.defaults = []) (h4 : Room k callerA) (h5 : ∀ (w : World) (h : Heap), YP w h → (Kf w.params).In h)
    (main : ∀ (w : World) (mg : Str → Option Value) (fa : Addr) (h : Heap), (Kf w.params).In h → h.Ns mainGlobals mg → mg dr.name = some (.ref fa) → Tabs q (Kf w.params) h →
      ∃ (fd : FuncData) (cs : List (Addr × Addr)), (∀ p ∈ cs, CTab (Kf w.params) h p.1 p.2) ∧ (∀ (s : Shared) (v : Value), BindsTo s fd ⟨[v], []⟩ [(x, v)]) ∧
        ∀ base : Heap, (Kf w.params).In base → base.Ns mainGlobals mg → (∀ p ∈ cs, LamX.TabB base mg p.1 p.2) → FnOk l.prog w (Kf w.params) mg base (L2N.CX l.prog w) k fa fd [x] (spLaw (Kf w.params) (cs.map (·.2))))
    (hn63 : n ≤ 63) : PySem.W.WalkO q loose XP YP l.row.toRowW dr [] (fun f vs => PySem.call f vs) := by
  refine Att.attach_callB h1 h3 ?_
  intro w s₀ s₁ mg mb fa o pm cd doc a vs ns G Y ho hd hcd hmg hobj hints hlen hbits hg
  have KX := h5 w _ Y
  have tabs : Tabs q (Kf w.params) s₁.heap := fun d x c P e1 e2 e3 =>
    let z := PySem.W.tab_of G.T KX e1 e2
    ⟨z.1, z.2, e3⟩
  obtain ⟨fd, cs, ct, hb, F⟩ := main w mg fa _ KX G.T.g hmg tabs
  refine LamX.law_callTs (sp := spLaw (Kf w.params) (cs.map (·.2))) (CX := L2N.CX l.prog w) (fd := fd) KX G.T.g G.T.b G.T.builtins G.T.nolimit hg (fun p hp => (ct p hp).emp) (fun p hp => (ct p hp).none) (fun p hp => (ct p hp).hd) G.T.bmain hobj hints (Nat.le_trans hlen h2) h4 F hb (fun H hH hS => ?_) fun H e s' z => ?_
  · refine ⟨a, ns, rfl, Nat.le_trans hlen hn63, fun P hP => ?_, hS, fun _ => rfl⟩
    obtain ⟨p, hp, e⟩ := List.mem_map.mp hP
    rw [← e]
    exact hH p hp
  · obtain ⟨_, _, _, _, _, _, _, _, _, _, _, _, y⟩ := z
    exact y
theorem tabIn_of {K : PySem.W.Frag} {x : Str} {f c P : Addr} {oc e : Value} {od dd : Option Addr} {fd : FuncData} {sl sl2 : Array (Option Value)} {vs : Array Value} (a : PySem.W.nsIn K mainGlobals x = some (some (.ref f))) (l : K.lookup f = some ⟨oc, od, .func fd, sl⟩) (hc : fd.code = .ref c)
    (m : K.lookup c = some ⟨e, dd, .fields vs, sl2⟩) (v : vs[11]? = some (.ref P)) : PySem.W.tabIn K x = some (c, P) := by
  unfold PySem.W.tabIn
  simp only [a, l, hc, m, v]
end DL

/-! DGen: generator expressions: the frame, the turns, what a consumer may ask. -/
namespace DL
open PySem PySem.Spec PyProof.Rows L2 GenW
/-- the context of a generator expression's frame: entered at s (the frame is younger), the iterator's objects at fp -/
def gcx (X : Cx) (A : Around) (s : Shared) (H : Hp) (cenv : PySem.Env) (fp : List Addr) : Cx :=
  { X with A := A, s_0 := s, H_0 := H, env := cenv, outer := X.stack, stack := cenv :: X.stack, ex := fp, fn := fun _ => false, pn := [], xe := fun _ _ => False }
section
variable {X : Cx} {pins : List (Addr × Obj)} {σ : L2.St} {H : Hp} {s : Shared}
theorem gen_start {scope : Scope} {own : List (Str × Nat)} {fp : List Addr} {A' : Around} {cenv : PySem.Env} {code : Value} {m : Str → Option Value} {h' : PySem.Heap} {t' : Nat} {g' : Array GenState} (I : Inv X pins σ H s) (ok : BlkOk X.N X.env.scope scope own)
    (nc : ∀ y ∈ scope.names, y.2 ≠ .cell) (hN : X.N.Nodup) (hfp : ∀ b ∈ fp, FpOk X pins H b ∧ b < s.heap.objs.size) (hcenv : cenv = genEnv scope (cloFrom X.env.cells scope.names []) s.heap.objs.size code builtinsNs X.env)
    (hA : A'.handled = none) (hf : A'.frames = some (cenv :: X.stack)) (kp : ∀ b o, s.heap.get? b = some o → h'.get? b = some o) (hn : h'.Ns s.heap.objs.size m) (hg : AllBare g') :
    Inv (gcx X A' s H cenv fp) [] (wipe σ (own.map (·.2))) H { s with heap := h', toks := t', gens := g' } := by
  have hL : cenv.locals = s.heap.objs.size := by rw [hcenv]; rfl
  have hcl : cenv.cells = cloFrom X.env.cells scope.names [] := by rw [hcenv]; rfl
  have hsc : cenv.scope = scope := by rw [hcenv]; rfl
  have captured : ∀ y, (y, NameKind.free) ∈ scope.names → ∃ c, X.env.cells.lookup y = some c := fun y hy => (ok.free _ hy rfl).elim (fun z => I.ok.has _ (.inl z)) (fun z => I.ok.has _ (.inr z))
  have down : ∀ {y c}, cenv.cells.lookup y = some c → X.env.cells.lookup y = some c := fun {y c} e => by
    rw [hcl] at e
    rcases cloFrom_mem (PySem.mem_of_lookup e) with z | ⟨z, rfl⟩
    · cases z
    · obtain ⟨c, hc⟩ := captured y z
      rw [hc]; rfl
  have up : ∀ {y}, scope.names.lookup y = some .free → ∃ c, cenv.cells.lookup y = some c := fun {y} e => by
    rw [hcl]
    exact mem_lookup (cloFrom_has (cells := X.env.cells) (acc := []) (PySem.mem_of_lookup e))
  have small : ∀ {y c}, X.env.cells.lookup y = some c → c < s.heap.objs.size := fun {y c} e => by
    obtain ⟨v, z⟩ := I.cell y c e
    exact z.lt
  have okG : (gcx X A' s H cenv fp).Ok := by
    constructor
    case mod => exact I.ok.mod
    case kind => show cenv.scope.kind = _; rw [hsc]; exact ok.kind
    case glob => show cenv.globals = _; rw [hcenv]; exact I.ok.glob
    case blt => show cenv.builtins = _; rw [hcenv]; rfl
    case above => show s.heap.objs.size ≤ cenv.locals; rw [hL]; exact Nat.le_refl _
    case inj => exact fun x y c e1 e2 => I.ok.inj x y c (down e1) (down e2)
    case has =>
      intro y hy
      have hy : scope.names.lookup y = some .cell ∨ scope.names.lookup y = some .free := by
        have : cenv.kindOf y = scope.names.lookup y := by unfold PySem.Env.kindOf; rw [hsc]
        rw [← this]; exact hy
      rcases hy with hy | hy
      · exact absurd rfl (nc _ (PySem.mem_of_lookup hy))
      · exact up hy
    case cab => exact fun x c h => nomatch (show false = true from h)
    case hd => exact fun _ => hA
    case frames => exact hf
    case stk => exact .inr ⟨rfl, by show cenv.frame = some cenv.locals; rw [hcenv]; rfl⟩
    case exf =>
      intro b hb
      refine ⟨?_, fun x c e z => ?_⟩
      · show b ≠ cenv.locals
        rw [hL]; exact Nat.ne_of_lt (hfp b hb).2
      · exact (hfp b hb).1.2.2.2.2.1 x c (down e) z
    case bs => exact I.bs
    case bsz => exact Nat.le_trans I.ok.bsz I.sz
    case noex =>
      intro b o e hb
      rcases (hfp b hb).1.2.2.2.1 with z | z
      · exact I.ok.noex b o e z
      · exact absurd (Nat.lt_of_lt_of_le (Heap.lt_size e) (Nat.le_trans I.ok.bsz z)) (Nat.lt_irrefl _)
    case exfs =>
      intro b hb z
      rcases List.mem_cons.mp (I.stkSub b z) with q | q
      · exact (hfp b hb).1.2.1 q
      · exact (hfp b hb).1.2.2.1 q
    case funs => exact I.stack
    case frf => exact I.stkFree
  constructor
  case ok => exact okG
  case os => rfl
  case bare => exact hg
  case base => exact Un.kept kp
  case loc =>
    refine ⟨m, by show h'.Ns cenv.locals m; rw [hL]; exact hn, fun i y av e1 e2 e3 => ?_⟩
    obtain ⟨e2, hne⟩ := wipe_some e2
    have e3 : Vis cenv.scope y := e3
    rw [hsc] at e3
    rcases e3 with e3 | e3 | e3
    · exfalso
      rcases ok.own _ (PySem.mem_of_lookup e3) (.inl rfl) with z | z
      · obtain ⟨p, hp, hpy⟩ := List.mem_map.mp z
        have e4 := ok.ix p hp
        have hpy : p.1 = y := hpy
        rw [hpy] at e4
        exact hne (List.mem_map.mpr ⟨p, hp, nodup_ix hN e4 e1⟩)
      · exact z (List.mem_of_getElem? e1)
    · exact absurd rfl (nc _ (PySem.mem_of_lookup e3))
    · have hx := ok.free _ (PySem.mem_of_lookup e3) rfl
      obtain ⟨m0, _, hl⟩ := I.loc
      obtain ⟨u, r, q⟩ := hl i y av e1 e2 (hx.elim (fun z => .inr (.inl z)) fun z => .inr (.inr z))
      refine ⟨u, r, .inr ⟨.inr ?_, ?_⟩⟩
      · show cenv.kindOf y = some .free
        unfold PySem.Env.kindOf
        rw [hsc]; exact e3
      obtain ⟨c, hc⟩ := up e3
      refine ⟨c, hc, ?_⟩
      rcases q with ⟨k, _⟩ | ⟨_, c', e', z⟩
      · have k : X.env.scope.names.lookup y = some .local := k
        rcases hx with k' | k' <;> rw [show X.env.scope.names.lookup y = _ from k'] at k <;> cases k
      · rw [down hc] at e'
        cases e'
        exact z.keeps kp
  case cell =>
    intro y c e
    obtain ⟨v, z⟩ := I.cell y c (down e)
    exact ⟨v, z.keeps kp⟩
  case free => show H cenv.locals = none; rw [hL]; exact I.hok.fresh (Nat.le_refl _)
  case freeC => exact fun y c e => I.freeC y c (down e)
  case pin => exact fun p hp => absurd (show p ∈ ([] : List (Addr × Obj)) ++ [] from hp) (by simp)
  case hok => exact I.hok.kept kp
  case len => rw [wipe_length]; exact I.len
end
/-- the turns of a generator expression: W at the head of a turn (with a measure), Yl at an item that goes out, Dn at the end -/
structure GTurns (J : It) (g : TG) (tt : TT) (te : TE) (σ0 : L2.St) (vs : List Nat) (W : Nat → Nat → Hp → Prop) (Yl : Nat → Nat → V → Hp → Prop) (Dn : Hp → Prop) : Prop where
  turn : ∀ i m H, W i m H → (J.stop i H ∧ Dn H) ∨ (J.go i H ∧ 0 < m ∧ ∀ x H', J.yld i H x H' → g x σ0 H' fun σ2 H2 => wipe σ2 vs = σ0 ∧ tt σ2 H2 fun b H3 =>
    if b = true then te σ2 H3 fun y H4 => Yl (i + 1) m y H4 else ∃ m', m' < m ∧ W (i + 1) m' H3)
section
variable {X : Cx} {A : Around} {s3 : Shared} {H3 : Hp} {cenv : PySem.Env} {fp : List Addr}
/-- asleep, or about to start: all that the frame keeps -/
structure GAt (G : Cx) (pl : List (Addr × Obj)) (σ0 : L2.St) (tn : Nat → PySem.Heap → Prop) (fp : List Addr) (i : Nat) (H : Hp) (s : Shared) : Prop where
  inv : Inv G pl σ0 H s
  tn : tn i s.heap
  fn : ∀ b ∈ fp, H b = none
def GF (G : Cx) (pl : List (Addr × Obj)) (σ0 : L2.St) (Dn : Hp → Prop) : Nat → Shared → Shared → Prop := fun _ _ s1 => ∃ H, Inv G pl σ0 H s1 ∧ Dn H
def GR' (F : Nat → Shared → Shared → Prop) : GenEnd := fun n s₀ r s₁ => ((r = .ok (.ret .none) ∨ r = .ok .next) ∧ F n s₀ s₁) ∨ ∃ e, r = .error e ∧ (fun (_ : Value) (_ : Shared) => False) e s₁
def GYp (G : Cx) (pl : List (Addr × Obj)) (σ0 : L2.St) (tn : Nat → PySem.Heap → Prop) (fp : List Addr) (W : Nat → Nat → Hp → Prop) (Yl : Nat → Nat → V → Hp → Prop) : Protocol := fun n _ v s kap =>
  ∃ i m y H, m ≤ n + 1 ∧ RelV y v ∧ GAt G pl σ0 tn fp i H s ∧ Yl i m y H ∧ ∀ s'' m', m' < m → m' ≤ n → W i m' H → GAt G pl σ0 tn fp i H s'' → kap (.send .none) s''
theorem seg_bw {M : Model} {B A' : Around} {R : GenEnd} {Y : Protocol} {n : Nat} {s₀ : Shared} {c : Code} {fs : List Frame} {s : Shared} {α β : Type} {m : Sem α} {K : α → Sem β} {K' : β → Sem PySem.Fin} {H' : Value → Sem PySem.Fin} {gd lv} (hB : B.over c fs = A')
    (h : wpAny M A' m (fun a s' => Seg M B R Y n s₀ c ((K a).wrap K' H' gd lv) fs s') (fun x s' => Seg M B R Y n s₀ c (H' x) fs s') s) : Seg M B R Y n s₀ c ((m >>= K).wrap K' H' gd lv) fs s := by
  subst hB
  exact seg_bind_wrap h
theorem seg_w {M : Model} {B A' : Around} {R : GenEnd} {Y : Protocol} {n : Nat} {s₀ : Shared} {c : Code} {fs : List Frame} {s : Shared} {α : Type} {m : Sem α} {K : α → Sem PySem.Fin} {H' : Value → Sem PySem.Fin} {gd lv} (hB : B.over c fs = A')
    (h : wpAny M A' m (fun a s' => Seg M B R Y n s₀ c (K a) fs s') (fun x s' => Seg M B R Y n s₀ c (H' x) fs s') s) : Seg M B R Y n s₀ c (m.wrap K H' gd lv) fs s := by
  subst hB
  exact seg_wrap h
theorem seg_gloop {elt tg iter : Expr} {ifs : List Expr} {scope : Scope} {pos : Pos} {it : Addr} {tn : Nat → PySem.Heap → Prop} {J : It} {g : TG} {tt : TT} {te : TE} {σ0 : L2.St} {vs : List Nat} {W : Nat → Nat → Hp → Prop} {Yl : Nat → Nat → V → Hp → Prop} {Dn : Hp → Prop} {pl : List (Addr × Obj)} {B : Around}
    (hc : X.calm = true) (T : Turn X.prog X.w X.K tg J fp it tn) (pg : PG (gcx X A s3 H3 cenv fp) tg g) (pt : PTs (gcx X A s3 H3 cenv fp) ifs tt) (pe : PE (gcx X A s3 H3 cenv fp) elt te) (ht : GTurns J g tt te σ0 vs W Yl Dn)
    (hB : B.over (.compLoop (.GeneratorExp elt [⟨tg, iter, ifs, 0⟩] scope pos) 0 (.ref it) .none cenv) [] = A) (co : cenv.scope.isCoroutine = false) (hpl : ∀ p ∈ pl, ∀ b ∈ fp, p.1 ≠ b) (hw : ∀ σ' : L2.St, wipe σ' vs = σ0 → σ0.length = σ'.length ∧ ∀ (j : Nat) v, σ0[j]? = some (some v) → σ'[j]? = some (some v)) :
    ∀ (m n i : Nat) (H : Hp) (s s₀ : Shared), m ≤ n → W i m H → GAt (gcx X A s3 H3 cenv fp) pl σ0 tn fp i H s →
      Seg (model X.prog X.w) B (GR' (GF (gcx X A s3 H3 cenv fp) pl σ0 Dn)) (GYp (gcx X A s3 H3 cenv fp) pl σ0 tn fp W Yl) n s₀ (.compLoop (.GeneratorExp elt [⟨tg, iter, ifs, 0⟩] scope pos) 0 (.ref it) .none cenv)
        ((model X.prog X.w).den (.compLoop (.GeneratorExp elt [⟨tg, iter, ifs, 0⟩] scope pos) 0 (.ref it) .none cenv)) [] s := by
  intro m
  induction m using Nat.strongRecOn with
  | ind m ih =>
    intro n i H s s₀ hmn hW ga
    have stat : ∀ {σ' : L2.St} {H' : Hp} {s' : Shared}, Inv (gcx X A s3 H3 cenv fp) pl σ' H' s' → (∀ b ∈ fp, H' b = none) → ∀ b ∈ fp, FpOk (gcx X A s3 H3 cenv fp) pl H' b := fun I' hn b hb =>
      ⟨hn b hb, (I'.ok.exf b hb).1, I'.ok.exfs b hb, .inl hb, fun x c e => (I'.ok.exf b hb).2 x c e, fun p hp => hpl p (by simpa [gcx] using hp) b hb⟩
    show Seg _ B _ _ _ s₀ _ ((compTurn (.GeneratorExp elt [⟨tg, iter, ifs, 0⟩] scope pos) 0 (.ref it) .none cenv).onRaise (leaving cenv)) [] s
    rw [compTurn_gen, Sem.onRaise_eq_wrap]
    refine seg_bind_wrap (wpAny_standAt ?_)
    rcases ht.turn i m H hW with ⟨stop, dn⟩ | ⟨go, hm0, step⟩
    · have td := T.done (gcx X A s3 H3 cenv fp) rfl rfl rfl hc i pl s σ0 H (fun _ _ => False) ga.inv (stat ga.inv ga.fn) ga.tn stop
      refine seg_bw hB (thnF td fun r s6 ⟨hr, I6⟩ => ?_)
      subst hr
      exact seg_end (.ok .next) (.inl ⟨.inr rfl, H, I6, dn⟩)
    · have ti := T.item (gcx X A s3 H3 cenv fp) rfl rfl rfl hc i pl s σ0 H (fun _ _ => False) ga.inv (stat ga.inv ga.fn) ga.tn go
      refine seg_bw hB (thnF ti fun r s6 ⟨u, hr, h6⟩ => ?_)
      subst hr
      refine seg_bw hB (thnF h6 fun _ s7 ⟨x, H7, I7, r7, y7, st7, n7⟩ => ?_)
      have I7' := I7.pinned (stat I7 n7) (T.obj _ _ st7)
      have pgr := pg.run _ s7 _ H7 x u _ I7' r7 (step x H7 y7)
      refine seg_bw hB (thnF pgr fun _ s8 ⟨σ8, H8, I8, hw8, q8⟩ => ?_)
      have ptr := pt.run _ s8 σ8 H8 _ I8 q8
      refine seg_bw hB (thnF ptr fun b s9 ⟨H9, I9, q9⟩ => ?_)
      have fin : ∀ {s' : Shared} {H' : Hp}, Inv (gcx X A s3 H3 cenv fp) (pl ++ pinsAt fp s7.heap) σ8 H' s' → GAt (gcx X A s3 H3 cenv fp) pl σ0 tn fp (i + 1) H' s' := fun {s' H'} I' => by
        have pin' : ∀ b ∈ fp, ∀ o, s7.heap.get? b = some o → s'.heap.get? b = some o ∧ H' b = none := fun b hb o e =>
          let z := I'.pin (b, o) (List.mem_append_right _ (List.mem_append_right _ (mem_pinsAt hb e)))
          ⟨z.1, z.2.1⟩
        obtain ⟨hl, hv⟩ := hw σ8 hw8
        refine ⟨(I'.unpinned (pins := pl)).weak hl hv, T.keep _ _ _ st7 fun b hb o e => (pin' b hb o e).1, fun b hb => ?_⟩
        obtain ⟨o, e, _⟩ := T.obj _ _ st7 b hb
        exact (pin' b hb o e).2
      cases b with
      | false =>
        simp only [Bool.false_eq_true, if_false] at q9 ⊢
        obtain ⟨m', hm', w'⟩ := q9
        exact seg_again rfl (ih m' hm' n (i + 1) H9 _ _ (by omega) w' (fin I9))
      | true =>
        simp only [if_true] at q9 ⊢
        obtain ⟨n', rfl⟩ : ∃ n', n = n' + 1 := ⟨n - 1, by omega⟩
        have hy : ∀ v, yieldOut cenv v = yieldValue v := fun v => by simp only [yieldOut, co, Bool.false_eq_true, if_false]
        simp only [hy]
        rw [Sem.bind_eq_wrap', Sem.bind_eq_wrap', Sem.wrap_wrap, Sem.wrap_wrap]
        have per := pe.run _ s9 σ8 H9 _ I9 q9
        refine seg_w hB (thnF per fun z s10 ⟨yv, H10, I10, r10, yl⟩ => ?_)
        refine seg_at (seg_yield rfl rfl rfl ⟨i + 1, m, yv, H10, hmn, r10, fin I10, yl, fun s'' m' hm' hn' w' ga' => ?_⟩)
        exact seg_again rfl (ih m' hm' n' (i + 1) H10 _ _ hn' w' ga')
end
end DL

/-! DGen2: a generator expression starts, goes on, is asked by all and any. -/
namespace DL
open PySem PySem.Spec PyProof.Rows L2 GenW
section
variable {X : Cx} {A : Around} {s3 : Shared} {H3 : Hp} {cenv : PySem.Env} {fp : List Addr}
  {elt tg iter : Expr} {ifs : List Expr} {scope : Scope} {pos : Pos} {it : Addr} {tn : Nat → PySem.Heap → Prop} {J : It} {g : TG} {tt : TT} {te : TE} {σ0 : L2.St} {vs : List Nat} {W : Nat → Nat → Hp → Prop} {Yl : Nat → Nat → V → Hp → Prop} {Dn : Hp → Prop} {pl : List (Addr × Obj)} {B : Around}
theorem seg_gstart (T : Turn X.prog X.w X.K tg J fp it tn)
    (loop : ∀ (m n i : Nat) (H : Hp) (s s₀ : Shared), m ≤ n → W i m H → GAt (gcx X A s3 H3 cenv fp) pl σ0 tn fp i H s →
      Seg (model X.prog X.w) B (GR' (GF (gcx X A s3 H3 cenv fp) pl σ0 Dn)) (GYp (gcx X A s3 H3 cenv fp) pl σ0 tn fp W Yl) n s₀ (.compLoop (.GeneratorExp elt [⟨tg, iter, ifs, 0⟩] scope pos) 0 (.ref it) .none cenv)
        ((model X.prog X.w).den (.compLoop (.GeneratorExp elt [⟨tg, iter, ifs, 0⟩] scope pos) 0 (.ref it) .none cenv)) [] s)
    {m n : Nat} {H : Hp} {s s₀ : Shared} (hmn : m ≤ n) (hW : W 0 m H) (ga : GAt (gcx X A s3 H3 cenv fp) pl σ0 tn fp 0 H s) :
    Seg (model X.prog X.w) B (GR' (GF (gcx X A s3 H3 cenv fp) pl σ0 Dn)) (GYp (gcx X A s3 H3 cenv fp) pl σ0 tn fp W Yl) n s₀ (.compStart (.GeneratorExp elt [⟨tg, iter, ifs, 0⟩] scope pos) 0 (.ref it) .none cenv)
      ((model X.prog X.w).den (.compStart (.GeneratorExp elt [⟨tg, iter, ifs, 0⟩] scope pos) 0 (.ref it) .none cenv)) [] s := by
  have lp := seg_again (c := .compStart (.GeneratorExp elt [⟨tg, iter, ifs, 0⟩] scope pos) 0 (.ref it) .none cenv) rfl (loop m n 0 H s s₀ hmn hW ga)
  show Seg _ B _ _ _ s₀ _ ((compStart (.GeneratorExp elt [⟨tg, iter, ifs, 0⟩] scope pos) 0 (.ref it) .none cenv).onRaise (leaving cenv)) [] s
  unfold compStart
  rw [Sem.onRaise_eq_wrap]
  show Seg _ B _ _ _ s₀ _ ((ask >>= _).wrap _ _ _ _) [] s
  refine (seg_bind_wrap (wpAny_askSetting ?_))
  split
  · exact lp
  · first
      | exact (seg_bind_wrap (wpAny_rule (seg_bind_wrap (wpAny_standAt (seg_bind_wrap (T.self _ 0 s _ _ ga.tn lp))))))
      | (refine (seg_bind_wrap (wpAny_rule ?_)); show Seg _ B _ _ _ s₀ _ ((standAt iter.pos >>= _).wrap _ _ _ _) [] s; exact (seg_bind_wrap (wpAny_standAt (seg_bind_wrap (T.self _ 0 s _ _ ga.tn lp)))))
/-- the generator object -/
def gobj (gi : Nat) (nm qn : Value) : Obj := { cls := .type "generator", data := .fields #[.int gi 0, nm, qn] }
/-- ready for the next asking -/
structure GRdy (G : Cx) (B : Around) (pl : List (Addr × Obj)) (σ0 : L2.St) (tn : Nat → PySem.Heap → Prop) (fp : List Addr) (gi : Nat) (W : Nat → Nat → Hp → Prop) (Yl : Nat → Nat → V → Hp → Prop) (Dn : Hp → Prop) (k : Nat) (s : Shared) : Prop where
  ex : ∃ i H m gs, m ≤ k ∧ W i m H ∧ GAt G pl σ0 tn fp i H s ∧ s.gens[gi]? = some gs ∧ ∀ s'', GAt G pl σ0 tn fp i H s'' → gs.Goes (model G.prog G.w) B (GR' (GF G pl σ0 Dn)) (GYp G pl σ0 tn fp W Yl) k (.send .none) s''
theorem GAt.set {G : Cx} {i gi : Nat} {H : Hp} {s : Shared} {x : GenState} (h : GAt G pl σ0 tn fp i H s) (hx : x.bare = true) : GAt G pl σ0 tn fp i H (s.setGen gi x) :=
  ⟨⟨h.inv.ok, h.inv.os, allBare_setGen h.inv.bare hx, h.inv.base, h.inv.loc, h.inv.cell, h.inv.free, h.inv.freeC, h.inv.pin, h.inv.hok, h.inv.len⟩, h.tn, h.fn⟩
/-- what the asker gets -/
def GGot (G : Cx) (B : Around) (pl : List (Addr × Obj)) (σ0 : L2.St) (tn : Nat → PySem.Heap → Prop) (fp : List Addr) (gi : Nat) (W : Nat → Nat → Hp → Prop) (Yl : Nat → Nat → V → Hp → Prop) (Dn : Hp → Prop) (k : Nat) (r : Option Value) (s : Shared) : Prop := match r with
  | none => ∃ H, Inv G pl σ0 H s ∧ Dn H
  | some v => ∃ i m1 y H, RelV y v ∧ Inv G pl σ0 H s ∧ Yl i m1 y H ∧ ∀ m', m' < m1 → W i m' H → ∃ k', k = k' + 1 ∧ GRdy G B pl σ0 tn fp gi W Yl Dn k' s
theorem next_gx {G : Cx} {C : Around} {a : Addr} {gi k : Nat} {nm qn : Value} {s : Shared} {E : Value → Shared → Prop} (hh : C.handled = none) (hd : C.depth < recursionLimit) (hp : (a, gobj gi nm qn) ∈ pl) (hnm : ∃ x t y t', nm = .str x t ∧ qn = .str y t')
    (h : GRdy G C.in1 pl σ0 tn fp gi W Yl Dn k s) : wpAny (model G.prog G.w) C (pyNext (.ref a)) (GGot G C.in1 pl σ0 tn fp gi W Yl Dn k) E s := by
  obtain ⟨i, H, m, gs, hmk, hW, ga, hgs, hgo⟩ := h.ex
  have hg : s.heap.IsGen a gi := ⟨_, nm, qn, (ga.inv.pin _ (List.mem_append_right _ hp)).1, rfl, rfl, rfl⟩
  have hlt : gi < s.gens.size := (Array.getElem?_eq_some_iff.mp hgs).1
  refine wpAny_gsz (n := gi + 1) hlt ?_
  refine next_genG (F := GF G pl σ0 Dn) (Er := fun _ _ => False) (Y := GYp G pl σ0 tn fp W Yl) (n := k) hh ga.inv.nolimit hd hg hgs (hgo _ (ga.set rfl)) (fun v s₁ gs' hb hv => ?_) (fun s₁ hF h' kp => ?_) fun e s₁ z => z.elim
  · intro hsz
    obtain ⟨i1, m1, y, H1, hm1, rv, ga1, yl, kap⟩ := hv
    refine ⟨i1, m1, y, H1, rv, (ga1.set hb).inv, yl, fun m' hm' w' => ?_⟩
    cases k with
    | zero => exact (kap _ m' hm' (by omega) w' ga1).elim
    | succ k =>
      refine ⟨k, rfl, i1, H1, m', gs', by omega, w', ga1.set hb, ?_, fun s'' ga'' => kap s'' m' hm' (by simp only [Nat.add_sub_cancel] at hm1 ⊢; omega) w' ga''⟩
      refine setGen_at ?_
      have q : (s₁.setGen gi gs').gens.size = s₁.gens.size := setGen_size _ _ _
      have hsz : gi + 1 ≤ (s₁.setGen gi gs').gens.size := hsz
      omega
  · intro _
    obtain ⟨H1, I1, dn⟩ := hF
    have I2 : Inv G pl σ0 H1 (s₁.setGen gi .finished) := ⟨I1.ok, I1.os, allBare_setGen I1.bare rfl, I1.base, I1.loc, I1.cell, I1.free, I1.freeC, I1.pin, I1.hok, I1.len⟩
    exact ⟨H1, I2.kept (t' := s₁.toks) kp, dn⟩
/-- all(..): the answer b is borne by Qd -/
theorem all_loop {G : Cx} {C : Around} {a : Addr} {gi : Nat} {nm qn : Value} {Qd : Bool → Hp → Prop} {R : Result → Shared → Prop} (hh : C.handled = none) (hd : C.depth < recursionLimit) (hp : (a, gobj gi nm qn) ∈ pl) (hnm : ∃ x t y t', nm = .str x t ∧ qn = .str y t')
    (hy : ∀ i m1 y H, Yl i m1 y H → ∃ b, y = .bl b ∧ (b = true → ∃ m', m' < m1 ∧ W i m' H) ∧ (b = false → Qd false H)) (hD : ∀ H, Dn H → Qd true H) (hR : ∀ b H s', Inv G pl σ0 H s' → Qd b H → R (.ok (.ret (.bool b))) s') :
    ∀ (k : Nat) (s : Shared), GRdy G C.in1.in1 pl σ0 tn fp gi W Yl Dn k s → codeAny (model G.prog G.w) C (.builtin "all.loop" ⟨[.ref a], []⟩) R s := by
  intro k
  induction k with
  | zero =>
    intro s h
    refine (codeAny_builtin F.entry_all_loop ?_)
    rw [(Around.under_plainId F.plain_all_loop _)]
    show wpAny _ C.in1 ((pyNext (.ref a)) >>= _) _ _ s
    refine wpAny_bind (wpAny_mono (next_gx (C := C.in1) hh hd hp hnm h) (fun r s1 got => ?_) fun _ _ z => z)
    cases r with
    | none =>
      obtain ⟨H, I, dn⟩ := got
      exact wpAny_bind (wpAny_rule (wpAny_pure (hR true H s1 I (hD H dn))))
    | some v =>
      obtain ⟨i, m1, y, H, rv, I, yl, go⟩ := got
      obtain ⟨b, rfl, h1, h2⟩ := hy i m1 y H yl
      obtain rfl : v = .bool b := rv
      cases b with
      | true =>
        obtain ⟨m', hm', w'⟩ := h1 rfl
        obtain ⟨k', e, _⟩ := go m' hm' w'
        omega
      | false =>
        refine wpAny_bind (wpAny_holding (wpAny_truthy_bool ?_))
        refine wpAny_bind (wpAny_letGo ?_)
        simp only [Bool.false_eq_true, if_false]
        exact wpAny_bind (wpAny_rule (wpAny_pure (hR false H s1 I (h2 rfl))))
  | succ k ih =>
    intro s h
    refine (codeAny_builtin F.entry_all_loop ?_)
    rw [(Around.under_plainId F.plain_all_loop _)]
    show wpAny _ C.in1 ((pyNext (.ref a)) >>= _) _ _ s
    refine wpAny_bind (wpAny_mono (next_gx (C := C.in1) hh hd hp hnm h) (fun r s1 got => ?_) fun _ _ z => z)
    cases r with
    | none =>
      obtain ⟨H, I, dn⟩ := got
      exact wpAny_bind (wpAny_rule (wpAny_pure (hR true H s1 I (hD H dn))))
    | some v =>
      obtain ⟨i, m1, y, H, rv, I, yl, go⟩ := got
      obtain ⟨b, rfl, h1, h2⟩ := hy i m1 y H yl
      obtain rfl : v = .bool b := rv
      refine wpAny_bind (wpAny_holding (wpAny_truthy_bool ?_))
      refine wpAny_bind (wpAny_letGo ?_)
      cases b with
      | true =>
        obtain ⟨m', hm', w'⟩ := h1 rfl
        obtain ⟨k', e, rdy⟩ := go m' hm' w'
        obtain rfl : k = k' := by omega
        simp only [if_true]
        exact wpAny_pure ⟨plainId_quiet F.plain_all_loop _, ih s1 rdy⟩
      | false =>
        simp only [Bool.false_eq_true, if_false]
        exact wpAny_bind (wpAny_rule (wpAny_pure (hR false H s1 I (h2 rfl))))
/-- any(..) -/
theorem any_loop {G : Cx} {C : Around} {a : Addr} {gi : Nat} {nm qn : Value} {Qd : Bool → Hp → Prop} {R : Result → Shared → Prop} (hh : C.handled = none) (hd : C.depth < recursionLimit) (hp : (a, gobj gi nm qn) ∈ pl) (hnm : ∃ x t y t', nm = .str x t ∧ qn = .str y t')
    (hy : ∀ i m1 y H, Yl i m1 y H → ∃ b, y = .bl b ∧ (b = false → ∃ m', m' < m1 ∧ W i m' H) ∧ (b = true → Qd true H)) (hD : ∀ H, Dn H → Qd false H) (hR : ∀ b H s', Inv G pl σ0 H s' → Qd b H → R (.ok (.ret (.bool b))) s') :
    ∀ (k : Nat) (s : Shared), GRdy G C.in1.in1 pl σ0 tn fp gi W Yl Dn k s → codeAny (model G.prog G.w) C (.builtin "any.loop" ⟨[.ref a], []⟩) R s := by
  intro k
  induction k with
  | zero =>
    intro s h
    refine (codeAny_builtin F.entry_any_loop ?_)
    rw [(Around.under_plainId F.plain_any_loop _)]
    show wpAny _ C.in1 ((pyNext (.ref a)) >>= _) _ _ s
    refine wpAny_bind (wpAny_mono (next_gx (C := C.in1) hh hd hp hnm h) (fun r s1 got => ?_) fun _ _ z => z)
    cases r with
    | none =>
      obtain ⟨H, I, dn⟩ := got
      exact wpAny_bind (wpAny_rule (wpAny_pure (hR false H s1 I (hD H dn))))
    | some v =>
      obtain ⟨i, m1, y, H, rv, I, yl, go⟩ := got
      obtain ⟨b, rfl, h1, h2⟩ := hy i m1 y H yl
      obtain rfl : v = .bool b := rv
      cases b with
      | false =>
        obtain ⟨m', hm', w'⟩ := h1 rfl
        obtain ⟨k', e, _⟩ := go m' hm' w'
        omega
      | true =>
        refine wpAny_bind (wpAny_holding (wpAny_truthy_bool ?_))
        refine wpAny_bind (wpAny_letGo ?_)
        simp only [if_true]
        exact wpAny_bind (wpAny_rule (wpAny_pure (hR true H s1 I (h2 rfl))))
  | succ k ih =>
    intro s h
    refine (codeAny_builtin F.entry_any_loop ?_)
    rw [(Around.under_plainId F.plain_any_loop _)]
    show wpAny _ C.in1 ((pyNext (.ref a)) >>= _) _ _ s
    refine wpAny_bind (wpAny_mono (next_gx (C := C.in1) hh hd hp hnm h) (fun r s1 got => ?_) fun _ _ z => z)
    cases r with
    | none =>
      obtain ⟨H, I, dn⟩ := got
      exact wpAny_bind (wpAny_rule (wpAny_pure (hR false H s1 I (hD H dn))))
    | some v =>
      obtain ⟨i, m1, y, H, rv, I, yl, go⟩ := got
      obtain ⟨b, rfl, h1, h2⟩ := hy i m1 y H yl
      obtain rfl : v = .bool b := rv
      refine wpAny_bind (wpAny_holding (wpAny_truthy_bool ?_))
      refine wpAny_bind (wpAny_letGo ?_)
      cases b with
      | false =>
        obtain ⟨m', hm', w'⟩ := h1 rfl
        obtain ⟨k', e, rdy⟩ := go m' hm' w'
        obtain rfl : k = k' := by omega
        simp only [Bool.false_eq_true, if_false]
        exact wpAny_pure ⟨plainId_quiet F.plain_any_loop _, ih s1 rdy⟩
      | true =>
        simp only [if_true]
        exact wpAny_bind (wpAny_rule (wpAny_pure (hR true H s1 I (h2 rfl))))
end
end DL

/-! DGen3: a generator expression is made; all and any of one. -/
namespace DL
open PySem PySem.Spec PyProof.Rows L2 GenW
theorem over_gen {A : Around} {elt tg iter : Expr} {ifs : List Expr} {scope : Scope} {pos : Pos} {it acc : Value} {env : PySem.Env} : A.over (.compLoop (.GeneratorExp elt [⟨tg, iter, ifs, 0⟩] scope pos) 0 it acc env) [] = A.deeper env := by
  first
    | rfl
    | (obtain ⟨hd, d, fr, gs, u⟩ := A
       simp [Around.over, Around.deeper, marksOver, frameCount, unitsOf, envsOf, guardsOf, pushEnvs, pushGuards, Code.envs, Code.env?, Code.isFrame, Code.guards, Code.isGuard, Code.weight, Code.frames, Code.isCreation, Code.isCaller, Code.cUnits])
section
variable {X : Cx} {pins : List (Addr × Obj)} {σ : L2.St} {H : Hp} {s : Shared} {elt tg iter : Expr} {ifs : List Expr} {scope : Scope} {gpos : Pos} {own : List (Str × Nat)} {c P : Addr} {wi : TI}
/-- a generator expression stands: its frame is not yet entered -/
structure Made (X : Cx) (pins : List (Addr × Obj)) (σ : L2.St) (elt tg iter : Expr) (ifs : List Expr) (scope : Scope) (gpos : Pos) (vs : List Nat) (J : It) (H4 : Hp) (a : Addr) (s5 : Shared) : Prop where
  ex : ∃ (it : Addr) (fp : List Addr) (tn : Nat → PySem.Heap → Prop) (s4 : Shared) (cl : List (Str × Addr)) (C : Addr) (code : Value) (gi : Nat) (nm qn : Value),
    Turn X.prog X.w X.K tg J fp it tn ∧ (∀ b ∈ fp, FpOk X pins H4 b ∧ b < s4.heap.objs.size) ∧ Inv X pins σ H4 s4 ∧ (∃ x t y t', nm = .str x t ∧ qn = .str y t') ∧ (∀ b ∈ fp, a ≠ b) ∧
    (let cenv := genEnv scope cl C code builtinsNs X.env
     GAt (gcx X (X.A.in1.in1.deeper cenv) s4 H4 cenv fp) [(a, gobj gi nm qn)] (wipe σ vs) tn fp 0 H4 s5 ∧ s5.gens[gi]? = some (.fresh (.compStart (.GeneratorExp elt [⟨tg, iter, ifs, 0⟩] scope gpos) 0 (.ref it) .none cenv)))
theorem gx_make {k : Nat} {Q' : Value → Shared → Prop} {RR : It → Hp → Prop} (hr : Room k X.A) (TB : LamX.TabB X.base X.mg c P) (hcode : X.env.code = .ref c) (ok : BlkOk X.N X.env.scope scope own) (nc : ∀ y ∈ scope.names, y.2 ≠ .cell) (hN : X.N.Nodup) (co : scope.isCoroutine = false)
    (dot : scope.names.lookup (".0" : Str) = some NameKind.local) (hi : PI X tg iter wi) (hs : ∀ v, genFold iter X.env v = pure v) (I : Inv X pins σ H s) (h : wi σ H fun J H1 => TabG H1 P ∧ ∀ H4, TabG H4 P → (∀ b, b ≠ P → H4 b = H1 b) → RR J H4)
    (hQ : ∀ J H4 a s5, RR J H4 → Made X pins σ elt tg iter ifs scope gpos (own.map (·.2)) J H4 a s5 → Q' (.ref a) s5) : wpAny (model X.prog X.w) X.A (eval (.GeneratorExp elt [⟨tg, iter, ifs, 0⟩] scope gpos) X.env) Q' X.xe s := by
  have captured : ∀ y ∈ scope.names, y.2 = .free → ∃ c, X.env.cells.lookup y.1 = some c := fun y hy e => (ok.free y hy e).elim (fun z => I.ok.has _ (.inl z)) (fun z => I.ok.has _ (.inr z))
  refine wpAny_GeneratorExp_make co (closure_ok captured) nc dot ok.kind (by have := hr.dp; omega) ?_ hs
  refine (thn (hi.run pins s σ H _ I h) fun xv s1 hx => thn hx fun itv s2 h2 => ?_)
  obtain ⟨it, fp, tn, J, H2, rfl, I2, T, st2, f2, ⟨ps, hP, htr⟩, rr⟩ := h2
  have hPs : s2.heap.get? P = some { cls := .none, data := .fields ps } := I2.hok P _ hP
  have cd : PySem.W.CodeHd s2.heap c P := TB.code.keeps fun b u e => I2.bk b u e
  refine ⟨I2.nolimit, ?_⟩
  have sz : ∀ b ∈ fp, b < s2.heap.objs.size := fun b hb => by
    obtain ⟨o, e, _⟩ := T.obj _ _ st2 b hb
    exact Heap.lt_size e
  have notP : ∀ b ∈ fp, b ≠ P := fun b hb e => by
    have := (f2 b hb).1
    rw [e, hP] at this
    cases this
  -- behind the code object: the table may have grown
  have go : ∀ (code : Value) (h4 : PySem.Heap) (tk : Nat) (ps' : Array Value), Heap.ExtBut P s2.heap h4 → s2.heap.objs.size ≤ h4.objs.size → h4.get? P = some { cls := .none, data := .fields ps' } → (∃ more, ps' = ps ++ more) → TriplesOk ps'.toList →
      wpAny (model X.prog X.w) X.A (builtinsFor X.env.globals X.env.builtins) (fun bi s₄ => ∀ h', h'.Ns s₄.heap.objs.size (fun y => if y = ".0" then some (.ref it) else none) → Heap.SameBut s₄.heap.objs.size (s₄.heap.push { cls := .type "frame", data := .dict #[] }) h' →
        Q' (.ref h'.objs.size) { s₄ with gens := s₄.gens.push (.fresh (.compStart (.GeneratorExp elt [⟨tg, iter, ifs, 0⟩] scope gpos) 0 (.ref it) .none (genEnv scope (cloFrom X.env.cells scope.names []) s₄.heap.objs.size code bi X.env))), toks := s₄.toks + 1 + 1 + 1, heap := h'.push { cls := .type "generator", data := .fields #[.int s₄.gens.size 0, .str "<genexpr>" (s₄.toks + 1), .str (X.env.qual ++ "<genexpr>") (s₄.toks + 1 + 1)] } })
        X.xe { s2 with heap := h4, toks := tk } := by
    intro code h4 tk ps' hx hsz4 hP4 ⟨more, em⟩ ht4
    have I4 : Inv X pins σ (upd H2 P (.tbl (ps ++ more))) { s2 with heap := h4, toks := tk } := GxR.inv_tab (g' := s2.gens) (d' := s2.drawn) (t' := tk) I2 hP (fun b o hb e => hx b o hb e) (by rw [← em]; exact hP4) I2.bare
    generalize hH4 : upd H2 P (.tbl (ps ++ more)) = H4 at I4
    generalize hs4 : ({ s2 with heap := h4, toks := tk } : Shared) = s4 at I4 ⊢
    have heap4 : s4.heap = h4 := by rw [← hs4]
    have eP : TabG H4 P := ⟨ps ++ more, by rw [← hH4, upd_same], by rw [← em]; exact ht4⟩
    have eO : ∀ b, b ≠ P → H4 b = H2 b := fun b hb => by rw [← hH4, upd_ne hb]
    obtain ⟨bm, ob, b1, b2, b3, b4, b5, b6, b7, b8⟩ := TB.bm
    obtain ⟨mb, hmb⟩ : ∃ m, m = X.mg := ⟨_, rfl⟩
    refine wpAny_builtinsFor (m := X.mg) (by rw [I4.ok.glob]; exact I4.mod.glob.keeps I4.bk) b1 b2 (I4.bk _ _ b5) b6 b7 b8 ?_
    intro h' hn' hsame
    have size4 : s2.heap.objs.size ≤ s4.heap.objs.size := by rw [heap4]; exact hsz4
    have size5 : h'.objs.size = s4.heap.objs.size + 1 := by rw [hsame.1, Heap.size_push]
    have kp' : ∀ b o, s4.heap.get? b = some o → h'.get? b = some o := fun b o e => hsame.extBut b o (fun z => by have := Heap.lt_size e; rw [z] at this; exact Nat.lt_irrefl _ this) (Heap.get?_push_of_some _ e)
    obtain ⟨cl, hcl⟩ : ∃ l, l = cloFrom X.env.cells scope.names [] := ⟨_, rfl⟩
    rw [← hcl]
    obtain ⟨cenv, hce⟩ : ∃ ce, ce = genEnv scope cl s4.heap.objs.size code builtinsNs X.env := ⟨_, rfl⟩
    have f4 : ∀ b ∈ fp, FpOk X pins H4 b ∧ b < s4.heap.objs.size := fun b hb => ⟨⟨by rw [eO b (notP b hb)]; exact (f2 b hb).1, (f2 b hb).2⟩, Nat.lt_of_lt_of_le (sz b hb) size4⟩
    have IG := gen_start (X := X) (A' := X.A.in1.in1.deeper cenv) (cenv := cenv) (code := code) (t' := s4.toks + 1 + 1 + 1) (h' := h'.push (gobj s4.gens.size (.str "<genexpr>" (s4.toks + 1)) (.str (X.env.qual ++ "<genexpr>") (s4.toks + 1 + 1))))
      (g' := s4.gens.push (.fresh (.compStart (.GeneratorExp elt [⟨tg, iter, ifs, 0⟩] scope gpos) 0 (.ref it) .none cenv))) I4 ok nc hN f4 (by rw [← hcl]; exact hce) hr.hd (by show X.A.frames.map (cenv :: ·) = _; rw [I4.ok.frames]; rfl) (fun b o e => Heap.get?_push_of_some _ (kp' b o e)) (hn'.push _) (I4.bare.push rfl)
    refine hQ J H4 _ _ (rr H4 eP eO) ⟨it, fp, tn, s4, cl, s4.heap.objs.size, code, s4.gens.size, .str "<genexpr>" (s4.toks + 1), .str (X.env.qual ++ "<genexpr>") (s4.toks + 1 + 1), T, f4, I4, ⟨_, _, _, _, rfl, rfl⟩, fun b hb e => ?_, ?_⟩
    · have q := (f4 b hb).2
      rw [← e, size5] at q
      exact absurd q (Nat.not_lt.mpr (Nat.le_succ _))
    · show GAt (gcx X (X.A.in1.in1.deeper (genEnv scope cl s4.heap.objs.size code builtinsNs X.env)) s4 H4 (genEnv scope cl s4.heap.objs.size code builtinsNs X.env) fp) _ _ tn fp 0 H4 _ ∧ _
      rw [← hce]
      refine ⟨⟨IG.pins_of fun p hp => ?_, T.keep _ _ _ st2 fun b hb o e => ?_, fun b hb => (f4 b hb).1.1⟩, Array.getElem?_push_size ..⟩
      · obtain rfl : p = _ := List.mem_singleton.mp hp
        refine ⟨Heap.get?_push_size _ rfl, I4.hok.fresh (by show s4.heap.objs.size ≤ h'.objs.size; omega), ?_, fun hb => ?_, fun v z => by cases z⟩
        · show h'.objs.size ≠ cenv.locals
          rw [hce, size5]
          exact Nat.succ_ne_self _
        · rcases List.mem_cons.mp (I4.stkSub _ hb) with z | z
          · have q := I4.lt
            rw [← z] at q
            have q : h'.objs.size < s4.heap.objs.size := q
            rw [size5] at q
            exact absurd q (Nat.not_lt.mpr (Nat.le_succ _))
          · exact I4.nofs (a := h'.objs.size) (by omega) z
      · exact Heap.get?_push_of_some _ (kp' b o (by rw [heap4]; exact hx b o (notP b hb) e))
  cases hf : codeAmong gpos ps.toList with
  | none =>
    refine wpAny_genexprCodeX hcode (cd.code hPs htr) (cd.tab hPs) hf fun c' h' tk hx hge hlt hco' _ htab' _ => ?_
    obtain ⟨o1, us, f1, tf, fl, tg1, inF, tx, tt1, op, _, _, _, _, _, _, _, _, _, htr', _⟩ := hco'
    exact go _ h' tk _ hx (Nat.le_trans hge (Nat.le_of_lt hlt)) htab'.2 ⟨_, rfl⟩ htr'
  | some cv =>
    refine wpAny_genexprCode_hit hcode (cd.code hPs htr) hf ?_
    exact go cv s2.heap s2.toks ps (Heap.ExtBut.refl _ _) (Nat.le_refl _) hPs ⟨#[], by simp⟩ htr
/-- all (al = true), any (al = false) of a generator expression -/
def tAA (al : Bool) (P : Addr) (wi : TI) (g : TG) (tt : TT) (te : TE) (vs : List Nat) : TE := fun σ H Q => wi σ H fun J H1 => TabG H1 P ∧ ∀ H4, TabG H4 P → (∀ b, b ≠ P → H4 b = H1 b) →
  ∃ (W : Nat → Nat → Hp → Prop) (Yl : Nat → Nat → V → Hp → Prop) (Dn : Hp → Prop) (m0 : Nat), GTurns J g tt te (wipe σ vs) vs W Yl Dn ∧ W 0 m0 H4 ∧
    (∀ i m1 y H, Yl i m1 y H → ∃ b, y = .bl b ∧ (b = al → ∃ m', m' < m1 ∧ W i m' H) ∧ (b = !al → Q (.bl (!al)) H)) ∧ ∀ H, Dn H → Q (.bl al) H
/-- what a consumer finds -/
theorem Made.rdy {g : TG} {tt : TT} {te : TE} {vs : List Nat} {k : Nat} {J : It} {H4 : Hp} {a : Addr} {s5 : Shared} {W : Nat → Nat → Hp → Prop} {Yl : Nat → Nat → V → Hp → Prop} {Dn : Hp → Prop} {m0 : Nat} (hc : X.calm = true) (hr : Room (k + 1) X.A) (co : scope.isCoroutine = false)
    (hg : ∀ (A' : Around) (s : Shared) (H : Hp) (C : Addr) (cl : List (Str × Addr)) (code : Value) (fp : List Addr), Room k A' → PG (gcx X A' s H (genEnv scope cl C code builtinsNs X.env) fp) tg g)
    (ht : ∀ (A' : Around) (s : Shared) (H : Hp) (C : Addr) (cl : List (Str × Addr)) (code : Value) (fp : List Addr), Room k A' → PTs (gcx X A' s H (genEnv scope cl C code builtinsNs X.env) fp) ifs tt)
    (he : ∀ (A' : Around) (s : Shared) (H : Hp) (C : Addr) (cl : List (Str × Addr)) (code : Value) (fp : List Addr), Room k A' → PE (gcx X A' s H (genEnv scope cl C code builtinsNs X.env) fp) elt te)
    (M : Made X pins σ elt tg iter ifs scope gpos vs J H4 a s5) (turns : GTurns J g tt te (wipe σ vs) vs W Yl Dn) (w0 : W 0 m0 H4) :
    ∃ (G : Cx) (tn : Nat → PySem.Heap → Prop) (fp : List Addr) (gi : Nat) (nm qn : Value), G.prog = X.prog ∧ G.w = X.w ∧ s5.heap.IsGen a gi ∧ (∃ x t y t', nm = .str x t ∧ qn = .str y t') ∧ GRdy G X.A.in1.in1 [(a, gobj gi nm qn)] (wipe σ vs) tn fp gi W Yl Dn m0 s5 ∧
      ∀ H' s', Inv G [(a, gobj gi nm qn)] (wipe σ vs) H' s' → Inv X pins σ H' s' := by
  obtain ⟨it, fp, tn, s4, cl, C, code, gi, nm, qn, T, f4, I4, hn, hne, ga, hgs⟩ := M.ex
  have room : ∀ ce, Room k (X.A.in1.in1.deeper ce) := fun ce => ⟨hr.hd, by have := hr.dp; show X.A.depth + 1 + 3 * k + 5 < _; omega, by have := hr.un; show X.A.units + 1 + 1 + 3 + 16 * k + 200 < _; omega⟩
  have loop := seg_gloop (B := X.A.in1.in1) (pos := gpos) (iter := iter) (scope := scope) (pl := [(a, gobj gi nm qn)]) hc T (hg _ s4 H4 C cl code fp (room _)) (ht _ s4 H4 C cl code fp (room _)) (he _ s4 H4 C cl code fp (room _)) turns over_gen co
    (fun p hp b hb => by obtain rfl : p = _ := List.mem_singleton.mp hp; exact hne b hb) (fun σ' e => ⟨by rw [← e, wipe_length], fun j v q => by rw [← e] at q; exact (wipe_some q).1⟩)
  refine ⟨gcx X (X.A.in1.in1.deeper (genEnv scope cl C code builtinsNs X.env)) s4 H4 (genEnv scope cl C code builtinsNs X.env) fp, tn, fp, gi, nm, qn, rfl, rfl, ⟨_, nm, qn, (ga.inv.pin _ (List.mem_append_right _ (List.mem_singleton.mpr rfl))).1, rfl, rfl, rfl⟩, hn, ⟨0, H4, m0, _, Nat.le_refl _, w0, ga, hgs, fun s'' ga'' => ⟨rfl, seg_gstart T loop (Nat.le_refl _) w0 ga''⟩⟩, fun H' s' I' => ?_⟩
  exact I4.call' (ch := fp) I'.os I'.base I'.hok I'.bare fun b hb => ⟨(f4 b hb).1.2.2.2.1, (f4 b hb).1.2.1, (f4 b hb).1.2.2.2.2.1, (f4 b hb).1.2.2.2.2.2⟩
section
variable {g : TG} {tt : TT} {te : TE} {k : Nat} {p pos : Pos} (hc : X.calm = true) (hr : Room (k + 1) X.A) (TB : LamX.TabB X.base X.mg c P) (hcode : X.env.code = .ref c) (ok : BlkOk X.N X.env.scope scope own) (nc : ∀ y ∈ scope.names, y.2 ≠ .cell) (hN : X.N.Nodup) (co : scope.isCoroutine = false)
  (dot : scope.names.lookup (".0" : Str) = some NameKind.local) (hi : PI X tg iter wi) (hs : ∀ v, genFold iter X.env v = pure v)
  (hg : ∀ (A' : Around) (s : Shared) (H : Hp) (C : Addr) (cl : List (Str × Addr)) (code : Value) (fp : List Addr), Room k A' → PG (gcx X A' s H (genEnv scope cl C code builtinsNs X.env) fp) tg g)
  (ht : ∀ (A' : Around) (s : Shared) (H : Hp) (C : Addr) (cl : List (Str × Addr)) (code : Value) (fp : List Addr), Room k A' → PTs (gcx X A' s H (genEnv scope cl C code builtinsNs X.env) fp) ifs tt)
  (he : ∀ (A' : Around) (s : Shared) (H : Hp) (C : Addr) (cl : List (Str × Addr)) (code : Value) (fp : List Addr), Room k A' → PE (gcx X A' s H (genEnv scope cl C code builtinsNs X.env) fp) elt te)
include hc hr TB hcode ok nc hN co dot hi hs hg ht he
theorem pe_all (hgl : Gl X "all") (hm : X.mg "all" = none) (hv : bootBuiltins "all" = some (.builtin "all"))
    (hst : starEach [.GeneratorExp elt [⟨tg, iter, ifs, 0⟩] scope gpos] X.env = (false, eval (.GeneratorExp elt [⟨tg, iter, ifs, 0⟩] scope gpos) X.env) :: starEach [] X.env) :
    PE X (.Call (.Name "all" p) [.GeneratorExp elt [⟨tg, iter, ifs, 0⟩] scope gpos] [] pos) (tAA true P wi g tt te (own.map (·.2))) := by
  refine ⟨fun pins s σ H Q I h => wpAny_Call_Name_kw (ld_blt I hgl hm hv ?_)⟩
  refine (PyProof.Rows.callWith_builtin1 ?_ hst (by rfl))
  rw [hst]
  show wpAny _ _ (spliced ((false, eval (.GeneratorExp elt [⟨tg, iter, ifs, 0⟩] scope gpos) X.env) :: backTo pos (starEach [] X.env))) _ _ s
  refine Calls.spliced_cons (gx_make hr TB hcode ok nc hN co dot hi hs I h fun J H4 a s5 rr M => Calls.spliced_nil ?_)
  obtain ⟨W, Yl, Dn, m0, turns, w0, hy, hD⟩ := rr
  obtain ⟨G, tn, fp, gi, nm, qn, e1, e2, hgen, hn, rdy, back⟩ := M.rdy hc hr co hg ht he turns w0
  refine call_function_tree F.kind_all F.plain_all F.entry_all (F.args_all1 _) ?_
  unfold Builtin.«all»
  refine (wpAny_bind (m := oneArg "all" _) (wpAny_pure ?_))
  refine wpAny_bind (wpAny_pyIter_gen hgen (wpAny_pure ⟨plainId_quiet F.plain_all_loop _, ?_⟩))
  have lp := all_loop (Qd := fun b H => Q (.bl b) H) (R := fun r s' => ∃ b H, r = .ok (.ret (.bool b)) ∧ Inv X pins σ H s' ∧ Q (.bl b) H) hr.hd (by have := hr.dp; omega) (List.mem_singleton.mpr rfl) hn (fun i m1 y H z => by obtain ⟨b, q1, q2, q3⟩ := hy i m1 y H z; exact ⟨b, q1, q2, q3⟩) hD (fun b H' s' I' q => ⟨b, H', rfl, back H' s' I', q⟩) m0 s5 rdy
  rw [e1, e2] at lp
  refine codeAny_mono lp fun r s' z => ?_
  obtain ⟨b, H', rfl, I', q⟩ := z
  exact ⟨.bl b, H', I', rfl, q⟩
theorem pe_any (hgl : Gl X "any") (hm : X.mg "any" = none) (hv : bootBuiltins "any" = some (.builtin "any"))
    (hst : starEach [.GeneratorExp elt [⟨tg, iter, ifs, 0⟩] scope gpos] X.env = (false, eval (.GeneratorExp elt [⟨tg, iter, ifs, 0⟩] scope gpos) X.env) :: starEach [] X.env) :
    PE X (.Call (.Name "any" p) [.GeneratorExp elt [⟨tg, iter, ifs, 0⟩] scope gpos] [] pos) (tAA false P wi g tt te (own.map (·.2))) := by
  refine ⟨fun pins s σ H Q I h => wpAny_Call_Name_kw (ld_blt I hgl hm hv ?_)⟩
  refine (PyProof.Rows.callWith_builtin1 ?_ hst (by rfl))
  rw [hst]
  show wpAny _ _ (spliced ((false, eval (.GeneratorExp elt [⟨tg, iter, ifs, 0⟩] scope gpos) X.env) :: backTo pos (starEach [] X.env))) _ _ s
  refine Calls.spliced_cons (gx_make hr TB hcode ok nc hN co dot hi hs I h fun J H4 a s5 rr M => Calls.spliced_nil ?_)
  obtain ⟨W, Yl, Dn, m0, turns, w0, hy, hD⟩ := rr
  obtain ⟨G, tn, fp, gi, nm, qn, e1, e2, hgen, hn, rdy, back⟩ := M.rdy hc hr co hg ht he turns w0
  refine call_function_tree F.kind_any F.plain_any F.entry_any (F.args_any1 _) ?_
  unfold Builtin.«any»
  refine (wpAny_bind (m := oneArg "any" _) (wpAny_pure ?_))
  refine wpAny_bind (wpAny_pyIter_gen hgen (wpAny_pure ⟨plainId_quiet F.plain_any_loop _, ?_⟩))
  have lp := any_loop (Qd := fun b H => Q (.bl b) H) (R := fun r s' => ∃ b H, r = .ok (.ret (.bool b)) ∧ Inv X pins σ H s' ∧ Q (.bl b) H) hr.hd (by have := hr.dp; omega) (List.mem_singleton.mpr rfl) hn (fun i m1 y H z => by obtain ⟨b, q1, q2, q3⟩ := hy i m1 y H z; exact ⟨b, q1, q2, q3⟩) hD (fun b H' s' I' q => ⟨b, H', rfl, back H' s' I', q⟩) m0 s5 rdy
  rw [e1, e2] at lp
  refine codeAny_mono lp fun r s' z => ?_
  obtain ⟨b, H', rfl, I', q⟩ := z
  exact ⟨.bl b, H', I', rfl, q⟩
end
end
end DL

/-! DGen4: all and any of a generator expression, on data. -/
namespace DL
open PySem PySem.Spec PyProof.Rows L2 GenW
def allL (al : Bool) (G : D → Env → Option Env) (T : Env → Res Bool) (E : Env → Res D) (vs : List Nat) : List D → Env → Res Bool
  | [], r => .ok al r
  | d :: ds, r => match G d r with
    | none => .stk
    | some r1 => (T r1).bindS fun k r2 => if k = true then (E r2).bindS fun x r3 => match x with
        | .bl b => if b = al then allL al G T E vs ds (wipeE r3 vs) else .ok (!al) (wipeE r3 vs)
        | _ => .stk
      else allL al G T E vs ds (wipeE r2 vs)
section
variable {X : Cx} {W : WT} {e a b c tg iter : Expr} {S S' S1 S2 : Addr → Prop} {H H' H1 H2 : Hp} {F F' F1 F2 T : Fp} {σ : L2.St} {r : Env} {pos p p2 : Pos} {x : Str}
theorem go_tab {P : Addr} (h0 : TabG H P) (h1 : TabG H1 P) (h : ∀ b, b ≠ P → H1 b = H b) : Go S H [] S H1 [] := by
  refine ⟨fun _ z => z, fun a o e _ nt => ?_, fun a z => ?_, fun a z => ?_, fun a z => .inl z, fun a z => .inl z⟩
  · by_cases ea : a = P
    · subst ea
      obtain ⟨ps, q, _⟩ := h0
      rw [q] at e
      cases e
      exact nt.elim
    · rw [h a ea]; exact e
  · by_cases ea : a = P
    · subst ea; exact h1
    · obtain ⟨ps, q, t⟩ := z
      exact ⟨ps, by rw [h a ea]; exact q, t⟩
  · by_cases ea : a = P
    · subst ea
      obtain ⟨ps, q, _⟩ := h1
      rw [q]; simp
    · rw [h a ea]; exact z
theorem rd_aa {al : Bool} {P : Addr} {vs ws : List Nat} {wi : TI} {I : Env → Res (List D)} {G : D → Env → Option Env} {Tt : Env → Res Bool} {E : Env → Res D} (hP : P ∈ W.tb) (zi : ∀ S H r σ F R, At X.K W.tb S H r σ F → IP1 X W S H F σ R (I r) → wi σ H R) (hws : ∀ j ∈ ws, j ∈ vs) :
    RdE X W (tAA al P wi (tG X ws G) (tT X (W0 W.tb) Tt) (tE X (W0 W.tb) E) vs) (fun r => (I r).bind fun ds r1 => (allL al G Tt E vs ds (wipeE r1 vs)).bind fun b r2 => .ok (.bl b) (resE r1 r2 vs)) := by
  intro S H r σ F Q x y
  refine zi S H r σ F _ x ?_
  have y : EP1 (Rep X.K) X W S H F σ Q ((I r).bind fun ds r1 => (allL al G Tt E vs ds (wipeE r1 vs)).bind fun b r2 => .ok (.bl b) (resE r1 r2 vs)) := y
  cases eI : I r with
  | stk => rw [eI] at y; exact y
  | exc c r1 => rw [eI] at y; exact y
  | ok ds r1 =>
    rw [eI] at y
    intro J S1 H1 F1 T1 P0 g1 x1 f1 it p0 st
    have y : EP1 (Rep X.K) X W S H F σ Q ((allL al G Tt E vs ds (wipeE r1 vs)).bind fun b r2 => .ok (.bl b) (resE r1 r2 vs)) := y
    refine ⟨x1.tab P hP, fun H4 t4 e4 => ?_⟩
    have gt : Go S1 H1 [] S1 H4 [] := go_tab (x1.tab P hP) t4 e4
    have ft0 : Ft S1 H4 [] := Ft.nil fun a z q => gt.dom a (x1.ft.sd a z) q
    have x4 := x1.ext0 gt ft0
    have f4 : Ft S1 H4 (T1 ++ F1) := by simpa using Ft.frame (T := T1 ++ F1) (F := []) (by simpa using f1) gt ft0
    have g4 : Go S1 H1 (T1 ++ F1) S1 H4 (T1 ++ F1) := go_side gt _
    have p4 : P0 S1 H4 := st S1 H1 [] S1 H4 [] p0 (by simpa using f1.left) gt
    -- the answer
    have fin : ∀ {b : Bool} {S' : Addr → Prop} {H' : Hp} {r' : Env} {F' : Fp}, At X.K W.tb S' H' (wipeE r' vs) (L2.wipe σ vs) F' → Go S1 H1 (T1 ++ F1) S' H' (T1 ++ F') → EP1 (Rep X.K) X W S H F σ Q (.ok (.bl b) (resE r1 (wipeE r' vs) vs)) → Q (.bl b) H' := fun {b S' H' r' F'} q gg yy => by
      obtain ⟨F9, q9, s9⟩ := q.unwipe.restore (vs := vs) x1 gg f1
      exact yy (.bl b) S' H' F9 [] ((g1.trans gg).sub fun b z => List.mem_append_right _ (s9 b (by simpa using z))) q9 ⟨rfl, rfl⟩ (by simpa using q9.ft)
    refine ⟨fun i m H' => m = ds.length - i ∧ i ≤ ds.length ∧ ∃ S' r' F', At X.K W.tb S' H' (wipeE r' vs) (L2.wipe σ vs) F' ∧ Ft S' H' (T1 ++ F') ∧ P0 S' H' ∧ Go S1 H1 (T1 ++ F1) S' H' (T1 ++ F') ∧
        EP1 (Rep X.K) X W S H F σ Q ((allL al G Tt E vs (ds.drop i) (wipeE r' vs)).bind fun b r2 => .ok (.bl b) (resE r1 r2 vs)),
      fun i m v H' => m = ds.length - i + 1 ∧ i ≤ ds.length ∧ ∃ S' r' F' d T', At X.K W.tb S' H' (wipeE r' vs) (L2.wipe σ vs) F' ∧ Ft S' H' (T1 ++ F') ∧ P0 S' H' ∧ Go S1 H1 (T1 ++ F1) S' H' (T1 ++ F') ∧ Rep X.K S' H' d v T' ∧
        EP1 (Rep X.K) X W S H F σ Q ((match d with
          | .bl b => if b = al then allL al G Tt E vs (ds.drop i) (wipeE r' vs) else .ok (!al) (wipeE r' vs)
          | _ => .stk : Res Bool).bind fun b r2 => .ok (.bl b) (resE r1 r2 vs)),
      fun H' => Q (.bl al) H', ds.length, ⟨?_⟩, ?_, ?_, fun H' z => z⟩
    · -- a turn
      rintro i m H3 ⟨rfl, hi, S3, r3, F3, x3, f3, p3, g3, y3⟩
      by_cases hlt : i < ds.length
      · have ed : ds[i]? = some ds[i] := List.getElem?_eq_getElem hlt
        obtain ⟨hgo, hyl⟩ := it.item i ds[i] S3 H3 ed p3 x3.ft.sd
        refine .inr ⟨hgo, by omega, fun v H5 yl => ?_⟩
        obtain ⟨g5, sd5, rd5⟩ := hyl v H5 yl
        have fn5 : Ft S3 H5 [] := Ft.nil sd5
        have x5 := x3.ext0 g5 fn5
        have f5 : Ft S3 H5 (T1 ++ F3) := f3.frame (go_side g5 F3) x5.ft
        have p5 : P0 S3 H5 := st S3 H3 [] S3 H5 [] p3 (by simpa using f3.left) g5
        have g35 : Go S1 H1 (T1 ++ F1) S3 H5 (T1 ++ F3) := g3.trans (go_side g5 _)
        have y4 := y3
        rw [show ds.drop i = ds[i] :: ds.drop (i + 1) from List.drop_eq_getElem_cons hlt] at y4
        unfold allL at y4
        cases eG : G ds[i] (wipeE r3 vs) with
        | none => rw [eG] at y4; exact y4.elim
        | some r5 =>
          rw [eG] at y4
          refine ⟨W.tb, S3, wipeE r3 vs, F3, ds[i], [], x5, rd5, x5.ft, r5, eG, fun σ5 F5 q5 s5 o5 l5 => ?_⟩
          have s5 : ∀ b ∈ F5, b ∈ F3 := fun b z => by simpa using s5 b z
          have hw : L2.wipe σ5 vs = L2.wipe σ vs := (wipe_eq (fun j hj => o5 j (fun z => hj (hws j z))) l5).trans (wipe_idem σ vs)
          have f55 := f5.narrow q5.ft s5
          have g55 : Go S1 H1 (T1 ++ F1) S3 H5 (T1 ++ F5) := g35.sub fun b z => by
            simp only [List.mem_append] at z ⊢
            exact z.imp id (s5 b)
          refine ⟨hw, S3, r5, F5, q5, EP1.bindS y4 fun k r6 k' S6 H6 F6 T6 e6 g6 q6 h6 f6 y6 => ?_⟩
          obtain ⟨rfl, rfl⟩ := h6
          have g6 : Go S3 H5 F5 S6 H6 F6 := by simpa using g6
          have f66 : Ft S6 H6 (T1 ++ F6) := f55.frame g6 q6.ft
          have p6 : P0 S6 H6 := st S3 H5 F5 S6 H6 F6 p5 f55 g6
          have g66 : Go S1 H1 (T1 ++ F1) S6 H6 (T1 ++ F6) := g55.trans (g6.frame T1)
          cases k with
          | false =>
            obtain ⟨F7, q7, s7⟩ := q6.wiped vs
            rw [hw] at q7
            rw [if_neg Bool.false_ne_true]
            exact ⟨ds.length - (i + 1), by omega, rfl, hlt, S6, r6, F7, q7, f66.narrow q7.ft s7, p6, g66.sub fun b z => by
              simp only [List.mem_append] at z ⊢
              exact z.imp id (s7 b), y6⟩
          | true =>
            rw [if_pos rfl]
            refine ⟨S6, r6, F6, q6, EP1.bindS y6 fun d7 r7 w7 S7 H7 F7 T7 e7 g7 q7 h7 f7 y7 => ?_⟩
            have g7' : Go S6 H6 F6 S7 H7 F7 := g7.sub fun b z => List.mem_append_right _ z
            have f77 : Ft S7 H7 (T1 ++ F7) := f66.frame g7' q7.ft
            have p7 : P0 S7 H7 := st S6 H6 F6 S7 H7 F7 p6 f66 g7'
            obtain ⟨F8, q8, s8⟩ := q7.wiped vs
            rw [hw] at q8
            refine ⟨by omega, hlt, S7, r7, F8, d7, T7, q8, f77.narrow q8.ft s8, p7, (g66.trans (g7'.frame T1)).sub fun b z => ?_, h7, y7⟩
            simp only [List.mem_append] at z ⊢
            exact z.imp id (s8 b)
      · have e : i = ds.length := by omega
        subst e
        rw [List.drop_length] at y3
        exact .inl ⟨it.stop S3 H3 p3, fin x3 g3 y3⟩
    · -- at the start
      obtain ⟨F1', q1, s1⟩ := x4.wiped vs
      refine ⟨by simp, Nat.zero_le _, S1, r1, F1', q1, f4.narrow q1.ft s1, p4, g4.sub fun b z => ?_, y⟩
      simp only [List.mem_append] at z ⊢
      exact z.imp id (s1 b)
    · -- what is asked
      rintro i m v H3 ⟨rfl, hi, S3, r3, F3, d, T3, x3, f3, p3, g3, h3, y3⟩
      cases d with
      | bl b =>
        refine ⟨b, h3.1, fun e => ?_, fun e => ?_⟩
        · subst e
          rw [show (match D.bl b with | .bl b' => if b' = b then allL b G Tt E vs (ds.drop i) (wipeE r3 vs) else .ok (!b) (wipeE r3 vs) | _ => .stk : Res Bool) = allL b G Tt E vs (ds.drop i) (wipeE r3 vs) from if_pos rfl] at y3
          exact ⟨ds.length - i, by omega, rfl, hi, S3, r3, F3, x3, f3, p3, g3, y3⟩
        · subst e
          rw [show (match D.bl (!al) with | .bl b' => if b' = al then allL al G Tt E vs (ds.drop i) (wipeE r3 vs) else .ok (!al) (wipeE r3 vs) | _ => .stk : Res Bool) = .ok (!al) (wipeE r3 vs) from if_neg (by cases al <;> decide)] at y3
          exact fin x3 g3 y3
      | _ => exact y3.elim
theorem nc_of {scope : Scope} (h : (scope.names.all fun y => y.2 != .cell) = true) : ∀ y ∈ scope.names, y.2 ≠ .cell := fun y hy e => by
  have := List.all_eq_true.mp h y hy
  rw [e] at this
  exact absurd this (by decide)
section
variable {k : Nat} {c1 P : Addr} {own : List (Str × Nat)} {ws : List Nat} {elt : Expr} {ifs : List Expr} {scope : Scope} {gpos : Pos} {I : Env → Res (List D)} {G : D → Env → Option Env} {Tt : Env → Res Bool} {E : Env → Res D}
  (hc : X.calm = true) (hN : X.N.Nodup) (hr : Room (k + 1) X.A) (hP : P ∈ W.tb) (TB : LamX.TabB X.base X.mg c1 P) (hcode : X.env.code = .ref c1) (hi : DI X W tg iter I) (ok : BlkOk X.N X.env.scope scope own)
  (hg : ∀ (A' : Around) (s : Shared) (H : Hp) (C : Addr) (cl : List (Str × Addr)) (code : Value) (fp : List Addr), Room k A' → DG (gcx X A' s H (genEnv scope cl C code builtinsNs X.env) fp) ws tg G)
  (ht : ∀ (A' : Around) (s : Shared) (H : Hp) (C : Addr) (cl : List (Str × Addr)) (code : Value) (fp : List Addr), Room k A' → DTs (gcx X A' s H (genEnv scope cl C code builtinsNs X.env) fp) (W0 W.tb) ifs Tt)
  (he : ∀ (A' : Around) (s : Shared) (H : Hp) (C : Addr) (cl : List (Str × Addr)) (code : Value) (fp : List Addr), Room k A' → DE (gcx X A' s H (genEnv scope cl C code builtinsNs X.env) fp) (W0 W.tb) elt E)
  (nc : (scope.names.all fun y => y.2 != .cell) = true) (co : scope.isCoroutine = false) (dot : scope.names.lookup (".0" : Str) = some NameKind.local) (hws : ∀ j ∈ ws, j ∈ own.map (·.2)) (hs : ∀ v, genFold iter X.env v = pure v)
  (hst : starEach [.GeneratorExp elt [⟨tg, iter, ifs, 0⟩] scope gpos] X.env = (false, eval (.GeneratorExp elt [⟨tg, iter, ifs, 0⟩] scope gpos) X.env) :: starEach [] X.env)
include hc hN hr hP TB hcode hi ok hg ht he nc co dot hws hs hst
theorem de_all (hm : X.mg "all" = none) (hv : bootBuiltins "all" = some (.builtin "all")) (hgl : Gl X "all") :
    DE X W (.Call (.Name "all" p) [.GeneratorExp elt [⟨tg, iter, ifs, 0⟩] scope gpos] [] pos) (fun r => (I r).bind fun ds r1 => (allL true G Tt E (own.map (·.2)) ds (wipeE r1 (own.map (·.2)))).bind fun b r2 => .ok (.bl b) (resE r1 r2 (own.map (·.2)))) := by
  obtain ⟨wi, qi, zi⟩ := hi
  exact ⟨_, pe_all hc hr TB hcode ok (nc_of nc) hN co dot qi hs (fun A' s H C cl code fp h => (hg A' s H C cl code fp h).pg) (fun A' s H C cl code fp h => (ht A' s H C cl code fp h).pts) (fun A' s H C cl code fp h => (he A' s H C cl code fp h).pe) hgl hm hv hst, rd_aa hP zi hws⟩
theorem de_any (hm : X.mg "any" = none) (hv : bootBuiltins "any" = some (.builtin "any")) (hgl : Gl X "any") :
    DE X W (.Call (.Name "any" p) [.GeneratorExp elt [⟨tg, iter, ifs, 0⟩] scope gpos] [] pos) (fun r => (I r).bind fun ds r1 => (allL false G Tt E (own.map (·.2)) ds (wipeE r1 (own.map (·.2)))).bind fun b r2 => .ok (.bl b) (resE r1 r2 (own.map (·.2)))) := by
  obtain ⟨wi, qi, zi⟩ := hi
  exact ⟨_, pe_any hc hr TB hcode ok (nc_of nc) hN co dot qi hs (fun A' s H C cl code fp h => (hg A' s H C cl code fp h).pg) (fun A' s H C cl code fp h => (ht A' s H C cl code fp h).pts) (fun A' s H C cl code fp h => (he A' s H C cl code fp h).pe) hgl hm hv hst, rd_aa hP zi hws⟩
end
end
/-! ### by name -/
def eAA (al : Bool) (G : D → DL.Env → Option DL.Env) (T : BE) (E : EE) (vs : List Nat) (I : DL.Env → Res (List D)) : EE := fun r => (I r).bind fun ds r1 => (allL al G T E vs ds (wipeE r1 vs)).bind fun b r2 => .ok (.bl b) (resE r1 r2 vs)
@[simp] theorem eAA_ap {al : Bool} {G : D → DL.Env → Option DL.Env} {T : BE} {E : EE} {vs : List Nat} {I : DL.Env → Res (List D)} {r : DL.Env} : eAA al G T E vs I r = (I r).bind fun ds r1 => (allL al G T E vs ds (wipeE r1 vs)).bind fun b r2 => .ok (.bl b) (resE r1 r2 vs) := (rfl)
section
variable {X : Cx} {W : WT} {tg iter elt : Expr} {pos p gpos : Pos} {k : Nat} {c1 P : Addr} {ws : List Nat} {ifs : List Expr} {scope : Scope} {I : DL.Env → Res (List D)} {G : D → DL.Env → Option DL.Env} {Tt : BE} {E : EE}
theorem n_all (own : List (Str × Nat)) (hr : Room (k + 1) X.A) (hP : P ∈ W.tb) (TB : LamX.TabB X.base X.mg c1 P) (hcode : X.env.code = .ref c1) (hc : X.calm = true) (hN : X.N.Nodup) (hm : X.mg "all" = none) (hi : DI X W tg iter I) (ok : BlkOk X.N X.env.scope scope own)
    (hg : ∀ (A' : Around) (s : Shared) (H : Hp) (C : Addr) (cl : List (Str × Addr)) (code : Value) (fp : List Addr), Room k A' → DG (gcx X A' s H (genEnv scope cl C code builtinsNs X.env) fp) ws tg G)
    (ht : ∀ (A' : Around) (s : Shared) (H : Hp) (C : Addr) (cl : List (Str × Addr)) (code : Value) (fp : List Addr), Room k A' → DTs (gcx X A' s H (genEnv scope cl C code builtinsNs X.env) fp) (W0 W.tb) ifs Tt)
    (he : ∀ (A' : Around) (s : Shared) (H : Hp) (C : Addr) (cl : List (Str × Addr)) (code : Value) (fp : List Addr), Room k A' → DE (gcx X A' s H (genEnv scope cl C code builtinsNs X.env) fp) (W0 W.tb) elt E)
    (nc : (scope.names.all fun y => y.2 != .cell) = true := by decide +kernel) (co : scope.isCoroutine = false := by rfl) (dot : scope.names.lookup (".0" : Str) = some NameKind.local := by rfl) (hws : ∀ j ∈ ws, j ∈ own.map (·.2) := by decide) (hs : ∀ v, genFold iter X.env v = pure v := by intro _; rfl)
    (hst : starEach [.GeneratorExp elt [⟨tg, iter, ifs, 0⟩] scope gpos] X.env = (false, eval (.GeneratorExp elt [⟨tg, iter, ifs, 0⟩] scope gpos) X.env) :: starEach [] X.env := by rfl) (hgl : Gl X "all" := by rfl) :
    DE X W (.Call (.Name "all" p) [.GeneratorExp elt [⟨tg, iter, ifs, 0⟩] scope gpos] [] pos) (eAA true G Tt E (own.map (·.2)) I) := de_all hc hN hr hP TB hcode hi ok hg ht he nc co dot hws hs hst hm (by decide +kernel) hgl
theorem n_any (own : List (Str × Nat)) (hr : Room (k + 1) X.A) (hP : P ∈ W.tb) (TB : LamX.TabB X.base X.mg c1 P) (hcode : X.env.code = .ref c1) (hc : X.calm = true) (hN : X.N.Nodup) (hm : X.mg "any" = none) (hi : DI X W tg iter I) (ok : BlkOk X.N X.env.scope scope own)
    (hg : ∀ (A' : Around) (s : Shared) (H : Hp) (C : Addr) (cl : List (Str × Addr)) (code : Value) (fp : List Addr), Room k A' → DG (gcx X A' s H (genEnv scope cl C code builtinsNs X.env) fp) ws tg G)
    (ht : ∀ (A' : Around) (s : Shared) (H : Hp) (C : Addr) (cl : List (Str × Addr)) (code : Value) (fp : List Addr), Room k A' → DTs (gcx X A' s H (genEnv scope cl C code builtinsNs X.env) fp) (W0 W.tb) ifs Tt)
    (he : ∀ (A' : Around) (s : Shared) (H : Hp) (C : Addr) (cl : List (Str × Addr)) (code : Value) (fp : List Addr), Room k A' → DE (gcx X A' s H (genEnv scope cl C code builtinsNs X.env) fp) (W0 W.tb) elt E)
    (nc : (scope.names.all fun y => y.2 != .cell) = true := by decide +kernel) (co : scope.isCoroutine = false := by rfl) (dot : scope.names.lookup (".0" : Str) = some NameKind.local := by rfl) (hws : ∀ j ∈ ws, j ∈ own.map (·.2) := by decide) (hs : ∀ v, genFold iter X.env v = pure v := by intro _; rfl)
    (hst : starEach [.GeneratorExp elt [⟨tg, iter, ifs, 0⟩] scope gpos] X.env = (false, eval (.GeneratorExp elt [⟨tg, iter, ifs, 0⟩] scope gpos) X.env) :: starEach [] X.env := by rfl) (hgl : Gl X "any" := by rfl) :
    DE X W (.Call (.Name "any" p) [.GeneratorExp elt [⟨tg, iter, ifs, 0⟩] scope gpos] [] pos) (eAA false G Tt E (own.map (·.2)) I) := de_any hc hN hr hP TB hcode hi ok hg ht he nc co dot hws hs hst hm (by decide +kernel) hgl
end
end DL

/-! DX1: names of the module, slices, repetition, sum. -/
namespace DL
open PySem PySem.Spec PyProof.Rows L2
section
variable {X : Cx} {W : WT} {K : PySem.W.Frag} {e a b c : Expr} {lo hi : Option Expr} {es : List Expr} {S S' S1 : Addr → Prop} {H H' H1 : Hp} {F F' F1 T : Fp} {σ : L2.St} {r : DL.Env} {pos p p2 : Pos} {x : Str}
/-! ### names of the module -/
theorem n_gint (i : Int) (h : ∃ t, X.mg x = some (.int i t)) (hg : Gl X x := by rfl) (hd : (x == ("__debug__" : Str)) = false := by decide) : DP X W (.Name x pos) (pC (.int i)) := by
  obtain ⟨t, h⟩ := h
  exact ⟨_, pe_glob (v := .int i) hg h ⟨t, rfl⟩ hd, fun S H r σ F Q q y => y (.int i) S H [] (.refl _ _ _) (Ft.nil q.ft.sd) ⟨rfl, rfl⟩⟩
theorem n_gstr (z : Str) (h : ∃ t, X.mg x = some (.str z t)) (hg : Gl X x := by rfl) (hd : (x == ("__debug__" : Str)) = false := by decide) : DP X W (.Name x pos) (pC (.str z)) := by
  obtain ⟨t, h⟩ := h
  exact ⟨_, pe_glob (v := .str z) hg h ⟨t, rfl⟩ hd, fun S H r σ F Q q y => y (.str z) S H [] (.refl _ _ _) (Ft.nil q.ft.sd) ⟨rfl, rfl⟩⟩
/-! ### slices -/
abbrev RO : RR (Option Int) (Option Int) := fun _ _ a b T => a = b ∧ T = []
def DPO (X : Cx) (W : WT) (o : Option Expr) (L : DL.Env → PR (Option Int)) : Prop := ∃ t, PO X o t ∧ ∀ S H r σ F Q, At X.K W.tb S H r σ F → PP1 RO X W S H σ Q (L r) → t σ H Q
def oNo : DL.Env → PR (Option Int) := fun _ => .ok none
def asI (d : D) : PR (Option Int) := match d with
  | .int i => .ok (some i)
  | _ => .stk
def oSome (A : EP) : DL.Env → PR (Option Int) := fun r => (A r).bind asI
theorem n_ono : DPO X W none oNo := ⟨_, po_none, fun S H r σ F Q q y => y none S H [] (.refl _ _ _) (Ft.nil q.ft.sd) ⟨rfl, rfl⟩⟩
theorem n_osome {A : EP} (h : DP X W e A) : DPO X W (some e) (oSome A) := by
  obtain ⟨t, p, q⟩ := h
  refine ⟨_, po_some p, fun S H r σ F Q x y => q S H r σ F _ x (PP1.bind (Go.refl _ _ _) y fun d v S1 H1 T1 g1 f1 h1 y1 => ?_)⟩
  cases d with
  | int i => exact ⟨i, h1.1, y1 (some i) S1 H1 [] g1 f1 ⟨rfl, rfl⟩⟩
  | _ => exact y1.elim
def cutL {α : Type} (xs : List α) (lo hi : Option Int) : List α := (xs.drop (HT.sIx xs.length 0 lo)).take (HT.sIx xs.length xs.length hi - HT.sIx xs.length 0 lo)
def dSl (lo hi : Option Int) : D → Option D
  | .tup ds => if D.shL ds = true then some (.tup (cutL ds lo hi)) else none
  | .lst _ ds => if D.shL ds = true then some (.lst true (cutL ds lo hi)) else none
  | _ => none
theorem RepL.drop : ∀ {n : Nat} {ds : List D} {vs : List V}, RepL K S H ds vs [] → RepL K S H (ds.drop n) (vs.drop n) []
  | 0, _, _, h => h
  | n + 1, [], vs, h => by obtain ⟨rfl, _⟩ := h; exact ⟨rfl, rfl⟩
  | n + 1, d :: ds, vs, h => by
    obtain ⟨v, t, A1, B1, e1, e2, _, h2⟩ := h
    obtain ⟨rfl, rfl⟩ := List.append_eq_nil_iff.mp e2.symm
    subst e1
    exact RepL.drop (n := n) h2
theorem RepL.take : ∀ {n : Nat} {ds : List D} {vs : List V}, RepL K S H ds vs [] → RepL K S H (ds.take n) (vs.take n) []
  | 0, _, _, h => ⟨rfl, rfl⟩
  | n + 1, [], vs, h => by obtain ⟨rfl, _⟩ := h; exact ⟨rfl, rfl⟩
  | n + 1, d :: ds, vs, h => by
    obtain ⟨v, t, A1, B1, e1, e2, h1, h2⟩ := h
    obtain ⟨rfl, rfl⟩ := List.append_eq_nil_iff.mp e2.symm
    subst e1
    exact ⟨v, t.take n, [], [], rfl, rfl, h1, RepL.take (n := n) h2⟩
theorem RepL.cut {ds : List D} {vs : List V} {l u : Option Int} (h : RepL K S H ds vs []) : RepL K S H (cutL ds l u) (cutV vs l u) [] := by
  unfold cutL cutV
  rw [h.len]
  exact h.drop.take
def pSl (A : EP) (L U : DL.Env → PR (Option Int)) : EP := fun r => (A r).bind fun x => (L r).bind fun l => (U r).bind fun u => opP (dSl l u) x
theorem n_psl {A : EP} {L U : DL.Env → PR (Option Int)} (ha : DP X W e A) (hl : DPO X W lo L) (hu : DPO X W hi U) : DP X W (.Subscript e (.Slice lo hi none p2) pos) (pSl A L U) := by
  obtain ⟨t, p, q⟩ := ha; obtain ⟨t1, p1, q1⟩ := hl; obtain ⟨t2, p2, q2⟩ := hu
  refine ⟨_, pe_slice (sl_tupA.or sl_list) p p1 p2, fun S H r σ F Q x y => q S H r σ F _ x (PP1.bind (Go.refl _ _ _) y fun d v S1 H1 T1 g1 f1 h1 y1 => ?_)⟩
  have x1 := x.ext0 g1 f1
  refine q1 S1 H1 r σ F _ x1 (PP1.bind g1 y1 fun l l' S2 H2 T2 g2 f2 h2 y2 => ?_)
  obtain ⟨rfl, rfl⟩ := h2
  have x2 := x1.ext0 g2 f2
  have h1' := Rep.go g2 f1 d v T1 (fun _ _ z => nomatch z) h1
  refine q2 S2 H2 r σ F _ x2 (PP1.bind (g1.trans g2) y2 fun u u' S3 H3 T3 g3 f3 h3 y3 => ?_)
  obtain ⟨rfl, rfl⟩ := h3
  have h1'' := Rep.go g3 f2 d v T1 (fun _ _ z => nomatch z) h1'
  have g13 := (g1.trans g2).trans g3
  obtain ⟨d', e', y4⟩ := opP_some y3
  unfold dSl at e'
  split at e'
  · rename_i ds
    split at e'
    · rename_i hs
      cases e'
      obtain ⟨a, vs, rfl, hq, rl⟩ := h1''.tup_at hs
      refine .inl ⟨a, vs, rfl, hq, fun hw => ?_, fun hw pp hp => ?_⟩
      · have eq : cutL ds l u = ds := by
          unfold cutL
          rw [rl.len, hw.1, hw.2, ← rl.len]
          simp
        rw [eq] at y4
        exact y4 (.ref a) S3 H3 [] g13 f3 ⟨a, vs, rfl, hq, rl⟩
      · exact y4 (.ref pp) S3 _ [] (g13.trans (go_new f3.sd hp [] (fun _ z => nomatch z))) (Ft.nil (sd_new f3.sd)) (rep_tup f3.sd hp rl.cut)
    · cases e'
  · rename_i o ds
    split at e'
    · rename_i hs
      cases e'
      obtain ⟨a, vs, rfl, hq, rl⟩ := h1''.lst_at hs
      refine .inr ⟨a, vs, rfl, .inl (.inl hq), fun pp hp => ?_⟩
      exact y4 (.ref pp) S3 _ [pp] (g13.trans ((go_new f3.sd hp [pp] (fun _ z => by simpa using z)).sub fun _ z => nomatch z)) (Ft.nil (sd_new f3.sd)) (rep_lst f3.sd hp rl.cut)
    · cases e'
  · cases e'
/-! ### repetition -/
def rMulA (K : PySem.W.Frag) : R2 := fun x y H Q => (rI CMul (fun i j => .int (i * j)) x y H Q ∨ rRep x y H Q) ∨ rRepT K x y H Q
theorem op_mulA {X : Cx} : OpR X (binaryOp .Mult) (rMulA X.K) := (op_mul.or op_rep).or op_repT
def dMulA : D → D → Option D
  | .int i, .int j => if CMul i j then some (.int (i * j)) else none
  | .lst _ xs, .int k => if D.shL xs = true ∧ -(2 ^ 63) ≤ k ∧ k < 2 ^ 63 ∧ xs.length * k.toNat ≤ sizeLine then some (.lst true (List.replicate k.toNat xs).flatten) else none
  | .tup xs, .int k => if D.shL xs = true ∧ xs ≠ [] ∧ 2 ≤ k ∧ k ≤ 1000 ∧ xs.length ≤ 1000 then some (.tup (List.replicate k.toNat xs).flatten) else none
  | _, _ => none
theorem RepL.rep {ds : List D} {vs : List V} (h : RepL K S H ds vs []) : ∀ n : Nat, RepL K S H (List.replicate n ds).flatten (List.replicate n vs).flatten []
  | 0 => ⟨rfl, rfl⟩
  | n + 1 => by
    rw [List.replicate_succ, List.replicate_succ, List.flatten_cons, List.flatten_cons]
    exact h.append (RepL.rep h n)
instance {xs : List D} : Decidable (xs ≠ []) := by cases xs <;> infer_instance
theorem v2_mulA : V2 K (rMulA K) dMulA := by
  intro S H d1 d2 v1 v2 T1 T2 Q sd h1 h2 ⟨d, e, k⟩
  unfold dMulA at e
  split at e
  · rename_i i j
    split at e
    · rename_i c
      cases e
      exact .inl (.inl ⟨i, j, h1.1, h2.1, c, k _ S H [] (.refl _ _ _) ⟨rfl, rfl⟩ (Ft.nil sd)⟩)
    · cases e
  · rename_i o xs n
    split at e
    · rename_i c
      cases e
      obtain ⟨a, vs, rfl, q, r⟩ := h1.lst_at c.1
      refine .inl (.inr ⟨a, n, vs, rfl, h2.1, q, c.2.1, c.2.2.1, by rw [← r.len]; exact c.2.2.2, fun p hp => ?_⟩)
      exact k _ S _ [p] (go_new sd hp [p] (fun _ z => by simpa using z)) (rep_lst sd hp (r.rep _)) (ft_new sd hp)
    · cases e
  · rename_i xs n
    split at e
    · rename_i c
      cases e
      obtain ⟨a, vs, rfl, q, r⟩ := h1.tup_at c.1
      refine .inr ⟨a, n, vs, rfl, h2.1, q, fun z => ?_, c.2.2.1, c.2.2.2.1, by rw [← r.len]; exact c.2.2.2.2, fun p hp => ?_⟩
      · subst z
        exact c.2.1 (List.eq_nil_of_length_eq_zero (by have := r.len; simpa using this))
      · exact k _ S _ [] (go_new sd hp [] (fun _ z => nomatch z)) (rep_tup sd hp (r.rep _)) (Ft.nil (sd_new sd))
    · cases e
  · cases e
/-! ### sums of ints -/
def intsOf : List D → Option (List Int)
  | [] => some []
  | .int i :: ds => (intsOf ds).map (i :: ·)
  | _ :: _ => none
theorem RepL.ints_of : ∀ {ds : List D} {vs : List V} {T : Fp} {ns : List Int}, intsOf ds = some ns → RepL K S H ds vs T → vs = ns.map V.int ∧ T = []
  | [], vs, T, ns, e, h => by cases e; exact h
  | .int i :: ds, vs, T, ns, e, h => by
    obtain ⟨v, t, A1, B1, e1, e2, h1, h2⟩ := h
    unfold intsOf at e
    cases q : intsOf ds with
    | none => rw [q] at e; cases e
    | some ms =>
      rw [q] at e
      cases e
      obtain ⟨rfl, rfl⟩ := RepL.ints_of q h2
      subst e1 e2
      exact ⟨by rw [h1.1]; rfl, by rw [h1.2]; rfl⟩
  | .non :: _, _, _, _, e, _ => by cases e
  | .bl _ :: _, _, _, _, e, _ => by cases e
  | .str _ :: _, _, _, _, e, _ => by cases e
  | .tup _ :: _, _, _, _, e, _ => by cases e
  | .lst _ _ :: _, _, _, _, e, _ => by cases e
  | .scr _ :: _, _, _, _, e, _ => by cases e
  | .exc _ :: _, _, _, _, e, _ => by cases e
/-- a list of ints, read -/
theorem Rep.ints_at {o : Bool} {ds : List D} {ns : List Int} {v : V} (h : Rep K S H (.lst o ds) v T) (e : intsOf ds = some ns) : ∃ a, v = .ref a ∧ SqL K H a (ns.map V.int) := by
  cases o with
  | true =>
    obtain ⟨a, vs, G, rfl, q, _, r⟩ := h
    rw [(RepL.ints_of e r).1] at q
    exact ⟨a, rfl, .inl (.inl q)⟩
  | false =>
    obtain ⟨_, a, vs, rfl, q, r⟩ := h
    rw [(RepL.ints_of e r).1] at q
    exact ⟨a, rfl, .inl (.inl q.1)⟩
def dSum : List D → Option D
  | [.lst _ ds] => (intsOf ds).map fun ns => .int ns.sum
  | _ => none
theorem vl_sum : VL K (rSum K) dSum := by
  intro S H ds vs T1 Q sd h ⟨d, e, k⟩
  unfold dSum at e
  split at e
  · rename_i o ds
    obtain ⟨v, t, A1, B1, rfl, rfl, h1, rfl, rfl⟩ := h
    cases q : intsOf ds with
    | none => rw [q] at e; cases e
    | some ns =>
      rw [q] at e
      cases e
      obtain ⟨a, rfl, r⟩ := h1.ints_at q
      exact ⟨a, ns, rfl, r, k _ S H [] (.refl _ _ _) ⟨rfl, rfl⟩ (Ft.nil sd)⟩
  · cases e
end
theorem bt_sum : bootBuiltins "sum" = some (.builtin "sum") := by decide +kernel
theorem bt_sorted : bootBuiltins "sorted" = some (.builtin "sorted") := by decide +kernel
end DL

/-! DX2: in, not in; sorted, min, max of ints. -/
namespace DL
open PySem PySem.Spec PyProof.Rows L2
section
variable {X : Cx} {W : WT} {K : PySem.W.Frag} {S S' S1 : Addr → Prop} {H H' H1 : Hp} {F F' F1 T : Fp}
theorem Room.u65 {k : Nat} {A : Around} (r : Room k A) : A.units + 65 < cLine := by have := r.un; omega
/-! ### in -/
def rInA (K : PySem.W.Frag) (neg : Bool) : R2 := fun x y H Q => ∃ d ds, Dp K H x d ∧ SeqAt.shaped d = true ∧ ((Dp K H y (.list ds) ∧ SeqAt.shaped (.list ds) = true) ∨ (Dp K H y (.tuple ds) ∧ SeqAt.shaped (.tuple ds) = true)) ∧ Q (.bl (neg != ds.any fun z => PyData.eqv z d)) H
theorem op_inA (hu : X.A.units + 65 < cLine) : OpR X (compareOp .In) (rInA X.K false) := by
  intro pins s σ H x y v u Q I rx ry h
  obtain ⟨d, ds, hd, sd, hy, q⟩ := h
  obtain ⟨as, r1⟩ := Dp.reads I d x v hd rx
  have q' : Q (.bl (ds.any fun z => PyData.eqv z d)) H := by simpa using q
  rcases hy with ⟨he, se⟩ | ⟨he, se⟩
  · obtain ⟨bs, r2⟩ := Dp.reads I (.list ds) y u he ry
    exact SeqAt.in_list_reads r2 r1 (SeqAt.canLay_of_shaped se) (SeqAt.canLay_of_shaped sd) (room_in_shaped sd hu) ⟨.bl _, H, I, rfl, q'⟩
  · obtain ⟨bs, r2⟩ := Dp.reads I (.tuple ds) y u he ry
    exact SeqAt.in_tuple_reads r2 r1 (SeqAt.canLay_of_shaped (d := .tuple ds) se) (SeqAt.canLay_of_shaped sd) (room_in_shaped sd hu) ⟨.bl _, H, I, rfl, q'⟩
theorem op_ninA (hu : X.A.units + 65 < cLine) : OpR X (compareOp .NotIn) (rInA X.K true) := by
  intro pins s σ H x y v u Q I rx ry h
  obtain ⟨d, ds, hd, sd, hy, q⟩ := h
  obtain ⟨as, r1⟩ := Dp.reads I d x v hd rx
  have q' : Q (.bl (!ds.any fun z => PyData.eqv z d)) H := by simpa using q
  rcases hy with ⟨he, se⟩ | ⟨he, se⟩
  · obtain ⟨bs, r2⟩ := Dp.reads I (.list ds) y u he ry
    exact SeqAt.notIn_list_reads r2 r1 (SeqAt.canLay_of_shaped se) (SeqAt.canLay_of_shaped sd) (room_in_shaped sd hu) ⟨.bl _, H, I, rfl, q'⟩
  · obtain ⟨bs, r2⟩ := Dp.reads I (.tuple ds) y u he ry
    exact SeqAt.notIn_tuple_reads r2 r1 (SeqAt.canLay_of_shaped (d := .tuple ds) se) (SeqAt.canLay_of_shaped sd) (room_in_shaped sd hu) ⟨.bl _, H, I, rfl, q'⟩
def inD (neg : Bool) (x y : D) : Option D := match y with
  | .lst _ ds => if x.dep ≤ 64 ∧ y.dep ≤ 64 then some (.bl (neg != ds.any fun z => D.eqv z x)) else none
  | .tup ds => if x.dep ≤ 64 ∧ y.dep ≤ 64 then some (.bl (neg != ds.any fun z => D.eqv z x)) else none
  | _ => none
abbrev dIn : D → D → Option D := inD false
abbrev dNin : D → D → Option D := inD true
theorem any_py {x : D} (hx : x.dep < 100) : ∀ {ds : List D}, D.depL ds < 100 → ((D.pyL ds).any fun z => PyData.eqv z x.py) = ds.any fun z => D.eqv z x
  | [], _ => rfl
  | d :: ds, h => by
    simp only [D.depL] at h
    show (PyData.eqv d.py x.py || (D.pyL ds).any _) = _
    rw [D.eqv_py d x (by omega) hx, any_py hx (by omega)]
    rfl
theorem v2_in {neg : Bool} : V2 K (rInA K neg) (inD neg) := by
  intro S H d1 d2 v1 v2 T1 T2 Q sd h1 h2 ⟨d, e, k⟩
  unfold inD at e
  split at e
  · rename_i o ds
    split at e
    · rename_i c
      cases e
      have c2 := c.2
      refine ⟨d1.py, D.pyL ds, Rep.dp d1 v1 T1 (by omega) h1, shaped_py c.1, .inl ⟨Rep.dp (.lst o ds) v2 T2 (by omega) h2, shaped_py c2⟩, ?_⟩
      rw [any_py (by omega) (by simp only [D.dep] at c2; omega)]
      exact k _ S H [] (.refl _ _ _) ⟨rfl, rfl⟩ (Ft.nil sd)
    · cases e
  · rename_i ds
    split at e
    · rename_i c
      cases e
      have c2 := c.2
      refine ⟨d1.py, D.pyL ds, Rep.dp d1 v1 T1 (by omega) h1, shaped_py c.1, .inr ⟨Rep.dp (.tup ds) v2 T2 (by omega) h2, shaped_py c2⟩, ?_⟩
      rw [any_py (by omega) (by simp only [D.dep] at c2; omega)]
      exact k _ S H [] (.refl _ _ _) ⟨rfl, rfl⟩ (Ft.nil sd)
    · cases e
  · cases e
/-! ### sorted, min, max -/
theorem sorted_eq : ∀ {xs ys : List Int}, xs.Perm ys → xs.Pairwise (· ≤ ·) → ys.Pairwise (· ≤ ·) → xs = ys
  | [], ys, p, _, _ => (List.Perm.nil_eq p)
  | x :: xs, [], p, _, _ => absurd p.symm (List.Perm.nil_eq · |> fun z => by cases z)
  | x :: xs, y :: ys, p, hx, hy => by
    have hx' := List.pairwise_cons.mp hx
    have hy' := List.pairwise_cons.mp hy
    have e : x = y := by
      have h1 : x ∈ y :: ys := p.mem_iff.mp (by simp)
      have h2 : y ∈ x :: xs := p.mem_iff.mpr (by simp)
      rcases List.mem_cons.mp h1 with h1 | h1
      · exact h1
      · rcases List.mem_cons.mp h2 with h2 | h2
        · exact h2.symm
        · exact Int.le_antisymm (hx'.1 y h2) (hy'.1 x h1)
    subst e
    rw [sorted_eq (List.Perm.cons_inv p) hx'.2 hy'.2]
/-- the ints in order -/
def srt (ns : List Int) : List Int := ns.mergeSort (fun a b => decide (a ≤ b))
theorem srt_perm (ns : List Int) : (srt ns).Perm ns := List.mergeSort_perm _ _
theorem srt_le (ns : List Int) : (srt ns).Pairwise (· ≤ ·) := by
  have := List.pairwise_mergeSort (le := fun a b : Int => decide (a ≤ b)) (fun a b c h1 h2 => by simp at *; omega) (fun a b => by simp; omega) ns
  exact this.imp (by simp)
def dSorted : List D → Option D
  | [.lst _ ds] => (intsOf ds).map fun ns => .lst true ((srt ns).map .int)
  | _ => none
theorem RepL.of_ints : ∀ {ns : List Int}, RepL K S H (ns.map D.int) (ns.map V.int) []
  | [] => ⟨rfl, rfl⟩
  | n :: ns => ⟨.int n, ns.map V.int, [], [], rfl, rfl, ⟨rfl, rfl⟩, RepL.of_ints⟩
theorem vl_sorted : VL K (rSortedI K) dSorted := by
  intro S H ds vs T1 Q sd h ⟨d, e, k⟩
  unfold dSorted at e
  split at e
  · rename_i o ds
    obtain ⟨v, t, A1, B1, rfl, rfl, h1, rfl, rfl⟩ := h
    cases q : intsOf ds with
    | none => rw [q] at e; cases e
    | some ns =>
      rw [q] at e
      cases e
      obtain ⟨a, rfl, r⟩ := h1.ints_at q
      refine ⟨a, ns, rfl, r, fun ns' p hp hs hn => ?_⟩
      rw [sorted_eq (hp.trans (srt_perm ns).symm) hs (srt_le ns)]
      exact k _ S _ [p] (go_new sd hn [p] (fun _ z => by simpa using z)) (rep_lst sd hn RepL.of_ints) (ft_new sd hn)
  · cases e
def lmax : List Int → Option Int
  | [] => none
  | n :: ns => some (ns.foldl max n)
def lmin : List Int → Option Int
  | [] => none
  | n :: ns => some (ns.foldl min n)
theorem foldl_max (ns : List Int) : ∀ n : Int, (ns.foldl max n ∈ n :: ns) ∧ ∀ y ∈ n :: ns, y ≤ ns.foldl max n := by
  induction ns with
  | nil => intro n; simp
  | cons m ns ih =>
    intro n
    obtain ⟨h1, h2⟩ := ih (max n m)
    refine ⟨?_, fun y hy => ?_⟩
    · rw [List.foldl_cons]
      rcases List.mem_cons.mp h1 with e | e
      · rw [e]
        rcases Int.le_total n m with c | c
        · rw [Int.max_eq_right c]; simp
        · rw [Int.max_eq_left c]; simp
      · exact List.mem_cons_of_mem _ (List.mem_cons_of_mem _ e)
    · rw [List.foldl_cons]
      have h3 := h2 (max n m) (by simp)
      rcases List.mem_cons.mp hy with rfl | hy
      · omega
      · rcases List.mem_cons.mp hy with rfl | hy
        · omega
        · exact h2 y (by simp [hy])
theorem foldl_min (ns : List Int) : ∀ n : Int, (ns.foldl min n ∈ n :: ns) ∧ ∀ y ∈ n :: ns, ns.foldl min n ≤ y := by
  induction ns with
  | nil => intro n; simp
  | cons m ns ih =>
    intro n
    obtain ⟨h1, h2⟩ := ih (min n m)
    refine ⟨?_, fun y hy => ?_⟩
    · rw [List.foldl_cons]
      rcases List.mem_cons.mp h1 with e | e
      · rw [e]
        rcases Int.le_total n m with c | c
        · rw [Int.min_eq_left c]; simp
        · rw [Int.min_eq_right c]; simp
      · exact List.mem_cons_of_mem _ (List.mem_cons_of_mem _ e)
    · rw [List.foldl_cons]
      have h3 := h2 (min n m) (by simp)
      rcases List.mem_cons.mp hy with rfl | hy
      · omega
      · rcases List.mem_cons.mp hy with rfl | hy
        · omega
        · exact h2 y (by simp [hy])
def dMaxL : List D → Option D
  | [.lst _ ds] => ((intsOf ds).bind lmax).map .int
  | _ => none
def dMinL : List D → Option D
  | [.lst _ ds] => ((intsOf ds).bind lmin).map .int
  | _ => none
theorem vl_maxL : VL K (rMax K) dMaxL := by
  intro S H ds vs T1 Q sd h ⟨d, e, k⟩
  unfold dMaxL at e
  split at e
  · rename_i o ds
    obtain ⟨v, t, A1, B1, rfl, rfl, h1, rfl, rfl⟩ := h
    cases q : intsOf ds with
    | none => rw [q] at e; cases e
    | some ns =>
      cases ns with
      | nil => rw [q] at e; cases e
      | cons n ns =>
        rw [q] at e
        cases e
        obtain ⟨a, rfl, r⟩ := h1.ints_at q
        refine ⟨a, n :: ns, rfl, r, by simp, fun m hm hle => ?_⟩
        obtain ⟨h3, h4⟩ := foldl_max ns n
        rw [Int.le_antisymm (h4 m hm) (hle _ h3)]
        exact k _ S H [] (.refl _ _ _) ⟨rfl, rfl⟩ (Ft.nil sd)
  · cases e
theorem vl_minL : VL K (rMin K) dMinL := by
  intro S H ds vs T1 Q sd h ⟨d, e, k⟩
  unfold dMinL at e
  split at e
  · rename_i o ds
    obtain ⟨v, t, A1, B1, rfl, rfl, h1, rfl, rfl⟩ := h
    cases q : intsOf ds with
    | none => rw [q] at e; cases e
    | some ns =>
      cases ns with
      | nil => rw [q] at e; cases e
      | cons n ns =>
        rw [q] at e
        cases e
        obtain ⟨a, rfl, r⟩ := h1.ints_at q
        refine ⟨a, n :: ns, rfl, r, by simp, fun m hm hle => ?_⟩
        obtain ⟨h3, h4⟩ := foldl_min ns n
        rw [Int.le_antisymm (hle _ h3) (h4 m hm)]
        exact k _ S H [] (.refl _ _ _) ⟨rfl, rfl⟩ (Ft.nil sd)
  · cases e
end
end DL

/-! DX3: zip, enumerate, reversed as what is walked. -/
namespace DL
open PySem PySem.Spec PyProof.Rows L2 RZ RT
def zipD : List D → List D → List D
  | x :: xs, y :: ys => .tup [x, y] :: zipD xs ys
  | _, _ => []
def enuF : Nat → List D → List D
  | i, x :: xs => .tup [.int i, x] :: enuF (i + 1) xs
  | _, [] => []
theorem zipD_get : ∀ {xs ys : List D} {i : Nat} {d : D}, (zipD xs ys)[i]? = some d → ∃ x y, xs[i]? = some x ∧ ys[i]? = some y ∧ d = .tup [x, y]
  | [], _, _, _, h => by simp [zipD] at h
  | _ :: _, [], _, _, h => by simp [zipD] at h
  | x :: xs, y :: ys, 0, d, h => by
    simp [zipD] at h
    exact ⟨x, y, rfl, rfl, h.symm⟩
  | x :: xs, y :: ys, i + 1, d, h => by
    simp only [zipD, List.getElem?_cons_succ] at h ⊢
    exact zipD_get h
theorem zipD_len : ∀ {xs ys : List D}, (zipD xs ys).length = min xs.length ys.length
  | [], _ => by simp [zipD]
  | _ :: _, [] => by simp [zipD]
  | x :: xs, y :: ys => by simp only [zipD, List.length_cons, zipD_len]; omega
theorem enuF_get : ∀ {xs : List D} {k i : Nat} {d : D}, (enuF k xs)[i]? = some d → ∃ x, xs[i]? = some x ∧ d = .tup [.int ((k + i : Nat) : Int), x]
  | [], _, _, _, h => by simp [enuF] at h
  | x :: xs, k, 0, d, h => by
    simp only [enuF, List.getElem?_cons_zero, Option.some.injEq] at h
    exact ⟨x, rfl, by rw [← h]; simp⟩
  | x :: xs, k, i + 1, d, h => by
    simp only [enuF, List.getElem?_cons_succ] at h ⊢
    obtain ⟨y, h1, h2⟩ := enuF_get h
    exact ⟨y, h1, by rw [h2]; congr 3; omega⟩
@[simp] theorem enuF_len : ∀ {xs : List D} {k : Nat}, (enuF k xs).length = xs.length
  | [], _ => (rfl)
  | x :: xs, k => by simp [enuF, enuF_len]
section
variable {X : Cx} {W : WT} {K : PySem.W.Frag} {e e2 a : Expr} {S S' S1 : Addr → Prop} {H H' H1 : Hp} {F F' F1 T : Fp} {σ : L2.St} {p pos tpos : Pos} {elts : List Expr} {kk : Nat} {tg : Expr}
theorem pair_new {d1 d2 : D} {v1 v2 : V} {t : Addr} (sd : ∀ a, S a → H a ≠ none) (hn : H t = none) (h1 : Rep K S H d1 v1 []) (h2 : Rep K S H d2 v2 []) : Go S H [] S (upd H t (.tup [v1, v2])) [] ∧ (∀ a, S a → upd H t (.tup [v1, v2]) a ≠ none) ∧ Rep K S (upd H t (.tup [v1, v2])) (.tup [d1, d2]) (.ref t) [] :=
  ⟨go_new sd hn [] (fun _ z => nomatch z), sd_new sd, rep_tup sd hn ⟨v1, [v2], [], [], rfl, rfl, h1, RepL.one h2⟩⟩
theorem itok_zipT {xs ys : List D} {a b : Addr} {T : Fp} (c1 : D.shL xs = true) (c2 : D.shL ys = true) : ItOk K (ItzT K a b) (fun S H => RepL K S H [.tup xs, .tup ys] [.ref a, .ref b] T) (zipD xs ys) := by
  have open_ : ∀ {S H}, RepL K S H [.tup xs, .tup ys] [.ref a, .ref b] T → ∃ vs ws, SqT K H a vs ∧ SqT K H b ws ∧ RepL K S H xs vs [] ∧ RepL K S H ys ws [] := fun {S H} q => by
    obtain ⟨v, t, A1, B1, e1, e2, h1, v', t', A2, B2, e3, e4, h2, e5, e6⟩ := q
    obtain ⟨rfl, rfl⟩ := List.cons.inj e1
    obtain ⟨rfl, rfl⟩ := List.cons.inj e3
    obtain ⟨a', vs, ea, q1, r1⟩ := h1.tup_at c1
    obtain ⟨b', ws, eb, q2, r2⟩ := h2.tup_at c2
    cases ea; cases eb
    exact ⟨vs, ws, q1, q2, r1, r2⟩
  refine ⟨fun i d S H e q sd => ?_, fun S H q => ?_⟩
  · obtain ⟨vs, ws, q1, q2, r1, r2⟩ := open_ q
    obtain ⟨x, y, ex, ey, rfl⟩ := zipD_get e
    obtain ⟨v, e1, h1⟩ := r1.items ex
    obtain ⟨w, e2, h2⟩ := r2.items ey
    refine ⟨⟨vs, ws, v, w, q1, q2, e1, e2⟩, fun z H' hz => ?_⟩
    obtain ⟨t, v', w', rfl, hn, rfl, k1, k2⟩ := hz
    have z1 := k1 vs q1
    have z2 := k2 ws q2
    rw [e1] at z1
    rw [e2] at z2
    cases z1; cases z2
    exact pair_new sd hn h1 h2
  · obtain ⟨vs, ws, q1, q2, r1, r2⟩ := open_ q
    exact ⟨vs, ws, q1, q2, by rw [zipD_len, ← r1.len, ← r2.len]; omega⟩
theorem itok_zipL {o1 o2 : Bool} {xs ys : List D} {a b : Addr} {T : Fp} (c1 : D.shL xs = true) (c2 : D.shL ys = true) : ItOk K (Itz K a b) (fun S H => RepL K S H [.lst o1 xs, .lst o2 ys] [.ref a, .ref b] T) (zipD xs ys) := by
  have open_ : ∀ {S H}, RepL K S H [.lst o1 xs, .lst o2 ys] [.ref a, .ref b] T → ∃ vs ws, SqL K H a vs ∧ SqL K H b ws ∧ RepL K S H xs vs [] ∧ RepL K S H ys ws [] := fun {S H} q => by
    obtain ⟨v, t, A1, B1, e1, e2, h1, v', t', A2, B2, e3, e4, h2, e5, e6⟩ := q
    obtain ⟨rfl, rfl⟩ := List.cons.inj e1
    obtain ⟨rfl, rfl⟩ := List.cons.inj e3
    obtain ⟨a', vs, ea, q1, r1⟩ := h1.lst_at c1
    obtain ⟨b', ws, eb, q2, r2⟩ := h2.lst_at c2
    cases ea; cases eb
    exact ⟨vs, ws, .inl (.inl q1), .inl (.inl q2), r1, r2⟩
  refine ⟨fun i d S H e q sd => ?_, fun S H q => ?_⟩
  · obtain ⟨vs, ws, q1, q2, r1, r2⟩ := open_ q
    obtain ⟨x, y, ex, ey, rfl⟩ := zipD_get e
    obtain ⟨v, e1, h1⟩ := r1.items ex
    obtain ⟨w, e2, h2⟩ := r2.items ey
    refine ⟨⟨vs, ws, v, w, q1, q2, e1, e2⟩, fun z H' hz => ?_⟩
    obtain ⟨t, v', w', rfl, hn, rfl, k1, k2⟩ := hz
    have z1 := k1 vs q1
    have z2 := k2 ws q2
    rw [e1] at z1
    rw [e2] at z2
    cases z1; cases z2
    exact pair_new sd hn h1 h2
  · obtain ⟨vs, ws, q1, q2, r1, r2⟩ := open_ q
    exact ⟨vs, ws, q1, q2, by rw [zipD_len, ← r1.len, ← r2.len]; omega⟩
theorem itok_enuL {o : Bool} {xs : List D} {a : Addr} {T : Fp} (c : D.shL xs = true) : ItOk K (Ite K a) (fun S H => Rep K S H (.lst o xs) (.ref a) T) (enuF 0 xs) := by
  refine ⟨fun i d S H e q sd => ?_, fun S H q => ?_⟩
  · obtain ⟨b, vs, eb, q1, r1⟩ := q.lst_at c
    cases eb
    obtain ⟨x, ex, rfl⟩ := enuF_get e
    obtain ⟨v, e1, h1⟩ := r1.items ex
    refine ⟨⟨vs, v, .inl (.inl q1), e1⟩, fun z H' hz => ?_⟩
    obtain ⟨t, v', rfl, hn, rfl, k1⟩ := hz
    have z1 := k1 vs (.inl (.inl q1))
    rw [e1] at z1
    cases z1
    rw [Nat.zero_add]
    exact pair_new (d1 := .int (i : Nat)) sd hn ⟨rfl, rfl⟩ h1
  · obtain ⟨b, vs, eb, q1, r1⟩ := q.lst_at c
    cases eb
    exact ⟨vs, .inl (.inl q1), by rw [enuF_len, ← r1.len]; exact Nat.le_refl _⟩
theorem itok_rev {o : Bool} {xs : List D} {a : Addr} {T : Fp} (c : D.shL xs = true) : ItOk K (Itv K a xs.length) (fun S H => Rep K S H (.lst o xs) (.ref a) T) xs.reverse := by
  refine ⟨fun i d S H e q sd => ?_, fun S H q => by rw [List.length_reverse]; exact Nat.le_refl _⟩
  obtain ⟨b, vs, eb, q1, r1⟩ := q.lst_at c
  cases eb
  have hi : i < xs.length := by have := (List.getElem?_eq_some_iff.mp e).1; simpa using this
  rw [List.getElem?_reverse hi] at e
  obtain ⟨v, e1, h1⟩ := r1.items e
  refine ⟨⟨hi, vs, v, .inl (.inl q1), e1⟩, fun z H' hz => ?_⟩
  obtain ⟨rfl, k1⟩ := hz
  have z1 := k1 vs (.inl (.inl q1))
  rw [e1] at z1
  cases z1
  exact ⟨.refl _ _ _, sd, h1⟩
theorem itok_revT {xs : List D} {a : Addr} {T : Fp} (c : D.shL xs = true) : ItOk K (ItvT K a xs.length) (fun S H => Rep K S H (.tup xs) (.ref a) T) xs.reverse := by
  refine ⟨fun i d S H e q sd => ?_, fun S H q => by rw [List.length_reverse]; exact Nat.le_refl _⟩
  obtain ⟨b, vs, eb, q1, r1⟩ := q.tup_at c
  cases eb
  have hi : i < xs.length := by have := (List.getElem?_eq_some_iff.mp e).1; simpa using this
  rw [List.getElem?_reverse hi] at e
  obtain ⟨v, e1, h1⟩ := r1.items e
  refine ⟨⟨hi, vs, v, q1, e1⟩, fun z H' hz => ?_⟩
  obtain ⟨rfl, k1⟩ := hz
  have z1 := k1 vs q1
  rw [e1] at z1
  cases z1
  exact ⟨.refl _ _ _, sd, h1⟩
def zipE (ds : List D) (r : DL.Env) : Res (List D) := match ds with
  | [.tup xs, .tup ys] => if D.shL xs = true ∧ D.shL ys = true then .ok (zipD xs ys) r else .stk
  | [.lst _ xs, .lst _ ys] => if D.shL xs = true ∧ D.shL ys = true then .ok (zipD xs ys) r else .stk
  | _ => .stk
def enuE (ds : List D) (r : DL.Env) : Res (List D) := match ds with
  | [.lst _ xs] => if D.shL xs = true then .ok (enuF 0 xs) r else .stk
  | _ => .stk
def rvE (d : D) (r : DL.Env) : Res (List D) := match d with
  | .lst _ xs => if D.shL xs = true then .ok xs.reverse r else .stk
  | .tup xs => if D.shL xs = true then .ok xs.reverse r else .stk
  | _ => .stk
def iZp (E : DL.Env → Res (List D)) : DL.Env → Res (List D) := fun r => (E r).bind zipE
def iEn (E : DL.Env → Res (List D)) : DL.Env → Res (List D) := fun r => (E r).bind enuE
def iRv (E : EE) : DL.Env → Res (List D) := fun r => (E r).bind rvE
theorem n_izip {E : DL.Env → Res (List D)} (hm : X.mg "zip" = none) (h : DA X W [e, e2] E) (hg : Gl X "zip" := by rfl) (hs : starEach [e, e2] X.env = (false, eval e X.env) :: starEach [e2] X.env := by rfl) (hpl : (backTo pos (starEach [e2] X.env)).any (·.1) = false := by rfl) :
    DI X W (.Tuple elts kk tpos) (.Call (.Name "zip" p) [e, e2] [] pos) (iZp E) := by
  obtain ⟨t, q, z⟩ := h
  refine ⟨_, pi_zipA hg hm q hs hpl, fun S H r σ F R x y => z S H r σ F _ x (IP1.bind y fun ds r1 vs S1 H1 F1 T1 g1 x1 h1 f1 y1 => ?_)⟩
  have st : ∀ S2 H2 F2 S3 H3 F3, RepL X.K S2 H2 ds vs T1 → Ft S2 H2 (T1 ++ F2) → Go S2 H2 F2 S3 H3 F3 → RepL X.K S3 H3 ds vs T1 := fun S2 H2 F2 S3 H3 F3 p f g => RepL.go g f.right ds vs T1 f.apart p
  unfold zipE at y1
  split at y1
  · rename_i xs ys
    split at y1
    · rename_i c
      obtain ⟨v, t, A1, B1, rfl, rfl, k1, v', t', A2, B2, rfl, rfl, k2, rfl, rfl⟩ := id h1
      obtain ⟨a, vs, rfl, q1, r1⟩ := k1.tup_at c.1
      obtain ⟨b, ws, rfl, q2, r2⟩ := k2.tup_at c.2
      exact ⟨a, b, vs, ws, rfl, .inr ⟨q1, q2, y1 _ S1 H1 F1 _ _ g1 x1 f1 (itok_zipT c.1 c.2) h1 st⟩⟩
    · exact y1.elim
  · rename_i o1 xs o2 ys
    split at y1
    · rename_i c
      obtain ⟨v, t, A1, B1, rfl, rfl, k1, v', t', A2, B2, rfl, rfl, k2, rfl, rfl⟩ := id h1
      obtain ⟨a, vs, rfl, q1, r1⟩ := k1.lst_at c.1
      obtain ⟨b, ws, rfl, q2, r2⟩ := k2.lst_at c.2
      exact ⟨a, b, vs, ws, rfl, .inl ⟨.inl (.inl q1), .inl (.inl q2), y1 _ S1 H1 F1 _ _ g1 x1 f1 (itok_zipL c.1 c.2) h1 st⟩⟩
    · exact y1.elim
  · exact y1.elim
theorem n_irev {E : EE} (hm : X.mg "reversed" = none) (h : DE X W e E) (hg : Gl X "reversed" := by rfl) (hs : starEach [e] X.env = (false, eval e X.env) :: starEach [] X.env := by rfl) : DI X W tg (.Call (.Name "reversed" p) [e] [] pos) (iRv E) := by
  obtain ⟨t, q, z⟩ := h
  refine ⟨_, pi_revA hg hm q hs, fun S H r σ F R x y => z S H r σ F _ x (IP1.bind y fun d r1 v S1 H1 F1 T1 g1 x1 h1 f1 y1 => ?_)⟩
  have st : ∀ S2 H2 F2 S3 H3 F3, Rep X.K S2 H2 d v T1 → Ft S2 H2 (T1 ++ F2) → Go S2 H2 F2 S3 H3 F3 → Rep X.K S3 H3 d v T1 := fun S2 H2 F2 S3 H3 F3 p f g => Rep.go g f.right d v T1 f.apart p
  unfold rvE at y1
  split at y1
  · rename_i o xs
    split at y1
    · rename_i c
      obtain ⟨a, vs, rfl, q1, r1⟩ := h1.lst_at c
      refine ⟨a, vs, rfl, .inl ⟨.inl (.inl q1), ?_⟩⟩
      rw [← r1.len]
      exact y1 _ S1 H1 F1 T1 _ g1 x1 f1 (itok_rev c) h1 st
    · exact y1.elim
  · rename_i xs
    split at y1
    · rename_i c
      obtain ⟨a, vs, rfl, q1, r1⟩ := h1.tup_at c
      refine ⟨a, vs, rfl, .inr ⟨q1, ?_⟩⟩
      rw [← r1.len]
      exact y1 _ S1 H1 F1 T1 _ g1 x1 f1 (itok_revT c) h1 st
    · exact y1.elim
  · exact y1.elim
theorem n_ienu {E : DL.Env → Res (List D)} (hm : X.mg "enumerate" = none) (h : DA X W [e] E) (hg : Gl X "enumerate" := by rfl) (hs : starEach [e] X.env = [(false, eval e X.env)] := by rfl) : DI X W (.Tuple elts kk tpos) (.Call (.Name "enumerate" p) [e] [] pos) (iEn E) := by
  obtain ⟨t, q, z⟩ := h
  refine ⟨_, pi_enum hg hm q hs, fun S H r σ F R x y => z S H r σ F _ x (IP1.bind y fun ds r1 vs S1 H1 F1 T1 g1 x1 h1 f1 y1 => ?_)⟩
  unfold enuE at y1
  split at y1
  · rename_i o xs
    split at y1
    · rename_i c
      obtain ⟨v, t, A1, B1, rfl, rfl, k1, rfl, rfl⟩ := h1
      obtain ⟨a, vs, rfl, q1, r1⟩ := k1.lst_at c
      have st : ∀ S2 H2 F2 S3 H3 F3, Rep X.K S2 H2 (.lst o xs) (.ref a) A1 → Ft S2 H2 ((A1 ++ []) ++ F2) → Go S2 H2 F2 S3 H3 F3 → Rep X.K S3 H3 (.lst o xs) (.ref a) A1 := fun S2 H2 F2 S3 H3 F3 p f g => Rep.go g f.right _ _ A1 (by simpa using f.apart) p
      exact ⟨a, vs, rfl, .inl (.inl q1), y1 _ S1 H1 F1 (A1 ++ []) _ g1 x1 f1 (itok_enuL c) k1 st⟩
    · exact y1.elim
  · exact y1.elim
end
end DL

/-! DX4: enumerate of a tuple. -/
namespace DL
open PySem PySem.Spec PyProof.Rows L2 PySem.W
theorem enum_made {v : Value} {o : Obj} {H : PySem.Heap → Prop} (B : Begins v o H) :
    Meets (Builtin.«enumerate.__new__» ⟨[.type "enumerate", v], []⟩) (fun _ R s => H s.heap ∧
      R (.ok (.ret (.ref (s.heap.push o).objs.size))) { s with heap := (s.heap.push o).push { cls := .type "enumerate", data := .fields #[.none, .bool false, .ref s.heap.objs.size, rawInt 0, .none, .none] } }) :=
  .of_wp fun prog w A R s h => by
    obtain ⟨hp, g, d, tk, os⟩ := s
    obtain ⟨h1, h⟩ := h
    have isub := sub_enumerate
    have it1 : ∀ {A' : Around} {E : Value → Shared → Prop} {Q : Value → Shared → Prop}, Q (.ref hp.objs.size) ⟨hp.push o, g, d, tk, os⟩ → wpAny (model prog w) A' (pyIter v) Q E ⟨hp, g, d, tk, os⟩ := fun q => B.iter prog w _ _ ⟨hp, g, d, tk, os⟩ _ h1 q
    wp_walk using it1
    refine wpAny_stack_any fun st => (wpAny_pure ?_)
    split
    · rename_i c _ _ _ _ _
      cases (c == Value.type "enumerate") <;>
      · wp_walk using it1
        exact ⟨_, rfl, h⟩
    · wp_walk using it1
      exact ⟨_, rfl, h⟩
section
variable {prog : Program} {w : World} {A : Around} {E : Value → Shared → Prop} {s : Shared}
theorem call_enum1 {v : Value} {o : Obj} {H : PySem.Heap → Prop} {Q : Value → Shared → Prop} (B : Begins v o H) (h1 : H s.heap)
    (h : ∀ h', IsEnum h' (s.heap.objs.size + 1) s.heap.objs.size 0 .none → h'.get? s.heap.objs.size = some o → h'.objs.size = s.heap.objs.size + 2 → (∀ b u, s.heap.get? b = some u → h'.get? b = some u) → Q (.ref (s.heap.objs.size + 1)) { s with heap := h' }) :
    wpAny (model prog w) A (call (.type "enumerate") [v]) Q E s := by
  refine callType_new F.called_enumerate (by decide) (F.typeCall_enumerate_1 _) (F.newCall_enumerate_1 _) (fun obj => F.args_object_init_2 obj _) F.entry_enumerate_new (enum_made B) ⟨h1, ?_⟩
  have sz : (s.heap.push o).objs.size = s.heap.objs.size + 1 := (Heap.size_push ..)
  show (_ ∧ _)
  rw [sz]
  have en : IsEnum ((s.heap.push o).push { cls := .type "enumerate", data := .fields #[.none, .bool false, .ref s.heap.objs.size, rawInt 0, .none, .none] }) (s.heap.objs.size + 1) s.heap.objs.size 0 .none := by
    have z := Heap.get?_push_size (s.heap.push o) (o := { cls := .type "enumerate", data := .fields #[.none, .bool false, .ref s.heap.objs.size, rawInt 0, .none, .none] }) rfl
    rw [sz] at z
    exact z
  exact ⟨⟨_, en, rfl⟩, h _ en (Heap.get?_push_of_some _ (Heap.get?_push_size _ B.free)) (by rw [Heap.size_push, sz]) fun b u x => Heap.get?_push_of_some _ (Heap.get?_push_of_some _ x)⟩
end
/-- the tuple at a, each item in a new pair -/
def IteT (K : PySem.W.Frag) (a : Addr) : It :=
  ⟨fun i H => ∃ (xs : List V) (x : V), SqT K H a xs ∧ xs[i]? = some x, fun i H v H' => ∃ T x, v = .ref T ∧ H T = none ∧ H' = upd H T (.tup [.int (i : Nat), x]) ∧ ∀ xs, SqT K H a xs → xs[i]? = some x, fun i H => ∃ xs : List V, SqT K H a xs ∧ xs.length ≤ i⟩
theorem turn_enumT {P : Program} {w : World} {K : PySem.W.Frag} {elts : List Expr} {kk : Nat} {tpos : Pos} (a e it : Addr) :
    Turn P w K (.Tuple elts kk tpos) (IteT K a) [e, it] e (fun i h => (∃ old, IsEnum h e it ((i : Nat) : Int) old) ∧ h.IsTupleIter it a i ∧ e ≠ it ∧ a ≠ it ∧ e ≠ a) where
  mem := by simp
  obj := fun i h ⟨⟨old, he⟩, ⟨o, ho, hc, hd⟩, _⟩ b hb => by
    have hb : b = e ∨ b = it := by simpa using hb
    rcases hb with z | z
    · rw [z]; exact ⟨_, he, fun v q => nomatch q⟩
    · rw [z]; exact ⟨o, ho, fun v q => by rw [hd] at q; cases q⟩
  keep := fun i h h' ⟨⟨old, he⟩, hi, hne⟩ k => ⟨⟨old, k e (by simp) _ he⟩, hi.at fun o q => k it (by simp) o q, hne⟩
  item := by
    intro X hP hw hK hc i pins s σ H E I hf st hg
    subst hP hw hK
    obtain ⟨⟨old, he⟩, hit, hne, hai, hea⟩ := st
    obtain ⟨xs, x, hq, hx⟩ := hg
    obtain ⟨its, rv, p, hz⟩ := I.tuple hq
    have hel : e < s.heap.objs.size := Heap.lt_size he
    have hil : it < s.heap.objs.size := by obtain ⟨_, q, _⟩ := hit; exact Heap.lt_size q
    have hlt : i < its.toArray.size := by
      have h1 := (List.getElem?_eq_some_iff.mp hx).1
      have h2 := rv.length
      rw [List.size_toArray]; omega
    refine (wpAny_pyNext_enum_itemD (Draws.tuple (A := X.A.in1) (I.ok.hd hc) it a hai its.toArray) he ⟨hit, p⟩ hlt hne (by simp; exact ⟨hne, hea⟩) fun u h' tk hPu ho hst' hT hsz hk => ?_)
    refine ⟨_, rfl, wpAny_letOwnedTupleGo_enum (s := { s with heap := h', toks := tk + 1 }) ho fun h'' he' sb => ?_⟩
    have hT2 : h''.get? s.heap.objs.size = some { cls := .type "tuple", data := .seq #[.int i tk, u] } := (sb.2 _ (Nat.ne_of_gt hel)).trans hT
    obtain ⟨u2, hu2, ru⟩ := rv.get hx
    have eu : u2 = u := by
      have : its[i]? = some u := by simpa using hPu
      rw [this] at hu2
      exact (Option.some.inj hu2).symm
    subst eu
    have nw : ObjOk X.prog X.w (upd H s.heap.objs.size (.tup [.int (i : Nat), x])) h'' s.heap.objs.size (.tup [.int (i : Nat), x]) :=
      ⟨by show 2 ≤ sizeLine; decide, [.int i tk, u2], .cons ⟨_, rfl⟩ (.cons ru .nil), ⟨_, hT2, rfl, _, rfl⟩⟩
    have I1 : Inv X pins σ (upd H s.heap.objs.size (.tup [.int (i : Nat), x])) { s with heap := h'', toks := tk + 1 } :=
      I.turnedNew (ch := [e, it]) (fun b ob hb q => (sb.2 b (fun z => hb (by simp [z]))).trans (hk b ob (fun z => hb (by simp [z])) (fun z => hb (by simp [z])) q)) hf (Nat.le_refl _) nw
    refine ⟨.ref s.heap.objs.size, _, I1, rfl, ⟨_, x, rfl, I.hok.fresh (Nat.le_refl _), rfl, fun ys hy => by rw [I.tuple_inj hy hq]; exact hx⟩, ⟨⟨u2, ?_⟩, hst'.1.at fun o q => (sb.2 it (Ne.symm hne)).trans q, hne, hai, hea⟩, fun b hb => ?_⟩
    · rw [show ((i + 1 : Nat) : Int) = (i : Int) + 1 by omega]
      exact he'
    · have lt : b < s.heap.objs.size := by
        have hb : b = e ∨ b = it := by simpa using hb
        rcases hb with z | z
        · rw [z]; exact hel
        · rw [z]; exact hil
      rw [upd_ne (Nat.ne_of_lt lt)]
      exact (hf b hb).1
  done := by
    intro X hP hw hK hc i pins s σ H E I hf st hg
    subst hP hw hK
    obtain ⟨⟨old, he⟩, hit, hne, hai, hea⟩ := st
    obtain ⟨xs, hq, hx⟩ := hg
    obtain ⟨its, rv, p, hz⟩ := I.tuple hq
    obtain ⟨f0, f1, f2, f3, f4, f5⟩ := hf it (by simp)
    have hl := rv.length
    have ty : s.TypeIs (.ref e) "enumerate" := ⟨_, he, rfl⟩
    unfold pyNext
    refine wpAny_bind (wpAny_attempt (wpAny_callSpecial?_slot (name := Str.ofString "__next__") ty F.slot_enumerate_next (wpAny_call_entry F.slot_enumerate_next ty F.entry_enumerate_next ?_ (F.args_enumerate_next_1 _))))
    show wpAny _ _ (field (.ref e) 2 >>= _) _ _ _
    refine wpAny_bind (wpAny_field he rfl (x := .ref it) rfl ?_)
    refine wpAny_bind (wpAny_nextOf_tuple_end (A := X.A.in1) (I.ok.hd hc) hit (show s.heap.IsTuple a its.toArray from p) (by simp; omega) fun h' x he' hx' => ?_)
    obtain ⟨o, ho, hco⟩ := hx'
    refine wpAny_bind (wpAny_isInstance (T := "StopIteration") (b := true) ⟨o, ho, hco⟩ isSubtype_stop ?_)
    exact wpAny_pure ⟨rfl, I.turned (t' := s.toks) (fun b u hb q => he' b u hb q) f0 f1 f3 f4 f5⟩
  self := fun A i s Q E ⟨⟨_, he⟩, _⟩ h => wpAny_pyIter_enum he h
/-- enumerate of a list or of a tuple -/
def iEnumA (K : PySem.W.Frag) (ta : TA) : TI := fun σ H R => ta σ H fun vs H1 => ∃ a xs, vs = [.ref a] ∧ ((SqL K H1 a xs ∧ R (Ite K a) H1) ∨ (SqT K H1 a xs ∧ R (IteT K a) H1))
theorem pi_enumA {X : Cx} {e : Expr} {ta : TA} {p pos tpos : Pos} {elts : List Expr} {kk : Nat} (hg : Gl X "enumerate") (hm : X.mg "enumerate" = none) (ha : PA X [e] ta) (hs : starEach [e] X.env = [(false, eval e X.env)] := by rfl) :
    PI X (.Tuple elts kk tpos) (.Call (.Name "enumerate" p) [e] [] pos) (iEnumA X.K ta) := by
  refine ⟨fun pins s σ H R I h => ?_⟩
  refine Call_ (ld_blt I hg hm boot_enumerate (PyProof.Rows.callWith_type1 (thn (ha.run pos pins s σ H _ I h) fun us s1 ⟨vs, H1, I1, r1, q1⟩ => ?_) hs rfl))
  obtain ⟨a, xs, ex, q⟩ := q1
  subst ex
  cases r1 with
  | cons r rr =>
    cases rr
    cases r
    have fin : ∀ (b : Addr), b = s1.heap.objs.size + 1 ∨ b = s1.heap.objs.size → FpOk X pins H1 b := fun b z => by
      have le : s1.heap.objs.size ≤ b := by
        rcases z with z | z
        · rw [z]; exact Nat.le_add_right _ _
        · rw [z]; exact Nat.le_refl _
      exact I1.fpOk le (I1.hok.fresh le)
    rcases q with ⟨hq, q⟩ | ⟨hq, q⟩
    · obtain ⟨its, rv, p', hz⟩ := I1.list hq
      refine call_enumerate_list p'.isList fun h' he hit hsz hk => (wpAny_pyIter_enum he ?_)
      have I2 : Inv X pins σ H1 { s1 with heap := h' } := I1.kept (t' := s1.toks) hk
      exact ⟨s1.heap.objs.size + 1, [s1.heap.objs.size + 1, s1.heap.objs.size], _, _, H1, rfl, I2, turn_enum a (s1.heap.objs.size + 1) s1.heap.objs.size, ⟨⟨.none, he⟩, hit, Nat.succ_ne_self _⟩, fun b hb => fin b (by simpa using hb), q⟩
    · obtain ⟨its, rv, p', hz⟩ := I1.tuple hq
      have hlt : a < s1.heap.objs.size := by obtain ⟨o, ho, _⟩ := (show s1.heap.IsTuple a its.toArray from p'); exact Heap.lt_size ho
      refine call_enum1 (begins_tuple a its.toArray) p' fun h' he hit hsz hk => (wpAny_pyIter_enum he ?_)
      have I2 : Inv X pins σ H1 { s1 with heap := h' } := I1.kept (t' := s1.toks) hk
      exact ⟨s1.heap.objs.size + 1, [s1.heap.objs.size + 1, s1.heap.objs.size], _, _, H1, rfl, I2, turn_enumT a (s1.heap.objs.size + 1) s1.heap.objs.size, ⟨⟨.none, he⟩, ⟨_, hit, rfl, rfl⟩, Nat.succ_ne_self _, Nat.ne_of_lt hlt, fun z => Nat.lt_irrefl _ (Nat.lt_trans (Nat.lt_of_lt_of_eq (Nat.lt_succ_self _) z) hlt)⟩, fun b hb => fin b (by simpa using hb), q⟩
section
variable {X : Cx} {W : WT} {K : PySem.W.Frag} {e : Expr} {T : Fp} {p pos tpos : Pos} {elts : List Expr} {kk : Nat}
theorem itok_enuT {xs : List D} {a : Addr} {T : Fp} (c : D.shL xs = true) : ItOk K (IteT K a) (fun S H => Rep K S H (.tup xs) (.ref a) T) (enuF 0 xs) := by
  refine ⟨fun i d S H e q sd => ?_, fun S H q => ?_⟩
  · obtain ⟨b, vs, eb, q1, r1⟩ := q.tup_at c
    cases eb
    obtain ⟨x, ex, rfl⟩ := enuF_get e
    obtain ⟨v, e1, h1⟩ := r1.items ex
    refine ⟨⟨vs, v, q1, e1⟩, fun z H' hz => ?_⟩
    obtain ⟨t, v', rfl, hn, rfl, k1⟩ := hz
    have z1 := k1 vs q1
    rw [e1] at z1
    cases z1
    rw [Nat.zero_add]
    exact pair_new (d1 := .int (i : Nat)) sd hn ⟨rfl, rfl⟩ h1
  · obtain ⟨b, vs, eb, q1, r1⟩ := q.tup_at c
    cases eb
    exact ⟨vs, q1, by rw [enuF_len, ← r1.len]; exact Nat.le_refl _⟩
def enuA (ds : List D) (r : DL.Env) : Res (List D) := match ds with
  | [.lst _ xs] => if D.shL xs = true then .ok (enuF 0 xs) r else .stk
  | [.tup xs] => if D.shL xs = true then .ok (enuF 0 xs) r else .stk
  | _ => .stk
def iEa (E : DL.Env → Res (List D)) : DL.Env → Res (List D) := fun r => (E r).bind enuA
theorem n_ienuA {E : DL.Env → Res (List D)} (hm : X.mg "enumerate" = none) (h : DA X W [e] E) (hg : Gl X "enumerate" := by rfl) (hs : starEach [e] X.env = [(false, eval e X.env)] := by rfl) : DI X W (.Tuple elts kk tpos) (.Call (.Name "enumerate" p) [e] [] pos) (iEa E) := by
  obtain ⟨t, q, z⟩ := h
  refine ⟨_, pi_enumA hg hm q hs, fun S H r σ F R x y => z S H r σ F _ x (IP1.bind y fun ds r1 vs S1 H1 F1 T1 g1 x1 h1 f1 y1 => ?_)⟩
  unfold enuA at y1
  split at y1
  · rename_i o xs
    split at y1
    · rename_i c
      obtain ⟨v, t, A1, B1, rfl, rfl, k1, rfl, rfl⟩ := h1
      obtain ⟨a, vs, rfl, q1, r1⟩ := k1.lst_at c
      have st : ∀ S2 H2 F2 S3 H3 F3, Rep X.K S2 H2 (.lst o xs) (.ref a) A1 → Ft S2 H2 ((A1 ++ []) ++ F2) → Go S2 H2 F2 S3 H3 F3 → Rep X.K S3 H3 (.lst o xs) (.ref a) A1 := fun S2 H2 F2 S3 H3 F3 p f g => Rep.go g f.right _ _ A1 (by simpa using f.apart) p
      exact ⟨a, vs, rfl, .inl ⟨.inl (.inl q1), y1 _ S1 H1 F1 (A1 ++ []) _ g1 x1 f1 (itok_enuL c) k1 st⟩⟩
    · exact y1.elim
  · rename_i xs
    split at y1
    · rename_i c
      obtain ⟨v, t, A1, B1, rfl, rfl, k1, rfl, rfl⟩ := h1
      obtain ⟨a, vs, rfl, q1, r1⟩ := k1.tup_at c
      have st : ∀ S2 H2 F2 S3 H3 F3, Rep X.K S2 H2 (.tup xs) (.ref a) A1 → Ft S2 H2 ((A1 ++ []) ++ F2) → Go S2 H2 F2 S3 H3 F3 → Rep X.K S3 H3 (.tup xs) (.ref a) A1 := fun S2 H2 F2 S3 H3 F3 p f g => Rep.go g f.right _ _ A1 (by simpa using f.apart) p
      exact ⟨a, vs, rfl, .inr ⟨q1, y1 _ S1 H1 F1 (A1 ++ []) _ g1 x1 f1 (itok_enuT c) k1 st⟩⟩
    · exact y1.elim
  · exact y1.elim
end
end DL

/-! DX5: tuple * 1. -/
namespace DL
open PySem PySem.Spec PyProof.Rows L2
open AutoSeq1 (wpAny_loadPart')
theorem tup_mul_same (l : Addr) (items : Array Value) (n : Nat) (dd : Option Addr) (sl : Array (Option Value)) (x : Int) (u : Tok) (c0 : (decide (x < -(2 ^ 63)) || decide (x ≥ 2 ^ 63)) = false) (c1 : (items.isEmpty || x == 1) = true) :
    Meets (Builtin.«tuple.__mul__» ⟨[.ref l, .int x u], []⟩) (fun _ R s => s.heap.get? l = some { cls := .type "tuple", dict := dd, data := .seq items n, slots := sl } ∧ R (.ok (.ret (Value.ref l))) s) :=
  .of_wp fun prog w A R s h => by
    obtain ⟨hp, g, d, tk, os⟩ := s
    obtain ⟨hl, h⟩ := h
    have f1 := AutoSeq1.idx_int
    wp_walk using wpAny_loadPart' hl
    refine wpAny_ite_false (decide_eq_false (by rw [c0]; exact Bool.false_ne_true)) ?_
    wp_walk using wpAny_loadPart' hl
    exact ⟨_, rfl, h⟩

def rRepS (K : PySem.W.Frag) : R2 := fun x y H Q => ∃ l k xs, x = .ref l ∧ y = .int k ∧ SqT K H l xs ∧ (k = 1 ∨ xs = []) ∧ -(2 ^ 63) ≤ k ∧ k < 2 ^ 63 ∧ Q (.ref l) H
section
variable {X : Cx}
theorem op_repS : OpR X (binaryOp .Mult) (rRepS X.K) := by
  intro pins s σ H x y v u Q I rx ry h
  obtain ⟨l, k, xs, rfl, rfl, hT, hne, h1, h2, q⟩ := h
  cases rx
  obtain ⟨t, rfl⟩ := ry
  obtain ⟨its, r, ⟨⟨cls, dd, data, sl⟩, ho, hc, n, hd⟩, hs⟩ := I.tuple hT
  simp only at hc hd
  subst hc hd
  have c0 : (decide (k < -(2 ^ 63)) || decide (k ≥ 2 ^ 63)) = false := by
    rw [decide_eq_false (by omega), decide_eq_false (by omega)] <;> rfl
  have c1 : (its.toArray.isEmpty || k == 1) = true := by
    rcases hne with rfl | e
    · rw [show ((1 : Int) == 1) = true from rfl, Bool.or_true]
    · subst e
      have : its = [] := List.eq_nil_of_length_eq_zero (by have := r.length; simpa using this.symm)
      subst this
      rfl
  refine wpAny_binaryOp_repeat_ref (T := "tuple") (U := "int") (by decide) ⟨_, ho, rfl⟩ (fun s' => typeIs_int s' k t) noFill_tuple_mul F.fills_int_mul F.slot_int_rmul repeat_tuple F.slot_int_index.lookup
    (call_meets F.slot_int_rmul (typeIs_int s k t) F.entry_int_rmul (F.args_int_rmul_2 _ _) (int_rmul_tuple k t l its.toArray n dd sl)
      ⟨ho, rfl, ⟨_, ho, rfl⟩, call_meets F.slot_tuple_mul ⟨_, ho, rfl⟩ F.entry_tuple_mul (F.args_tuple_mul_2 _ _) (tup_mul_same l its.toArray n dd sl k t c0 c1) ⟨ho, ?_⟩⟩)
  exact ⟨.ref l, _, I, rfl, q⟩
end
def rMulB (K : PySem.W.Frag) : R2 := fun x y H Q => rMulA K x y H Q ∨ rRepS K x y H Q
theorem op_mulB {X : Cx} : OpR X (binaryOp .Mult) (rMulB X.K) := op_mulA.or op_repS
def dMulB : D → D → Option D
  | .tup xs, .int k => if k = 1 ∧ D.shL xs = true then some (.tup xs) else dMulA (.tup xs) (.int k)
  | x, y => dMulA x y
theorem v2_mulB {K : PySem.W.Frag} : V2 K (rMulB K) dMulB := by
  intro S H d1 d2 v1 v2 T1 T2 Q sd h1 h2 hh
  obtain ⟨d, e, k⟩ := hh
  unfold dMulB at e
  split at e
  · rename_i xs n
    split at e
    · rename_i c
      cases e
      obtain ⟨rfl, hsh⟩ := c
      obtain ⟨a, vs, rfl, q, r⟩ := h1.tup_at hsh
      refine .inr ⟨a, 1, vs, rfl, h2.1, q, .inl rfl, by omega, by omega, ?_⟩
      exact k _ S _ [] (.refl _ _ _) ⟨a, vs, rfl, q, r⟩ (Ft.nil sd)
    · exact .inl (v2_mulA S H _ _ _ _ _ _ _ sd h1 h2 ⟨d, e, k⟩)
  · exact .inl (v2_mulA S H _ _ _ _ _ _ _ sd h1 h2 ⟨d, e, k⟩)
end DL

/-! DX6: a list that was owned is shared from now on. -/
namespace DL
open PySem PySem.Spec PyProof.Rows L2
mutual
def D.frz : D → D
  | .tup ds => .tup (D.frzL ds)
  | .lst _ ds => .lst false (D.frzL ds)
  | .non => .non
  | .bl b => .bl b
  | .int i => .int i
  | .str x => .str x
  | .scr ns => .scr ns
  | .exc c => .exc c
  | .dic _ t ks ds => .dic false t ks (D.frzL ds)
def D.frzL : List D → List D
  | [] => []
  | d :: ds => d.frz :: D.frzL ds
end
/-- a dict -/
def IsDo : Option HO → Prop
  | some (.dK _) => True
  | some (.dT _) => True
  | _ => False
theorem isDo_dic {t : Bool} {ks : List DKey} {vs : List V} : IsDo (some (dicO t ks vs)) := by cases t <;> trivial
theorem IsDo.mut {o : HO} (h : IsDo (some o)) : Mut (some o) := by cases o <;> trivial
/-- the dicts among F are locked -/
structure Lk (F : Fp) (H H2 : Hp) : Prop where
  lk : ∀ b, b ∈ F → IsDo (H b) → ∃ od u, H b = some u ∧ H2 b = some (.frz od u)
  no : ∀ b, ¬ (b ∈ F ∧ IsDo (H b)) → H2 b = H b
theorem Lk.nil {H H2 : Hp} (h : Lk [] H H2) : H2 = H := funext fun b => h.no b fun z => nomatch z.1
theorem Lk.same {F : Fp} {H H2 : Hp} (h : Lk F H H2) {a : Addr} {o : HO} (e : H a = some o) (n : ¬ IsDo (some o)) : H2 a = some o := by rw [h.no a (by rw [e]; exact fun z => n z.2), e]
theorem Lk.out {F : Fp} {H H2 : Hp} (h : Lk F H H2) {a : Addr} (n : a ∉ F) : H2 a = H a := h.no a fun z => n z.1
theorem Lk.dom {F : Fp} {H H2 : Hp} (h : Lk F H H2) {a : Addr} (n : H a ≠ none) : H2 a ≠ none := by
  by_cases c : a ∈ F ∧ IsDo (H a)
  · obtain ⟨od, u, _, e⟩ := h.lk a c.1 c.2
    rw [e]; simp
  · rw [h.no a c]; exact n
theorem lk_ex {X : Cx} {pins : List (Addr × Obj)} {σ : L2.St} {H : Hp} {s : Shared} (I : Inv X pins σ H s) : ∀ F : Fp, ∃ H2, Lk F H H2 ∧ Inv X pins σ H2 s
  | [] => ⟨H, ⟨(fun _ z => nomatch z), fun _ _ => rfl⟩, I⟩
  | a :: F => by
    obtain ⟨H1, k, I1⟩ := lk_ex I F
    by_cases c : IsDo (H a) ∧ a ∉ F
    · cases e : H a with
      | none => rw [e] at c; exact c.1.elim
      | some u =>
        have e1 : H1 a = some u := by rw [k.out c.2, e]
        obtain ⟨od, I2⟩ := I1.lock e1 (by rw [e] at c; exact c.1.mut)
        refine ⟨_, ⟨fun b hb hd => ?_, fun b hn => ?_⟩, I2⟩
        · rcases List.mem_cons.mp hb with z | hb
          · subst z
            exact ⟨od, u, e, upd_same⟩
          · have hne : b ≠ a := fun z => c.2 (by rw [← z]; exact hb)
            rw [upd_ne hne]
            exact k.lk b hb hd
        · have hne : b ≠ a := fun z => hn (by subst z; exact ⟨by simp, c.1⟩)
          rw [upd_ne hne]
          exact k.no b fun z => hn ⟨by simp [z.1], z.2⟩
    · refine ⟨H1, ⟨fun b hb hd => ?_, fun b hn => k.no b fun z => hn ⟨by simp [z.1], z.2⟩⟩, I1⟩
      rcases List.mem_cons.mp hb with z | hb
      · subst z
        by_cases c2 : b ∈ F
        · exact k.lk b c2 hd
        · exact (c ⟨hd, c2⟩).elim
      · exact k.lk b hb hd
/-- the dicts among some addresses are locked behind an expression -/
def tLk (t : TE) : TE := fun σ H Q => t σ H fun x H1 => ∃ F : Fp, ∀ H2, Lk F H1 H2 → Q x H2
theorem pe_lk {X : Cx} {e : Expr} {t : TE} (h : PE X e t) : PE X e (tLk t) := by
  refine ⟨fun pins s σ H Q I hw => thn (h.run pins s σ H _ I hw) fun v s1 ⟨x, H1, I1, r, F, q⟩ => ?_⟩
  obtain ⟨H2, k, I2⟩ := lk_ex I1 F
  exact ⟨x, H2, I2, r, q H2 k⟩
section
variable {K : PySem.W.Frag} {S S' : Addr → Prop} {H H2 : Hp} {F G : Fp}
mutual
theorem Rep.frz (k : Lk G H H2) (m : ∀ a, S a → S' a) : ∀ (d : D) (v : V) (F : Fp), (∀ a ∈ F, S' a ∧ a ∈ G) → Rep K S H d v F → Rep K S' H2 d.frz v []
  | .non, _, _, _, h => ⟨h.1, rfl⟩
  | .bl _, _, _, _, h => ⟨h.1, rfl⟩
  | .int _, _, _, _, h => ⟨h.1, rfl⟩
  | .str _, _, _, _, h => ⟨h.1, rfl⟩
  | .tup ds, v, F, n, h => by
    obtain ⟨a, vs, e, q, r⟩ := h
    exact ⟨a, vs, e, k.same q (fun z => z), RepL.frz k m ds vs F n r⟩
  | .lst true ds, v, F, n, h => by
    obtain ⟨a, vs, G, e, q, e2, r⟩ := h
    subst e2
    exact ⟨rfl, a, vs, e, ⟨k.same q (fun z => z), (n a (by simp)).1⟩, RepL.frz k m ds vs G (fun b hb => n b (by simp [hb])) r⟩
  | .lst false ds, v, F, n, h => by
    obtain ⟨e0, a, vs, e, q, r⟩ := h
    exact ⟨rfl, a, vs, e, ⟨k.same q.1 (fun z => z), m a q.2⟩, RepL.frz k m ds vs [] (fun b hb => nomatch hb) r⟩
  | .scr ns, v, F, n, h => by
    obtain ⟨_, a, e, q⟩ := h
    refine ⟨rfl, a, e, ?_⟩
    rcases q with (⟨o, q⟩ | q) | q
    · exact .inl (.inl ⟨o, k.same q (fun z => z)⟩)
    · exact .inl (.inr ⟨k.same q.1 (fun z => z), m a q.2⟩)
    · exact .inr q
  | .exc _, _, _, _, h => h.elim
  | .dic true t ks ds, v, F, n, h => by
    obtain ⟨hl, hk, a, vs, G, e, q, e2, r⟩ := h
    subst e2
    obtain ⟨n1, n2⟩ := n a (by simp)
    obtain ⟨od, u, e3, e4⟩ := k.lk a n2 (by rw [q]; exact isDo_dic)
    rw [q] at e3
    cases e3
    have fl : (D.frzL ds).length = ds.length := by
      clear r hl n hk
      induction ds with
      | nil => rfl
      | cons d ds ih => rw [D.frzL, List.length_cons, List.length_cons, ih]
    exact ⟨rfl, by rw [fl]; exact hl, hk, a, vs, e, ⟨⟨od, e4⟩, n1⟩, RepL.frz k m ds vs G (fun b hb => n b (by simp [hb])) r⟩
  | .dic false t ks ds, v, F, n, h => by
    obtain ⟨e0, hl, hk, a, vs, e, ⟨⟨o, q⟩, s⟩, r⟩ := h
    have fl : (D.frzL ds).length = ds.length := by
      clear r hl n hk
      induction ds with
      | nil => rfl
      | cons d ds ih => rw [D.frzL, List.length_cons, List.length_cons, ih]
    exact ⟨rfl, by rw [fl]; exact hl, hk, a, vs, e, ⟨⟨o, k.same q (fun z => z)⟩, m a s⟩, RepL.frz k m ds vs [] (fun b hb => nomatch hb) r⟩
theorem RepL.frz (k : Lk G H H2) (m : ∀ a, S a → S' a) : ∀ (ds : List D) (vs : List V) (F : Fp), (∀ a ∈ F, S' a ∧ a ∈ G) → RepL K S H ds vs F → RepL K S' H2 (D.frzL ds) vs []
  | [], _, _, _, h => ⟨h.1, rfl⟩
  | d :: ds, vs, F, n, h => by
    obtain ⟨v, r, F1, F2, e1, e2, h1, h2⟩ := h
    subst e2
    exact ⟨v, r, [], [], e1, rfl, Rep.frz k m d v F1 (fun b hb => n b (by simp [hb])) h1, RepL.frz k m ds r F2 (fun b hb => n b (by simp [hb])) h2⟩
end
end
/-- a step: dicts locked, all shared -/
theorem go_lk {S : Addr → Prop} {H H2 : Hp} {T : Fp} (k : Lk T H H2) : Go S H T (fun a => S a ∨ a ∈ T) H2 [] :=
  ⟨fun _ z => .inl z, fun a o e n _ => by rw [k.out n, e], fun a ⟨ps, e, t⟩ => ⟨ps, k.same e (fun z => z), t⟩, fun _ n => k.dom n, (fun _ z => nomatch z), fun a z => z.elim .inl fun z => .inr (.inl z)⟩
mutual
theorem frz_sh : ∀ (d : D), d.sh = true → d.frz = d
  | .non, _ => rfl
  | .bl _, _ => rfl
  | .int _, _ => rfl
  | .str _, _ => rfl
  | .scr _, _ => rfl
  | .exc _, h => by simp [D.sh] at h
  | .tup ds, h => by rw [D.frz, frzL_sh ds (by simpa [D.sh] using h)]
  | .lst true ds, h => by simp [D.sh] at h
  | .lst false ds, h => by rw [D.frz, frzL_sh ds (by simpa [D.sh] using h)]
  | .dic true t ks ds, h => by simp [D.sh] at h
  | .dic false t ks ds, h => by rw [D.frz, frzL_sh ds (by simpa [D.sh] using h)]
theorem frzL_sh : ∀ (ds : List D), D.shL ds = true → D.frzL ds = ds
  | [], _ => rfl
  | d :: ds, h => by
    simp only [D.shL, Bool.and_eq_true] at h
    rw [D.frzL, frz_sh d h.1, frzL_sh ds h.2]
end
section
variable {X : Cx} {W : WT} {K : PySem.W.Frag} {tb : List Addr} {e a b c : Expr} {es : List Expr} {S S' S1 : Addr → Prop} {H H' H1 : Hp} {F F' F1 T : Fp} {σ : L2.St} {r : DL.Env} {pos p p2 : Pos} {x : Str}
/-- what a name owns is shared from now on -/
theorem At.frz (q : At K tb S H r σ F) {i : Nat} {d : D} (e : r[i]? = some (some d)) : ∃ v T, σ[i]? = some (some v) ∧ ∀ H2, Lk T H H2 → ∃ S' F', Rep K S' H2 d.frz v [] ∧ At K tb S' H2 (r.set i (some d.frz)) σ F' ∧ Go S H F S' H2 F' := by
  obtain ⟨v, T, F0, h1, h2, h3, h4, h5⟩ := q.take e
  refine ⟨v, T, h1, fun H2 k => ?_⟩
  have l : i < r.length := (List.getElem?_eq_some_iff.mp e).1
  let S' : Addr → Prop := fun a => S a ∨ a ∈ T
  have rp : Rep K S' H2 d.frz v [] := Rep.frz k (fun a z => .inl z) d v T (fun a z => ⟨.inr z, z⟩) h2
  have sd' : ∀ a, S' a → H2 a ≠ none := fun a z => k.dom (z.elim (q.ft.sd a) fun z => (h4.left.mu a z).some)
  have f0 : Ft S' H2 F0 := ⟨h4.right.nd, fun a z y => y.elim (h4.right.dj a z) (h4.apart' a z), fun a z => by rw [k.out (h4.apart' a z)]; exact h4.right.mu a z, sd'⟩
  have g : Go S H T S' H2 [] := go_lk k
  have x0 : At K tb S' H2 (r.set i none) σ F0 := h3.go g h4.left (fun b hb => h4.apart' b hb) f0
  obtain ⟨F', y1, y2⟩ := x0.back (i := i) (d := d.frz) (T := []) (by simpa using l) h1 rp (by simpa using f0)
  rw [List.set_set] at y1
  have g2 := g.frame F0
  refine ⟨S', F', rp, y1, (g2.sub (F2 := F') fun a z => by have := y2 a z; simp at this; simp [this]).wide fun a z => (h5 a).mp (by simp at z ⊢; exact z.symm)⟩
/-- a name's value; what it owns is shared from now on -/
def eV (i : Nat) : EE := fun r => match r[i]? with
  | some (some d) => if d.sh = true then .ok d r else .ok d.frz (r.set i (some d.frz))
  | _ => .stk
theorem n_ev (i : Nat) (hN : X.N[i]? = some x := by rfl) (hv : Vis X.env.scope x := by first | exact Or.inl rfl | exact Or.inr (Or.inl rfl) | exact Or.inr (Or.inr rfl)) (hd : (x == ("__debug__" : Str)) = false := by decide)
    (hcd : (x == ("__classdict__" : Str)) = false := by decide) : DE X W (.Name x pos) (eV i) := by
  refine ⟨_, pe_lk (pe_var hN hv hd hcd), fun S H r σ F Q q y => ?_⟩
  unfold eV at y
  split at y
  · rename_i d e
    obtain ⟨v, T, h1, hk⟩ := q.frz e
    refine ⟨v, h1, ?_⟩
    split at y
    · rename_i hs
      obtain ⟨w, T, k1, k2, _⟩ := q.get e
      rw [h1] at k1
      cases k1
      have : T = [] := Rep.sh d v T hs k2
      subst this
      refine ⟨[], fun H2 k => ?_⟩
      rw [k.nil]
      exact y v S H F [] (.refl _ _ _) q k2 q.ft
    · refine ⟨T, fun H2 k => ?_⟩
      obtain ⟨S', F', h2, h3, h4⟩ := hk H2 k
      exact y v S' H2 F' [] h4 h3 h2 h3.ft
  · exact y.elim
/-- a list display whose items are shared -/
def pLsF (E : DL.Env → PR (List D)) : EP := fun r => (E r).bind fun ds => if ds.length ≤ sizeLine then .ok (.lst (!D.shL ds) ds) else .stk
theorem n_plsF {E : DL.Env → PR (List D)} (h : DPA X W es E) : DP X W (.List es pos) (pLsF E) := by
  obtain ⟨t, p, q⟩ := h
  refine ⟨_, pe_lst p, fun S H r σ F Q x y => q S H r σ F _ x (PP1.bind (Go.refl _ _ _) y fun ds vs S1 H1 T1 g1 f1 h1 y1 => ?_)⟩
  split at y1
  · rename_i c
    refine ⟨by rw [← h1.len]; exact c, fun p hp => ?_⟩
    have g2 : Go S1 H1 [] S1 (upd H1 p (.lst vs)) [] := go_new f1.sd hp [] (fun _ z => nomatch z)
    have rp := rep_lst f1.sd hp h1
    cases hs : D.shL ds with
    | false =>
      rw [hs] at y1
      exact y1 (.ref p) S1 _ (p :: T1) (g1.trans g2) (Ft.nil (sd_new f1.sd)) rp
    | true =>
      rw [hs] at y1
      have eT : T1 = [] := RepL.sh ds vs T1 hs h1
      subst eT
      have kk : Lk [p] (upd H1 p (.lst vs)) (upd H1 p (.lst vs)) := ⟨fun b hb hd => (by obtain rfl := List.mem_singleton.mp hb; rw [upd_same] at hd; exact hd.elim), fun _ _ => rfl⟩
      have r2 := Rep.frz (S' := fun a => S1 a ∨ a ∈ [p]) kk (fun a z => .inl z) (.lst true ds) _ _ (fun a z => ⟨.inr z, z⟩) rp
      rw [D.frz, frzL_sh ds hs] at r2
      refine y1 (.ref p) (fun a => S1 a ∨ a ∈ [p]) _ [] (g1.trans ⟨fun _ z => .inl z, g2.fr, g2.tb, g2.dom, (fun _ z => nomatch z), fun a z => ?_⟩) (Ft.nil fun a z => ?_) r2
      · rcases z with z | z
        · exact .inl z
        · have : a = p := by simpa using z
          subst this
          exact .inr (.inr hp)
      · rcases z with z | z
        · exact sd_new f1.sd a z
        · have : a = p := by simpa using z
          subst this
          rw [upd_same]; simp
  · exact y1.elim
end
end DL

/-! DX7: what is made, shared at once. -/
namespace DL
open PySem PySem.Spec PyProof.Rows L2
section
variable {X : Cx} {W : WT} {K : PySem.W.Frag} {tb : List Addr} {e a b c : Expr} {es : List Expr} {S S' S1 : Addr → Prop} {H H' H1 : Hp} {F F' F1 T : Fp} {σ : L2.St} {r : DL.Env} {pos p p2 : Pos} {x : Str}
def eFz (E : EE) : EE := fun r => (E r).bind fun d r1 => .ok d.frz r1
theorem n_efz {E : EE} (h : DE X W e E) : DE X W e (eFz E) := by
  obtain ⟨t, p, q⟩ := h
  refine ⟨_, pe_lk p, fun S H r σ F Q x y => q S H r σ F _ x (EP1.bind (Go.refl _ _ _) y fun d r1 v S1 H1 F1 T1 g1 x1 h1 f1 y1 => ⟨T1, fun H2 k => ?_⟩)⟩
  have f0 : Ft (fun a => S1 a ∨ a ∈ T1) H2 F1 := ⟨f1.right.nd, fun a z y => y.elim (f1.right.dj a z) (f1.apart' a z), fun a z => by rw [k.out (f1.apart' a z)]; exact f1.right.mu a z, fun a z => k.dom (z.elim (f1.sd a) fun z => (f1.left.mu a z).some)⟩
  have g : Go S1 H1 T1 (fun a => S1 a ∨ a ∈ T1) H2 [] := go_lk k
  have x2 : At X.K W.tb (fun a => S1 a ∨ a ∈ T1) H2 r1 σ F1 := x1.go g f1.left (fun b hb => f1.apart' b hb) f0
  have g2 : Go S1 H1 (T1 ++ F1) (fun a => S1 a ∨ a ∈ T1) H2 F1 := by simpa using g.frameR F1
  exact y1 v _ H2 F1 [] (g1.trans g2) x2 (Rep.frz k (fun a z => .inl z) d v T1 (fun a z => ⟨.inr z, z⟩) h1) f0
@[simp] theorem eFz_ap {E : EE} : eFz E r = (E r).bind fun d r1 => .ok d.frz r1 := (rfl)
end
end DL

/-! DX8: order of data: <, <=, >, >=, min, max, sorted. -/
namespace DL
open PySem PySem.Spec PyProof.Rows L2
/-! ### the order -/
def D.alk (a b : D) : Bool := PySem.W.alike a.py b.py
def D.ltb (a b : D) : Bool := PySem.W.dataLt a.py b.py
def D.notN : D → Bool
  | .non => false
  | _ => true
theorem notN_py {d : D} (h : d.notN = true) (n : d.dep < 100) : d.py ≠ .none := by
  cases d <;> first | (simp [D.notN] at h; done) | (simp [D.dep] at n; done) | (simp [D.py]; done) | skip
/-- may be ordered -/
def ordOk (a b : D) : Bool := decide (a.dep ≤ 60) && decide (b.dep ≤ 60) && D.alk a b && a.notN
section
variable {K : PySem.W.Frag} {S : Addr → Prop} {H : Hp} {T : Fp} {X : Cx}
def rCmpD (K : PySem.W.Frag) (f : PyData → PyData → Bool) : R2 := fun x y H Q => ∃ d e, Dp K H x d ∧ Dp K H y e ∧ PySem.W.alike d e = true ∧ d ≠ .none ∧ min d.depth e.depth ≤ 60 ∧ Q (.bl (f d e)) H
theorem op_ltD (hu : X.A.units + 64 < cLine) : OpR X (compareOp .Lt) (rCmpD X.K fun d e => PySem.W.dataLt d e) := by
  intro pins s σ H x y v u Q I rx ry h
  obtain ⟨d, e, hd, he, ha, hn, hz, q⟩ := h
  obtain ⟨as, r1⟩ := Dp.reads I d x v hd rx
  obtain ⟨bs, r2⟩ := Dp.reads I e y u he ry
  exact PySem.W.lt_data r1 r2 ha hn (by omega) ⟨.bl _, H, I, rfl, q⟩
theorem op_gtD (hu : X.A.units + 64 < cLine) : OpR X (compareOp .Gt) (rCmpD X.K fun d e => PySem.W.dataLt e d) := by
  intro pins s σ H x y v u Q I rx ry h
  obtain ⟨d, e, hd, he, ha, hn, hz, q⟩ := h
  obtain ⟨as, r1⟩ := Dp.reads I d x v hd rx
  obtain ⟨bs, r2⟩ := Dp.reads I e y u he ry
  exact PySem.W.gt_data r1 r2 ha hn (by omega) ⟨.bl _, H, I, rfl, q⟩
theorem op_leD (hu : X.A.units + 64 < cLine) : OpR X (compareOp .LtE) (rCmpD X.K fun d e => !PySem.W.dataLt e d) := by
  intro pins s σ H x y v u Q I rx ry h
  obtain ⟨d, e, hd, he, ha, hn, hz, q⟩ := h
  obtain ⟨as, r1⟩ := Dp.reads I d x v hd rx
  obtain ⟨bs, r2⟩ := Dp.reads I e y u he ry
  exact PySem.W.le_data r1 r2 ha hn (by omega) ⟨.bl _, H, I, rfl, q⟩
theorem op_geD (hu : X.A.units + 64 < cLine) : OpR X (compareOp .GtE) (rCmpD X.K fun d e => !PySem.W.dataLt d e) := by
  intro pins s σ H x y v u Q I rx ry h
  obtain ⟨d, e, hd, he, ha, hn, hz, q⟩ := h
  obtain ⟨as, r1⟩ := Dp.reads I d x v hd rx
  obtain ⟨bs, r2⟩ := Dp.reads I e y u he ry
  exact PySem.W.ge_data r1 r2 ha hn (by omega) ⟨.bl _, H, I, rfl, q⟩
def dCmpD (f : D → D → Bool) (a b : D) : Option D := if ordOk a b = true then some (.bl (f a b)) else none
theorem v2_cmpD {f : PyData → PyData → Bool} {g : D → D → Bool} (hg : ∀ a b, g a b = f a.py b.py) : V2 K (rCmpD K f) (dCmpD g) := by
  intro S H d1 d2 v1 v2 T1 T2 Q sd h1 h2 ⟨d, e, k⟩
  unfold dCmpD at e
  split at e
  · rename_i c
    cases e
    simp only [ordOk, Bool.and_eq_true, decide_eq_true_eq] at c
    refine ⟨d1.py, d2.py, Rep.dp d1 v1 T1 (by omega) h1, Rep.dp d2 v2 T2 (by omega) h2, c.1.2, notN_py c.2 (by omega), ?_, ?_⟩
    · rw [D.dep_py d1 (by omega), D.dep_py d2 (by omega)]; omega
    · rw [hg] at k
      exact k _ S H [] (.refl _ _ _) ⟨rfl, rfl⟩ (Ft.nil sd)
  · cases e
theorem VL.or' {q q' : List V → Hp → VK → Prop} {g g' : List D → Option D} (h : VL K q g) (h' : VL K q' g') : VL K (fun vs H Q => q vs H Q ∨ q' vs H Q) (fun ds => (g ds).or (g' ds)) := by
  intro S H ds vs T1 Q sd h1 ⟨d, e, k⟩
  dsimp only at e
  cases eg : g ds with
  | some z => rw [eg] at e; exact .inl (h S H ds vs T1 Q sd h1 ⟨d, by rw [eg]; exact e, k⟩)
  | none => rw [eg] at e; exact .inr (h' S H ds vs T1 Q sd h1 ⟨d, e, k⟩)
def dLtA (a b : D) : Option D := (dLt a b).or (dCmpD D.ltb a b)
def dGtA (a b : D) : Option D := (dGt a b).or (dCmpD (fun a b => D.ltb b a) a b)
def dLeA (a b : D) : Option D := (dLe a b).or (dCmpD (fun a b => !D.ltb b a) a b)
def dGeA (a b : D) : Option D := (dGe a b).or (dCmpD (fun a b => !D.ltb a b) a b)
def rLtA (K : PySem.W.Frag) : R2 := fun x y H Q => rI0 (fun i j => .bl (decide (i < j))) x y H Q ∨ rCmpD K (fun d e => PySem.W.dataLt d e) x y H Q
def rGtA (K : PySem.W.Frag) : R2 := fun x y H Q => rI0 (fun i j => .bl (decide (j < i))) x y H Q ∨ rCmpD K (fun d e => PySem.W.dataLt e d) x y H Q
def rLeA (K : PySem.W.Frag) : R2 := fun x y H Q => rI0 (fun i j => .bl (decide (i ≤ j))) x y H Q ∨ rCmpD K (fun d e => !PySem.W.dataLt e d) x y H Q
def rGeA (K : PySem.W.Frag) : R2 := fun x y H Q => rI0 (fun i j => .bl (decide (j ≤ i))) x y H Q ∨ rCmpD K (fun d e => !PySem.W.dataLt d e) x y H Q
theorem op_ltA (hu : X.A.units + 64 < cLine) : OpR X (compareOp .Lt) (rLtA X.K) := op_lt.or (op_ltD hu)
theorem op_gtA (hu : X.A.units + 64 < cLine) : OpR X (compareOp .Gt) (rGtA X.K) := op_gt.or (op_gtD hu)
theorem op_leA (hu : X.A.units + 64 < cLine) : OpR X (compareOp .LtE) (rLeA X.K) := op_le.or (op_leD hu)
theorem op_geA (hu : X.A.units + 64 < cLine) : OpR X (compareOp .GtE) (rGeA X.K) := op_ge.or (op_geD hu)
theorem v2_ltA : V2 K (rLtA K) dLtA := v2_lt.or (v2_cmpD fun _ _ => rfl)
theorem v2_gtA : V2 K (rGtA K) dGtA := v2_gt.or (v2_cmpD fun _ _ => rfl)
theorem v2_leA : V2 K (rLeA K) dLeA := v2_le.or (v2_cmpD fun _ _ => rfl)
theorem v2_geA : V2 K (rGeA K) dGeA := v2_ge.or (v2_cmpD fun _ _ => rfl)
/-! ### min, max of a list -/
def rBestD (K : PySem.W.Frag) (f : PyData → PyData → Bool) : List V → Hp → VK → Prop := fun vs H Q => ∃ (a : Addr) (xs : List V) (p : PyData) (ps : List PyData), vs = [V.ref a] ∧ SqL K H a xs ∧ DpAll K H xs (p :: ps) ∧ PySem.W.AlikeAll (p :: ps) ∧ PyData.depthAll (p :: ps) ≤ 60 ∧
  ∀ v, xs[argBest (fun i j => f ((p :: ps).getD i .none) ((p :: ps).getD j .none)) ps.length]? = some v → Q v H
theorem cr_minD (hc : X.calm = true) (hu : X.A.units + 64 < cLine) : CallR X (.builtin "min") (rBestD X.K PySem.W.dataLt) := by
  intro pins s σ H vs us Q I r h
  obtain ⟨a, xs, p, ps, rfl, hs, hd, ha, hz, q⟩ := h
  obtain ⟨its, rv, hl, _⟩ := I.list hs
  obtain ⟨as, ra⟩ := Dp.readsAll I _ _ _ hd rv
  rw [Vals.ref1 r]
  have hn : its.toArray.size = ps.length + 1 := by
    have := PySem.W.readsAll_len (vs := its.toArray) (xs := p :: ps) (by simpa using ra)
    simpa using this
  refine call_min_walkH (PySem.W.iter_listW (A := X.A.in1) (I.ok.hd hc) hl.isList fun s₂ e W st hfp hw hk => ?_)
  refine ⟨_, _, _, _, _, _, _, s.heap, _, rfl, W, st, hfp, by omega, hw, hk, PySem.W.cmpIn_lt (A := X.A.in1) (by simpa using ra) ha (by show X.A.units + 1 + _ < _; omega), fun v s' hP m => ?_⟩
  obtain ⟨h', tk, rfl, hk'⟩ := PySem.W.moved_old e rfl m
  rw [show its.toArray.size - 1 = ps.length by omega] at hP
  cases ex : xs[argBest (fun i j => PySem.W.dataLt ((p :: ps).getD i .none) ((p :: ps).getD j .none)) ps.length]? with
  | none => rw [List.getElem?_toArray, rv.none_of ex] at hP; cases hP
  | some w =>
    obtain ⟨u, e1, e2⟩ := rv.get ex
    rw [List.getElem?_toArray, e1] at hP
    cases hP
    exact ⟨w, H, I.kept hk', e2, q w ex⟩
theorem cr_maxD' (hc : X.calm = true) (hu : X.A.units + 64 < cLine) : CallR X (.builtin "max") (rBestD X.K fun a b => PySem.W.dataLt b a) := by
  intro pins s σ H vs us Q I r h
  obtain ⟨a, xs, p, ps, rfl, hs, hd, ha, hz, q⟩ := h
  obtain ⟨its, rv, hl, _⟩ := I.list hs
  obtain ⟨as, ra⟩ := Dp.readsAll I _ _ _ hd rv
  rw [Vals.ref1 r]
  have hn : its.toArray.size = ps.length + 1 := by
    have := PySem.W.readsAll_len (vs := its.toArray) (xs := p :: ps) (by simpa using ra)
    simpa using this
  refine call_max_walkH (PySem.W.iter_listW (A := X.A.in1) (I.ok.hd hc) hl.isList fun s₂ e W st hfp hw hk => ?_)
  refine ⟨_, _, _, _, _, _, _, s.heap, _, rfl, W, st, hfp, by omega, hw, hk, PySem.W.cmpIn_gt (A := X.A.in1) (by simpa using ra) ha (by show X.A.units + 1 + _ < _; omega), fun v s' hP m => ?_⟩
  obtain ⟨h', tk, rfl, hk'⟩ := PySem.W.moved_old e rfl m
  rw [show its.toArray.size - 1 = ps.length by omega] at hP
  cases ex : xs[argBest (fun i j => PySem.W.dataLt ((p :: ps).getD j .none) ((p :: ps).getD i .none)) ps.length]? with
  | none => rw [List.getElem?_toArray, rv.none_of ex] at hP; cases hP
  | some w =>
    obtain ⟨u, e1, e2⟩ := rv.get ex
    rw [List.getElem?_toArray, e1] at hP
    cases hP
    exact ⟨w, H, I.kept hk', e2, q w ex⟩
theorem pyL_map : ∀ {ds : List D}, D.pyL ds = ds.map D.py
  | [] => rfl
  | d :: ds => by rw [D.pyL, List.map_cons, pyL_map]
def allOrd (ds : List D) : Bool := ds.all fun a => a.notN && ds.all fun b => D.alk a b
theorem pyL_getD {ds : List D} {i : Nat} : (ds.map D.py).getD i .none = (ds.getD i .non).py := by
  rw [List.getD_eq_getElem?_getD, List.getD_eq_getElem?_getD, List.getElem?_map]
  cases ds[i]? <;> rfl
theorem alikeAll_of {ds : List D} (hd : D.depL ds < 100) (h : allOrd ds = true) : PySem.W.AlikeAll (D.pyL ds) := by
  rw [pyL_map]
  unfold allOrd at h
  rw [List.all_eq_true] at h
  refine ⟨fun x hx y hy => ?_, fun x hx => ?_⟩
  · obtain ⟨a, ha, rfl⟩ := List.mem_map.mp hx
    obtain ⟨b, hb, rfl⟩ := List.mem_map.mp hy
    have := h a ha
    rw [Bool.and_eq_true, List.all_eq_true] at this
    exact this.2 b hb
  · obtain ⟨a, ha, rfl⟩ := List.mem_map.mp hx
    have := h a ha
    rw [Bool.and_eq_true] at this
    refine notN_py this.1 ?_
    have : ∀ {l : List D}, a ∈ l → a.dep ≤ D.depL l := fun {l} hm => by
      induction l with
      | nil => cases hm
      | cons z t ih =>
        rw [D.depL]
        rcases List.mem_cons.mp hm with rfl | hm
        · omega
        · have := ih hm; omega
    have := this ha
    omega
def bestD (f : D → D → Bool) : List D → Option D
  | [] => none
  | d :: ds => some (ds.foldl (fun a y => if f y a = true then y else a) d)
def dBestD (f : D → D → Bool) : List D → Option D
  | [.lst _ ds] => if D.shL ds = true ∧ D.depL ds ≤ 60 ∧ allOrd ds = true then bestD f ds else none
  | _ => none
theorem vl_bestD {f : PyData → PyData → Bool} {g : D → D → Bool} (hg : ∀ a b, g a b = f a.py b.py) : VL K (rBestD K f) (dBestD g) := by
  intro S H ds vs T1 Q sd h ⟨d, e, k⟩
  unfold dBestD at e
  split at e
  · rename_i o ds
    split at e
    · rename_i c
      obtain ⟨v, t, A1, B1, rfl, rfl, h1, rfl, rfl⟩ := h
      cases ds with
      | nil => cases e
      | cons z zs =>
        cases e
        obtain ⟨a, xs, rfl, hq, rl⟩ := h1.lst_at c.1
        have hd : DpAll K H xs (D.pyL (z :: zs)) := RepL.dp (z :: zs) xs [] (by omega) rl
        refine ⟨a, xs, z.py, D.pyL zs, rfl, .inl (.inl hq), hd, alikeAll_of (ds := z :: zs) (by omega) c.2.2, ?_, fun v hv => ?_⟩
        · have := D.depL_py (z :: zs) (by omega)
          rw [D.pyL] at this
          omega
        · have e0 : (z.py :: D.pyL zs) = (z :: zs).map D.py := by rw [pyL_map]; rfl
          have e1 : (D.pyL zs).length = zs.length := by rw [pyL_map, List.length_map]
          rw [e0, e1] at hv
          simp only [pyL_getD] at hv
          have ef : (fun i j => f ((z :: zs).getD i D.non).py ((z :: zs).getD j D.non).py) = fun i j => g ((z :: zs).getD i D.non) ((z :: zs).getD j D.non) := by
            funext i j; rw [hg]
          rw [ef] at hv
          obtain ⟨a1, a2⟩ := PySem.W.argBest_fold g D.non z zs zs.length (Nat.le_refl _)
          rw [List.take_length] at a2
          generalize argBest (fun i j => g ((z :: zs).getD i D.non) ((z :: zs).getD j D.non)) zs.length = i at *
          have hi : (z :: zs)[i]? = some (zs.foldl (fun a y => if g y a = true then y else a) z) := by
            rw [← a2, List.getD_eq_getElem?_getD]
            rw [List.getElem?_eq_getElem (by rw [List.length_cons]; omega)]
            rfl
          obtain ⟨w, e2, e3⟩ := RepL.items rl hi
          rw [hv] at e2
          cases e2
          exact k v S H [] (.refl _ _ _) e3 (Ft.nil sd)
    · cases e
  · cases e
def dMinA (ds : List D) : Option D := (dMinL ds).or (dBestD D.ltb ds)
def dMaxA (ds : List D) : Option D := (dMaxL ds).or (dBestD (fun a b => D.ltb b a) ds)
theorem cr_minA (hc : X.calm = true) (hu : X.A.units + 64 < cLine) : CallR X (.builtin "min") (fun vs H Q => rMin X.K vs H Q ∨ rBestD X.K PySem.W.dataLt vs H Q) := (cr_min hc).or (cr_minD hc hu)
theorem cr_maxA (hc : X.calm = true) (hu : X.A.units + 64 < cLine) : CallR X (.builtin "max") (fun vs H Q => rMax X.K vs H Q ∨ rBestD X.K (fun a b => PySem.W.dataLt b a) vs H Q) := (cr_max hc).or (cr_maxD' hc hu)
theorem vl_minA : VL K (fun vs H Q => rMin K vs H Q ∨ rBestD K PySem.W.dataLt vs H Q) dMinA := vl_minL.or' (vl_bestD fun _ _ => rfl)
theorem vl_maxA : VL K (fun vs H Q => rMax K vs H Q ∨ rBestD K (fun a b => PySem.W.dataLt b a) vs H Q) dMaxA := vl_maxL.or' (vl_bestD fun _ _ => rfl)
/-! ### sorted -/
theorem each_len {α β : Type} {R : α → β → Prop} {as : List α} {bs : List β} (h : PySem.W.EachIs R as bs) : as.length = bs.length := h.length
theorem each_vals {β : Type} {val : β → V} : ∀ {us : List Value} {bs : List β}, PySem.W.EachIs (fun u b => RelV (val b) u) us bs → Vals (bs.map val) us
  | _, _, .nil => .nil
  | _, _, .cons h t => .cons h (each_vals t)
theorem vals_each {β : Type} {val : β → V} : ∀ {bs : List β} {us : List Value}, Vals (bs.map val) us → PySem.W.EachIs (fun u b => RelV (val b) u) us bs
  | [], _, h => by cases h; exact .nil
  | b :: bs, _, h => by
    cases h with
    | cons h t => exact .cons h (vals_each t)
theorem each_both {α β : Type} {R R' : α → β → Prop} : ∀ {as : List α} {bs : List β}, PySem.W.EachIs R as bs → (∀ a b, b ∈ bs → R a b → R' a b) → PySem.W.EachIs R' as bs
  | _, _, .nil, _ => .nil
  | _, _, .cons h t, k => .cons (k _ _ (by simp) h) (each_both t fun a b hb => k a b (by simp [hb]))
def rSortedD (K : PySem.W.Frag) : List V → Hp → VK → Prop := fun vs H Q => ∃ (β : Type) (a : Addr) (bs : List β) (val : β → V) (enc : β → PyData), vs = [V.ref a] ∧ SqL K H a (bs.map val) ∧ (∀ b ∈ bs, Dp K H (val b) (enc b)) ∧
  PySem.W.AllAlike (bs.map enc) ∧ PySem.W.Sortable (bs.map enc) ∧ (∀ b ∈ bs, (enc b).depth ≤ 60) ∧ ∀ p, H p = none → Q (.ref p) (upd H p (.lst ((bs.mergeSort (PySem.W.dataLe false enc)).map val)))
theorem cr_sortedD (hu : X.A.units + 64 < cLine) : CallR X (.builtin "sorted") (rSortedD X.K) := by
  intro pins s σ H vs us Q I r h
  obtain ⟨β, a, bs, val, enc, rfl, hs, hd, hal, hk, hz, q⟩ := h
  obtain ⟨its, rv, hl, hle⟩ := I.list hs
  rw [Vals.ref1 r]
  have e := vals_each rv
  refine PySem.W.sorted_data (R := fun u b => RelV (val b) u) (enc := enc) hl.isList e (each_both e fun u b hb ru => Dp.reads I _ _ _ (hd b hb) ru) hal hk (by simpa using hle) (fun b hb => by have := hz b hb; omega) fun out h1 h2 => ?_
  obtain ⟨ep, he'⟩ := PyProof.Rows.sortedAll_at s.heap its out.toArray
  have hlen : ((bs.mergeSort (PySem.W.dataLe false enc)).map val).length ≤ sizeLine := by simpa using hle
  exact ⟨.ref _, upd H (s.heap.objs.size + 1) (.lst ((bs.mergeSort (PySem.W.dataLe false enc)).map val)), I.laid (t' := s.toks) (fun _ _ => PyProof.Rows.sortedAll_old) (Nat.le_succ _) ⟨hlen, out, ep, each_vals h2, he'⟩, rfl, q _ (I.hok.fresh (Nat.le_succ _))⟩
def tupNE : D → Bool
  | .tup (_ :: _) => true
  | _ => false
def notTup : D → Bool
  | .tup _ => false
  | _ => true
def srtOk (ds : List D) : Bool := ds.all tupNE || ds.all notTup
def D.leb (a b : D) : Bool := !D.ltb b a
def dSortD : List D → Option D
  | [.lst _ ds] => if D.shL ds = true ∧ D.depL ds ≤ 60 ∧ allOrd ds = true ∧ srtOk ds = true then some (.lst true (ds.mergeSort D.leb)) else none
  | _ => none
theorem RepL.zip : ∀ {ds : List D} {vs : List V}, RepL K S H ds vs [] → ∃ bs : List (D × V), bs.map Prod.fst = ds ∧ bs.map Prod.snd = vs ∧ ∀ b ∈ bs, Rep K S H b.1 b.2 []
  | [], vs, h => ⟨[], rfl, h.1.symm, fun _ z => nomatch z⟩
  | d :: ds, vs, h => by
    obtain ⟨v, t, A1, B1, e1, e2, h1, h2⟩ := h
    obtain ⟨rfl, rfl⟩ := List.append_eq_nil_iff.mp e2.symm
    subst e1
    obtain ⟨bs, k1, k2, k3⟩ := RepL.zip h2
    exact ⟨(d, v) :: bs, by simp [k1], by simp [k2], fun b hb => by
      rcases List.mem_cons.mp hb with rfl | hb
      · exact h1
      · exact k3 b hb⟩
theorem RepL.of_zip : ∀ {bs : List (D × V)}, (∀ b ∈ bs, Rep K S H b.1 b.2 []) → RepL K S H (bs.map Prod.fst) (bs.map Prod.snd) []
  | [], _ => ⟨rfl, rfl⟩
  | b :: bs, h => ⟨b.2, bs.map Prod.snd, [], [], rfl, rfl, h b (by simp), RepL.of_zip fun b hb => h b (by simp [hb])⟩
theorem dep_le_depL {ds : List D} {d : D} (h : d ∈ ds) : d.dep ≤ D.depL ds := by
  induction ds with
  | nil => cases h
  | cons x t ih =>
    rw [D.depL]
    rcases List.mem_cons.mp h with rfl | h
    · omega
    · have := ih h; omega
theorem vl_sortD : VL K (rSortedD K) dSortD := by
  intro S H ds vs T1 Q sd h ⟨d, e, k⟩
  unfold dSortD at e
  split at e
  · rename_i o ds
    split at e
    · rename_i c
      cases e
      obtain ⟨v, t, A1, B1, rfl, rfl, h1, rfl, rfl⟩ := h
      obtain ⟨a, xs, rfl, hq, rl⟩ := h1.lst_at c.1
      obtain ⟨bs, k1, k2, k3⟩ := RepL.zip rl
      have hdep : ∀ b ∈ bs, b.1.dep ≤ 60 := fun b hb => Nat.le_trans (dep_le_depL (by rw [← k1]; exact List.mem_map_of_mem hb)) c.2.1
      have hpy : bs.map (fun b => b.1.py) = D.pyL ds := by rw [pyL_map, ← k1, List.map_map]; rfl
      refine ⟨D × V, a, bs, Prod.snd, fun b => b.1.py, rfl, .inl (.inl (by rw [k2]; exact hq)), fun b hb => Rep.dp b.1 b.2 [] (by have := hdep b hb; omega) (k3 b hb), ?_, ?_, fun b hb => ?_, fun p hp => ?_⟩
      · rw [hpy]
        exact (alikeAll_of (by omega) c.2.2.1).1
      · rw [hpy, pyL_map]
        have hh := c.2.2.2
        unfold srtOk at hh
        rw [Bool.or_eq_true, List.all_eq_true, List.all_eq_true] at hh
        rcases hh with hh | hh
        · refine .inl fun z hz => ?_
          obtain ⟨y, hy, rfl⟩ := List.mem_map.mp hz
          have := hh y hy
          unfold tupNE at this
          split at this
          · exact ⟨_, _, rfl⟩
          · cases this
        · refine .inr fun z hz => ?_
          obtain ⟨y, hy, rfl⟩ := List.mem_map.mp hz
          have h2 := hh y hy
          refine ⟨(alikeAll_of (by omega) c.2.2.1).2 _ (by rw [pyL_map]; exact List.mem_map_of_mem hy), fun zs e => ?_⟩
          have hy2 : y.dep ≤ 60 := Nat.le_trans (dep_le_depL hy) c.2.1
          cases y <;> first | (simp [notTup] at h2; done) | (simp [D.py] at e; done) | (simp [D.dep] at hy2; done)
      · rw [D.dep_py _ (by have := hdep b hb; omega)]; exact hdep b hb
      · have em : (bs.mergeSort (PySem.W.dataLe false fun b => b.1.py)).map Prod.fst = ds.mergeSort D.leb := by
          rw [List.map_mergeSort (s := D.leb) (fun x _ y _ => by rw [PySem.W.dataLe_eq]; rfl), k1]
        have rl2 : RepL K S H ((bs.mergeSort (PySem.W.dataLe false fun b => b.1.py)).map Prod.fst) ((bs.mergeSort (PySem.W.dataLe false fun b => b.1.py)).map Prod.snd) [] :=
          RepL.of_zip fun b hb => k3 b (List.mem_mergeSort.mp hb)
        rw [em] at rl2
        exact k _ S _ [p] (go_new sd hp [p] (fun _ z => by simpa using z)) (rep_lst sd hp rl2) (ft_new sd hp)
    · cases e
  · cases e
def dSortA (ds : List D) : Option D := (dSorted ds).or (dSortD ds)
theorem cr_sortedA (hu : X.A.units + 64 < cLine) : CallR X (.builtin "sorted") (fun vs H Q => rSortedI X.K vs H Q ∨ rSortedD X.K vs H Q) := cr_sortedI.or (cr_sortedD hu)
theorem vl_sortA : VL K (fun vs H Q => rSortedI K vs H Q ∨ rSortedD K vs H Q) dSortA := vl_sorted.or' vl_sortD
end
end DL

/-! DX9: what is never reached; extend; stars. -/
namespace DL
open PySem PySem.Spec PyProof.Rows L2
section
variable {X : Cx} {W : WT} {fx : List Nat} {K : PySem.W.Frag} {tb : List Addr} {e a b c : Expr} {es : List Expr} {S S' S1 : Addr → Prop} {H H' H1 : Hp} {F F' F1 T : Fp} {σ : L2.St} {r : DL.Env} {pos p p2 apos : Pos} {x : Str} {st : Stmt}
/-! ### never reached -/
def sStk : DL.Env → SR := fun _ => .stk
def eStk : EE := fun _ => .stk
theorem n_sstk : DS X W fx st sStk := ⟨fun _ _ _ => False, ⟨fun _ _ _ _ _ _ h => h.elim⟩, fun _ _ _ _ _ _ _ y => y⟩
theorem n_estk : DE X W e eStk := ⟨fun _ _ _ => False, ⟨fun _ _ _ _ _ _ h => h.elim⟩, fun _ _ _ _ _ _ _ y => y⟩
@[simp] theorem sStk_ap : sStk r = .stk := (rfl)
@[simp] theorem eStk_ap : eStk r = .stk := (rfl)
/-! ### extend -/
theorem list_extend_tup (l : Addr) (items : Array Value) (n : Nat) (b : Addr) (items2 : Array Value) (n2 : Nat) (dd : Option Addr) (sl : Array (Option Value)) (hs0 : ¬(!items.isEmpty && Builtin.List.listTooLong (items.size + items2.size)) = true) (hs1 : items.size ≤ sizeLine) (hs2 : items.size + items2.size ≤ sizeLine + 1) :
    Meets (Builtin.«list.extend» ⟨[.ref l, .ref b], []⟩) (fun _ R s => s.heap.get? l = some { cls := .type "list", dict := none, data := .seq items n, slots := #[] } ∧ s.heap.get? b = some { cls := .type "tuple", dict := dd, data := .seq items2 n2, slots := sl } ∧ R (.ok (.ret Value.none)) { s with heap := s.heap.update l (Obj.mapSeq fun x => x ++ items2), toks := s.toks }) :=
  .of_wp fun prog w A R s h => by
    obtain ⟨hp, g, d, tk, os⟩ := s; obtain ⟨hl, hb, h⟩ := h; have f1 := AutoSeq1.idx_int; have f2 := AutoSeq1.sub_tuple_tuple; have f3 := AutoSeq1.sub_list_list; have f4 := AutoSeq1.sub_tuple_list; have f5 := AutoSeq1.sub_list_tuple;
    have hz' : (items ++ items2).size ≤ sizeLine + 1 := by rw [Array.size_append]; exact hs2
    wp_walk using (wpAny_updateSeq hl rfl (hz := hs1) (_hz' := hz')), AutoSeq1.wpAny_loadPart' hl, AutoSeq1.wpAny_loadPart' hb; exact ⟨_, rfl, h⟩
def rExtA (K : PySem.W.Frag) : V → List V → Hp → VK → Prop := fun x vs H Q => rExtend x vs H Q ∨ ∃ l b xs zs, x = .ref l ∧ vs = [.ref b] ∧ H l = some (.lst xs) ∧ SqT K H b zs ∧ xs.length + zs.length ≤ sizeLine ∧ Q .non (upd H l (.lst (xs ++ zs)))
theorem mt_extA : MtM X "list.extend" (rExtA X.K) := by
  intro pins s σ H x vs v us Q I rx rv h
  rcases h with h | ⟨l, b, xs, zs, rfl, rfl, hH, hB, hz, q⟩
  · exact mt_extend pins s σ H x vs v us Q I rx rv h
  · cases rx
    obtain ⟨u, rfl, ru⟩ := rv.one
    cases ru
    obtain ⟨z, its, n, r, hl, e⟩ := I.lstM hH
    obtain ⟨its2, r2, ht, _⟩ := I.tuple hB
    obtain ⟨o2, ho2, hc2, n2, hd2⟩ := ht
    obtain ⟨cls2, dd2, data2, sl2⟩ := o2
    simp only at hc2 hd2
    subst hc2 hd2
    have hl2 := r2.length
    have hsz : its.toArray.size + its2.toArray.size ≤ sizeLine := by rw [List.size_toArray, List.size_toArray]; omega
    have hlong : ¬ (!its.toArray.isEmpty && Builtin.List.listTooLong (its.toArray.size + its2.toArray.size)) = true := by
      rw [notLongL hsz, Bool.and_false]
      exact Bool.false_ne_true
    refine call_meets PySem.F.slot_list_extend ⟨_, e, rfl⟩ PySem.F.entry_list_extend (PySem.F.args_list_extend_2 _ _)
      (list_extend_tup l its.toArray n b its2.toArray n2 dd2 sl2 hlong (by rw [List.size_toArray]; omega) (by omega)) ⟨e, ho2, ?_⟩
    refine ⟨.non, _, I.lset (its' := its ++ its2) hH e (by simp) (r.append r2) ?_, rfl, q⟩
    rw [List.length_append]
    omega
def extL : D → Option (List D)
  | .lst _ es => if D.shL es = true then some es else none
  | .tup es => if D.shL es = true then some es else none
  | _ => none
def extE (i : Nat) (d : D) (r : DL.Env) : Res D := match r[i]? with
  | some (some (.lst true ds)) => match extL d with
    | some es => if ds.length + es.length ≤ sizeLine then .ok .non (r.set i (some (.lst true (ds ++ es)))) else .stk
    | none => .stk
  | _ => .stk
def eExt (i : Nat) (E : EE) : EE := fun r => if isL r[i]? = true then (E r).bind (extE i) else .stk
@[simp] theorem eExt_ap {i : Nat} {E : EE} : eExt i E r = if isL r[i]? = true then (E r).bind (extE i) else .stk := (rfl)
@[simp] theorem extL_lst {o : Bool} {es : List D} (hs : D.shL es = true) : extL (.lst o es) = some es := if_pos hs
@[simp] theorem extL_tup {es : List D} (hs : D.shL es = true) : extL (.tup es) = some es := if_pos hs
@[simp] theorem extE_ok {i : Nat} {d : D} {ds es : List D} (h : r[i]? = some (some (.lst true ds))) (hs : extL d = some es) (hl : ds.length + es.length ≤ sizeLine) : extE i d r = .ok .non (r.set i (some (.lst true (ds ++ es)))) := by
  unfold extE; rw [h]; dsimp only; rw [hs]; exact if_pos hl
theorem Rep.lst_sh {o : Bool} {ds : List D} {v : V} (h : Rep K S H (.lst o ds) v T) (hs : D.shL ds = true) : ∃ a vs, v = .ref a ∧ H a = some (.lst vs) ∧ RepL K S H ds vs [] := by
  cases o with
  | true =>
    obtain ⟨a, vs, G, e, q, _, rl⟩ := h
    obtain rfl := RepL.sh ds vs G hs rl
    exact ⟨a, vs, e, q, rl⟩
  | false =>
    obtain ⟨_, a, vs, e, q, rl⟩ := h
    exact ⟨a, vs, e, q.1, rl⟩
theorem n_ext (i : Nat) {E : EE} (he : DE X W e E) (hN : X.N[i]? = some x := by rfl) (hv : Vis X.env.scope x := by first | exact Or.inl rfl | exact Or.inr (Or.inl rfl) | exact Or.inr (Or.inr rfl))
    (hd : (x == ("__debug__" : Str)) = false := by decide) (hcd : (x == ("__classdict__" : Str)) = false := by decide)
    (hbase : attributeBase (.Name x p) "extend" X.env (eval (.Name x p) X.env) = eval (.Name x p) X.env := by rfl)
    (hfew : ((backTo pos (starEach [e] X.env)).all (fun x => !x.1) && (backToKw pos (keywordEach [] X.env)).all (fun x => x.1.isSome)
      && decide ([e].length + ([] : List Keyword).length + (if ([] : List Keyword).isEmpty then 0 else 1) < 30)) = true := by rfl)
    (hline : (apos.endLine == pos.line) = true := by rfl) (hs : starEach [e] X.env = (false, eval e X.env) :: starEach [] X.env := by rfl) (hplain : (backTo pos (starEach [] X.env)).any (·.1) = false := by rfl) :
    DE X W (.Call (.Attribute (.Name x p) "extend" apos) [e] [] pos) (eExt i E) := by
  obtain ⟨t, h, z⟩ := he
  refine ⟨_, pe_bm PySem.F.plainAttrs_list PySem.F.slot_list_extend PySem.F.type_list_extend mt_extA (pe_var hN hv hd hcd) (pa_cons h pa_nil hs) hbase hfew hline hs hplain, fun S H r σ F Q q y => ?_⟩
  have y : EP1 (Rep X.K) X W S H F σ Q (if isL r[i]? = true then (E r).bind (extE i) else .stk) := y
  by_cases hl : isL r[i]? = true
  · rw [if_pos hl] at y
    obtain ⟨v, hv1, hv2⟩ := q.isL hl
    refine ⟨v, hv1, hv2, z S H r σ F _ q (EP1.bind (Go.refl _ _ _) y fun d r1 w S1 H1 F1 T1 g1 q1 h1 f1 y1 => ?_)⟩
    unfold extE at y1
    split at y1
    · rename_i ds e1
      split at y1
      · rename_i es' ee
        split at y1
        · rename_i hz
          obtain ⟨a, vs, G, F0, s1, ha, rl, x0, f0, m0, k⟩ := q1.upd e1
          rw [hv1] at s1
          cases s1
          have pm : (a :: ((T1 ++ G) ++ F0)).Perm (T1 ++ ((a :: G) ++ F0)) := by
            have : ((a :: (T1 ++ G)) ++ F0).Perm ((T1 ++ (a :: G)) ++ F0) := List.Perm.append_right F0 List.perm_middle.symm
            simpa [List.append_assoc] using this
          have f2 : Ft S1 H1 (a :: ((T1 ++ G) ++ F0)) := by
            refine ⟨?_, fun b z => ?_, fun b z => ?_, f1.sd⟩
            · exact pm.nodup_iff.mpr (List.nodup_append.mpr ⟨f1.left.nd, f0.nd, fun b z c y e => by subst e; exact f1.apart b z ((m0 b).mp y)⟩)
            · rcases List.mem_append.mp (pm.mem_iff.mp z) with z' | z'
              · exact f1.left.dj b z'
              · exact f0.dj b z'
            · rcases List.mem_append.mp (pm.mem_iff.mp z) with z' | z'
              · exact f1.left.mu b z'
              · exact f0.mu b z'
          have fin : ∀ ws, RepL X.K S1 H1 es' ws [] → Q .non (L2.upd H1 a (.lst (vs ++ ws))) := by
            intro ws rlz
            obtain ⟨F', k1, k2, k3, _⟩ := k (ds ++ es') (vs ++ ws) G T1 (by simpa using rl.append rlz) f2
            refine y1 .non S1 _ F' [] (g1.trans ?_) k1 ⟨rfl, rfl⟩ k3.right
            have := At.upd_go (vs' := vs ++ ws) (T := T1) (G := G) (T' := T1) (G' := G) f1.sd ha m0 (fun b z => by simp only [List.mem_append] at z ⊢; exact z.symm) k2
            exact this.sub fun b z => by simpa using List.mem_append_right T1 z
          unfold extL at ee
          split at ee
          · rename_i o xs'
            split at ee
            · rename_i hsh
              cases ee
              obtain ⟨b', ws, rfl, hb', rlz⟩ := h1.lst_sh hsh
              exact .inl ⟨a, b', vs, ws, rfl, rfl, ha, hb', by rw [← rl.len, ← rlz.len]; exact hz, fin ws rlz⟩
            · cases ee
          · rename_i xs'
            split at ee
            · rename_i hsh
              cases ee
              obtain ⟨b', ws, rfl, hb', rlz⟩ := h1.tup_at hsh
              exact .inr ⟨a, b', vs, ws, rfl, rfl, ha, hb', by rw [← rl.len, ← rlz.len]; exact hz, fin ws rlz⟩
            · cases ee
          · cases ee
        · exact y1.elim
      · exact y1.elim
    · exact y1.elim
  · rw [if_neg hl] at y
    exact y.elim
/-! ### stars -/
def starL : D → Option (List D)
  | .tup ds => if D.shL ds = true then some ds else none
  | .lst _ ds => if D.shL ds = true then some ds else none
  | _ => none
def aStar (E : EE) (G : DL.Env → Res (List D)) : DL.Env → Res (List D) := fun r => (E r).bind fun d r1 => (opE starL d r1).bind fun es r2 => (G r2).bind fun ds r3 => .ok (es ++ ds) r3
@[simp] theorem aStar_ap {E : EE} {G : DL.Env → Res (List D)} : aStar E G r = (E r).bind fun d r1 => (opE starL d r1).bind fun es r2 => (G r2).bind fun ds r3 => .ok (es ++ ds) r3 := (rfl)
@[simp] theorem starL_tup {ds : List D} (h : D.shL ds = true) : starL (.tup ds) = some ds := if_pos h
@[simp] theorem starL_lst {o : Bool} {ds : List D} (h : D.shL ds = true) : starL (.lst o ds) = some ds := if_pos h
theorem starL_at {d : D} {ds : List D} {v : V} (e : starL d = some ds) (h : Rep K S H d v T) : ∃ a vs, v = .ref a ∧ (SqT K H a vs ∨ SqL K H a vs) ∧ RepL K S H ds vs [] := by
  unfold starL at e
  split at e
  · rename_i xs
    split at e
    · rename_i hs
      cases e
      obtain ⟨a, vs, rfl, hq, rl⟩ := h.tup_at hs
      exact ⟨a, vs, rfl, .inl hq, rl⟩
    · cases e
  · rename_i o xs
    split at e
    · rename_i hs
      cases e
      obtain ⟨a, vs, rfl, hq, rl⟩ := h.lst_sh hs
      exact ⟨a, vs, rfl, .inr (.inl (.inl hq)), rl⟩
    · cases e
  · cases e
theorem n_astar {E : EE} {G : DL.Env → Res (List D)} (ha : DE X W e E) (hb : DA X W es G) (hs : starEach (.Starred e p :: es) X.env = (true, eval e X.env) :: starEach es X.env := by rfl) : DA X W (.Starred e p :: es) (aStar E G) := by
  obtain ⟨t, p, q⟩ := ha
  obtain ⟨t', p', q'⟩ := hb
  refine ⟨_, StX.pa_star p p' hs, fun S H r σ F Q x y => q S H r σ F _ x (EP1.bind (Go.refl _ _ _) y fun d r1 v S1 H1 F1 T1 g1 x1 h1 f1 y1 => ?_)⟩
  cases ee : starL d with
  | none => simp only [opE, ee, Res.bind] at y1; exact y1.elim
  | some xs =>
    have y1 : EP1 (RepL X.K) X W S H F σ Q ((G r1).bind fun ds r3 => .ok (xs ++ ds) r3) := by simpa only [opE, ee, Res.bind] using y1
    obtain ⟨a, vs, rfl, hq, rl⟩ := starL_at ee h1
    refine ⟨a, vs, rfl, hq, ?_⟩
    refine q' S1 H1 r1 σ F1 _ x1 (EP1.bind (g1.sub fun c z => List.mem_append_right _ z) y1 fun ds r2 ws S2 H2 F2 T2 g2 x2 h2 f2 y2 => ?_)
    refine y2 (vs ++ ws) S2 H2 F2 T2 ((g1.sub (F2 := F1) fun c z => List.mem_append_right _ z).trans g2) x2 ?_ f2
    have := (RepL.go g2 x1.ft xs vs [] (fun _ z => nomatch z) rl).append h2
    simpa using this
def paStar (E : EP) (G : DL.Env → PR (List D)) : DL.Env → PR (List D) := fun r => (E r).bind fun d => (opP starL d).bind fun es => (G r).bind fun ds => .ok (es ++ ds)
@[simp] theorem paStar_ap {E : EP} {G : DL.Env → PR (List D)} : paStar E G r = (E r).bind fun d => (opP starL d).bind fun es => (G r).bind fun ds => .ok (es ++ ds) := (rfl)
theorem n_pastar {E : EP} {G : DL.Env → PR (List D)} (ha : DP X W e E) (hb : DPA X W es G) (hs : starEach (.Starred e p :: es) X.env = (true, eval e X.env) :: starEach es X.env := by rfl) : DPA X W (.Starred e p :: es) (paStar E G) := by
  obtain ⟨t, p, q⟩ := ha
  obtain ⟨t', p', q'⟩ := hb
  refine ⟨_, StX.pa_star p p' hs, fun S H r σ F Q x y => q S H r σ F _ x (PP1.bind (Go.refl _ _ _) y fun d v S1 H1 T1 g1 f1 h1 y1 => ?_)⟩
  cases ee : starL d with
  | none => simp only [opP, ee, PR.bind] at y1; exact y1.elim
  | some xs =>
    have y1 : PP1 (RepL X.K) X W S H σ Q ((G r).bind fun ds => .ok (xs ++ ds)) := by simpa only [opP, ee, PR.bind] using y1
    obtain ⟨a, vs, rfl, hq, rl⟩ := starL_at ee h1
    refine ⟨a, vs, rfl, hq, ?_⟩
    refine q' S1 H1 r σ F _ (x.ext0 g1 f1) (PP1.bind g1 y1 fun ds ws S2 H2 T2 g2 f2 h2 y2 => ?_)
    refine y2 (vs ++ ws) S2 H2 T2 (g1.trans g2) f2 ?_
    have := (RepL.go g2 f1 xs vs [] (fun _ z => nomatch z) rl).append h2
    simpa using this
end
end DL

/-! DX10: name += list. -/
namespace DL
open PySem PySem.Spec PyProof.Rows L2
section
variable {X : Cx} {W : WT} {fx : List Nat} {K : PySem.W.Frag} {tb : List Addr} {e a b c : Expr} {es : List Expr} {S S' S1 : Addr → Prop} {H H' H1 : Hp} {F F' F1 T : Fp} {σ : L2.St} {r : DL.Env} {pos p p2 apos : Pos} {x : Str} {st : Stmt}
def augL (i : Nat) (d : D) (r : DL.Env) : SR := match r[i]? with
  | some (some (.lst true ds)) => match d with
    | .lst _ es => if D.shL es = true ∧ ds.length + es.length ≤ sizeLine then .nx (r.set i (some (.lst true (ds ++ es)))) else .stk
    | _ => .stk
  | _ => .stk
def sAugA (i : Nat) (g : D → D → Option D) (E : EE) : DL.Env → SR := fun r => match r[i]? with
  | some (some (.lst true _)) => (E r).thn (augL i)
  | some (some d0) => if d0.sh = true then (E r).thn (augS i g d0) else .stk
  | _ => .stk
@[simp] theorem sAugA_own {i : Nat} {g : D → D → Option D} {E : EE} {ds : List D} (h : r[i]? = some (some (.lst true ds))) : sAugA i g E r = (E r).thn (augL i) := by unfold sAugA; rw [h]
@[simp] theorem sAugA_sh {i : Nat} {g : D → D → Option D} {E : EE} {d : D} (h : r[i]? = some (some d)) (hs : d.sh = true) : sAugA i g E r = (E r).thn (augS i g d) := by
  unfold sAugA; rw [h]
  cases d with
  | lst o ds =>
    cases o with
    | true => simp [D.sh] at hs
    | false => exact if_pos hs
  | _ => exact if_pos hs
@[simp] theorem augL_ok {i : Nat} {o : Bool} {ds es : List D} (h : r[i]? = some (some (.lst true ds))) (hs : D.shL es = true) (hl : ds.length + es.length ≤ sizeLine) : augL i (.lst o es) r = .nx (r.set i (some (.lst true (ds ++ es)))) := by
  unfold augL; rw [h]; exact if_pos ⟨hs, hl⟩
theorem n_augA (i : Nat) {q : R2} {g : D → D → Option D} {E : EE} (ho : OpR X (inplaceOp .Add) q) (v : V2 X.K q g) (hN : X.N.Nodup) (he : DE X W e E) (hi : X.N[i]? = some x := by rfl) (hx : Loc X.env.scope x := by first | exact Or.inl rfl | exact Or.inr rfl) (hfx : i ∉ fx := by decide)
    (hf : X.fn x = true ∨ X.env.scope.names.lookup x = some .local := by first | exact .inl rfl | exact .inr rfl | assumption) : DS X W fx (.AugAssign (.Name x p) .Add e pos) (sAugA i g E) := by
  obtain ⟨t, h, z⟩ := he
  refine ⟨_, ps_aug hN hi hx h (show PIp X .Add (fun x y H Q => q x y H Q ∨ rExt2 x y H Q) from fun pins s σ H x y v u Q I rx ry w => augR (ho.or iop_ext) I rx ry w) hf, fun S H r σ F D0 x y => ?_⟩
  cases e0 : r[i]? with
  | none => unfold sAugA at y; rw [e0] at y; exact y.elim
  | some o0 =>
    cases o0 with
    | none => unfold sAugA at y; rw [e0] at y; exact y.elim
    | some d0 =>
      by_cases hown : ∃ ds, d0 = .lst true ds
      · obtain ⟨ds0, rfl⟩ := hown
        rw [sAugA_own e0] at y
        obtain ⟨v0, T0, s0, h0, _⟩ := x.get e0
        refine ⟨v0, s0, z S H r σ F _ x (SP1.thn y fun d r1 w S1 H1 F1 T1 g1 x1 h1 f1 y1 => ?_)⟩
        refine .inr ?_
        unfold augL at y1
        split at y1
        · rename_i ds e1
          split at y1
          · rename_i o es'
            split at y1
            · rename_i hz
              obtain ⟨a, vs, G, F0, s1, ha, rl, x0, f0, m0, k⟩ := x1.upd e1
              rw [s0] at s1
              cases s1
              have pm : (a :: ((T1 ++ G) ++ F0)).Perm (T1 ++ ((a :: G) ++ F0)) := by
                have : ((a :: (T1 ++ G)) ++ F0).Perm ((T1 ++ (a :: G)) ++ F0) := List.Perm.append_right F0 List.perm_middle.symm
                simpa [List.append_assoc] using this
              have f2 : Ft S1 H1 (a :: ((T1 ++ G) ++ F0)) := by
                refine ⟨?_, fun b z => ?_, fun b z => ?_, f1.sd⟩
                · exact pm.nodup_iff.mpr (List.nodup_append.mpr ⟨f1.left.nd, f0.nd, fun b z c y e => by subst e; exact f1.apart b z ((m0 b).mp y)⟩)
                · rcases List.mem_append.mp (pm.mem_iff.mp z) with z' | z'
                  · exact f1.left.dj b z'
                  · exact f0.dj b z'
                · rcases List.mem_append.mp (pm.mem_iff.mp z) with z' | z'
                  · exact f1.left.mu b z'
                  · exact f0.mu b z'
              obtain ⟨b', ws, rfl, hb', rlz⟩ := h1.lst_sh hz.1
              obtain ⟨F', k1, k2, k3, _⟩ := k (ds ++ es') (vs ++ ws) G T1 (by simpa using rl.append rlz) f2
              refine ⟨a, b', vs, ws, rfl, rfl, ha, hb', by rw [← rl.len, ← rlz.len]; exact hz.2, ?_⟩
              have li : i < σ.length := (List.getElem?_eq_some_iff.mp s0).1
              have es : σ.set i (some (V.ref a)) = σ := by
                have := (List.getElem?_eq_some_iff.mp s0).2
                rw [← this]; exact List.set_getElem_self li
              show D0.nx (σ.set i (some (V.ref a))) _
              rw [es]
              have gu := At.upd_go (vs' := vs ++ ws) (T := T1) (G := G) (T' := T1) (G' := G) f1.sd ha m0 (fun b z => by simp only [List.mem_append] at z ⊢; exact z.symm) k2
              exact y1 σ S1 _ F' ((g1.trans gu).sub fun b z => List.mem_append_right T1 z) k1 (.refl _ _)
            · exact y1.elim
          · exact y1.elim
        · exact y1.elim
      · have hy : sAugA i g E r = if d0.sh = true then (E r).thn (augS i g d0) else .stk := by
          unfold sAugA; rw [e0]
          cases d0 with
          | lst o ds =>
            cases o with
            | true => exact absurd ⟨ds, rfl⟩ hown
            | false => rfl
          | _ => rfl
        rw [hy] at y
        split at y
        · rename_i hsh
          obtain ⟨v0, T0, s0, h0, _⟩ := x.get e0
          have eT : T0 = [] := Rep.sh d0 v0 T0 hsh h0
          subst eT
          refine ⟨v0, s0, z S H r σ F _ x (SP1.thn y fun d r1 w S1 H1 F1 T1 g1 x1 h1 f1 y1 => ?_)⟩
          unfold augS at y1
          split at y1
          · rename_i d' e'
            have h0' := Rep.go g1 x.ft d0 v0 [] (fun _ z => nomatch z) h0
            refine .inl (v S1 H1 d0 d v0 w [] T1 _ x1.ft.sd h0' h1 ⟨d', e', fun u S2 H2 T2 g2 h2 f2 => ?_⟩)
            obtain ⟨a1, a2, a3⟩ := own_end g1 x1 g2 f2
            exact setS_end hfx a1 a2 h2 a3 y1
          · exact y1.elim
        · exact y.elim
/-! ### is True, is not False -/
def rIsBl (neg : Bool) : R2 := fun x y H Q => ∃ a b : Bool, x = .bl a ∧ y = .bl b ∧ Q (.bl (neg != decide (a = b))) H
theorem op_isBl : OpR X (compareOp .Is) (rIsBl false) := by
  intro pins s σ H x y v u Q I rx ry h
  obtain ⟨a, b, rfl, rfl, q⟩ := h
  cases rx
  cases ry
  show wpAny _ _ ((isSame (.bool a) (.bool b)) >>= fun z => pure (Value.bool z)) _ _ s
  refine wpAny_bind (wpAny_isSame_plain rfl ?_)
  exact wpAny_pure (fin_bl I q (by cases a <;> cases b <;> rfl))
theorem op_isNotBl : OpR X (compareOp .IsNot) (rIsBl true) := by
  intro pins s σ H x y v u Q I rx ry h
  obtain ⟨a, b, rfl, rfl, q⟩ := h
  cases rx
  cases ry
  show wpAny _ _ ((isSame (.bool a) (.bool b)) >>= fun z => pure (Value.bool (!z))) _ _ s
  refine wpAny_bind (wpAny_isSame_plain rfl ?_)
  exact wpAny_pure (fin_bl I q (by cases a <;> cases b <;> rfl))
def dIsB : D → D → Option D
  | .bl a, .bl b => some (.bl (decide (a = b)))
  | _, _ => none
def dIsNotB : D → D → Option D
  | .bl a, .bl b => some (.bl (!decide (a = b)))
  | _, _ => none
@[simp] theorem dIsB_bl {a b : Bool} : dIsB (.bl a) (.bl b) = some (.bl (decide (a = b))) := (rfl)
@[simp] theorem dIsNotB_bl {a b : Bool} : dIsNotB (.bl a) (.bl b) = some (.bl (!decide (a = b))) := (rfl)
theorem v2_isBl : V2 K (rIsBl false) dIsB := by
  intro S H d1 d2 v1 v2 T1 T2 Q sd h1 h2 ⟨d, e, k⟩
  cases d1 <;> cases d2 <;> first | (cases e; done) | skip
  rename_i a b
  cases e
  refine ⟨a, b, h1.1, h2.1, ?_⟩
  rw [Bool.false_bne]
  exact k _ S H [] (.refl _ _ _) ⟨rfl, rfl⟩ (Ft.nil sd)
theorem v2_isNotBl : V2 K (rIsBl true) dIsNotB := by
  intro S H d1 d2 v1 v2 T1 T2 Q sd h1 h2 ⟨d, e, k⟩
  cases d1 <;> cases d2 <;> first | (cases e; done) | skip
  rename_i a b
  cases e
  refine ⟨a, b, h1.1, h2.1, ?_⟩
  rw [Bool.true_bne]
  exact k _ S H [] (.refl _ _ _) ⟨rfl, rfl⟩ (Ft.nil sd)
end
end DL

/-! DX11: stores x[i] = v, x[i] op= v into a list that a name owns; not x as a value. -/
namespace DL
open PySem PySem.Spec PyProof.Rows L2
section
variable {X : Cx} {W : WT} {fx : List Nat} {K : PySem.W.Frag} {tb : List Addr} {e a b c : Expr} {es : List Expr} {S S' S1 : Addr → Prop} {H H' H1 : Hp} {F F' F1 T : Fp} {σ : L2.St} {r : DL.Env} {pos p p2 apos tpos : Pos} {x : Str} {st : Stmt} {D0 : Ends}
/-! ### not -/
def eNot (E : EE) : EE := fun r => ((E r).bind asB).bind fun k r1 => .ok (.bl !k) r1
@[simp] theorem eNot_ap {E : EE} : eNot E r = ((E r).bind asB).bind fun k r1 => .ok (.bl !k) r1 := (rfl)
theorem n_enot {E : EE} (h : DE X W a E) : DE X W (.UnaryOp .Not a pos) (eNot E) := by
  obtain ⟨t, p, q⟩ := dr_of_de h
  refine ⟨_, pe_not p, fun S H r σ F Q x y => ?_⟩
  refine RdT.of (t := t) q S H r σ F _ x (EP1.bind (Go.refl _ _ _) y fun k r1 k' S1 H1 F1 T1 g1 x1 h1 f1 y1 => ?_)
  obtain ⟨rfl, rfl⟩ := h1
  exact y1 (.bl !k) S1 H1 F1 [] g1 x1 ⟨rfl, rfl⟩ f1
/-! ### lists -/
theorem RepL.set : ∀ {ds : List D} {vs : List V} {G : Fp} {j : Nat} {d : D} {v : V}, RepL K S H ds vs G → Rep K S H d v [] → ∃ G', RepL K S H (ds.set j d) (vs.set j v) G' ∧ G'.Sublist G
  | [], vs, G, j, d, v, h, _ => by
    obtain ⟨rfl, rfl⟩ := h
    exact ⟨[], ⟨rfl, rfl⟩, .refl _⟩
  | d0 :: ds, vs, G, 0, d, v, h, hd => by
    obtain ⟨v0, r, F1, F2, rfl, rfl, h1, h2⟩ := h
    exact ⟨F2, ⟨v, r, [], F2, rfl, rfl, hd, h2⟩, List.sublist_append_right _ _⟩
  | d0 :: ds, vs, G, j + 1, d, v, h, hd => by
    obtain ⟨v0, r, F1, F2, rfl, rfl, h1, h2⟩ := h
    obtain ⟨G', h3, h4⟩ := RepL.set (j := j) h2 hd
    exact ⟨F1 ++ G', ⟨v0, r.set j v, F1, G', rfl, rfl, h1, h3⟩, List.Sublist.append (.refl _) h4⟩
theorem SP1.thnP {α β : Type} {R : RR α β} {pr : PR α} {f : α → DL.Env → SR} {Q1 : β → Hp → Prop} (g : Go S H F S1 H1 F1) (z : At X.K W.tb S1 H1 r σ F1) (y : SP1 X W fx S H F σ D0 ((pr.up r).thn f))
    (k : ∀ a b S2 H2 T2, Go S1 H1 [] S2 H2 [] → Ft S2 H2 [] → R S2 H2 a b T2 → SP1 X W fx S H F σ D0 (f a r) → Q1 b H2) : PP1 R X W S1 H1 σ Q1 pr := by
  cases pr with
  | ok a => exact fun b S' H' T g' x z => k a b S' H' T g' x z y
  | exc c => exact fun S' H' g' x => y σ S' H' F1 (g.trans (go_side g' F1)) (z.ext0 g' x) (.refl _ _)
  | stk => exact y
/-! ### a place stored -/
def strL (i : Nat) (d k : D) (r : DL.Env) : SR := match r[i]? with
  | some (some (.lst true ds)) => match k with
    | .int k => match ixN ds.length k with
      | some j => if d.sh = true then .nx (r.set i (some (.lst true (ds.set j d)))) else .stk
      | none => .stk
    | _ => .stk
  | _ => .stk
/-- a place of an own list, the value shared -/
theorem At.str (q : At K tb S H r σ F) {i : Nat} {ds : List D} {d : D} {w : V} {j : Nat} (e : r[i]? = some (some (.lst true ds))) (hw : Rep K S H d w []) : ∃ a vs, σ[i]? = some (some (.ref a)) ∧ H a = some (.lst vs) ∧ vs.length = ds.length ∧
    ∃ F', At K tb S (L2.upd H a (.lst (vs.set j w))) (r.set i (some (.lst true (ds.set j d)))) σ F' ∧ Go S H F S (L2.upd H a (.lst (vs.set j w))) F' := by
  obtain ⟨a, vs, G, F0, s1, ha, rl, x0, f0, m0, k⟩ := q.upd e
  obtain ⟨G', rl', sl⟩ := rl.set (j := j) hw
  have sub : (a :: (([] ++ G') ++ F0)).Sublist ((a :: G) ++ F0) := by
    simpa using List.Sublist.cons_cons a (List.Sublist.append sl (.refl F0))
  have f2 : Ft S H (a :: (([] ++ G') ++ F0)) := ⟨f0.nd.sublist sub, fun b z => f0.dj b (sub.subset z), fun b z => f0.mu b (sub.subset z), f0.sd⟩
  obtain ⟨F', k1, k2, k3, _⟩ := k (ds.set j d) (vs.set j w) G' [] rl' f2
  refine ⟨a, vs, s1, ha, rl.len.symm, F', k1, ?_⟩
  simpa using At.upd_go (T := []) (G := G) (T' := []) (G' := G') (F' := F') f0.sd ha m0 (fun b z => by simp at z ⊢; exact sl.subset z) k2
def sStr (i : Nat) (P : EP) (E : EE) : DL.Env → SR := fun r => (E r).thn fun d r1 => if isL r1[i]? = true then ((P r1).up r1).thn fun k r2 => strL i d k r2 else .stk
@[simp] theorem sStr_ap {i : Nat} {P : EP} {E : EE} : sStr i P E r = (E r).thn fun d r1 => if isL r1[i]? = true then ((P r1).up r1).thn fun k r2 => strL i d k r2 else .stk := (rfl)
theorem strL_ok {i : Nat} {d : D} {k : Int} {ds : List D} {j : Nat} (h : r[i]? = some (some (.lst true ds))) (hj : ixN ds.length k = some j) (hd : d.sh = true) : strL i d (.int k) r = .nx (r.set i (some (.lst true (ds.set j d)))) := by
  unfold strL; rw [h]; dsimp only; rw [hj]; exact if_pos hd
theorem n_str_ (i : Nat) {P : EP} {E : EE} (he : DE X W e E) (hp : DP X W a P) (hN : X.N[i]? = some x := by rfl) (hv : Vis X.env.scope x := by first | exact Or.inl rfl | exact Or.inr (Or.inl rfl) | exact Or.inr (Or.inr rfl))
    (hd : (x == ("__debug__" : Str)) = false := by decide) (hcd : (x == ("__classdict__" : Str)) = false := by decide)
    (ha : ∀ v, assign (.Subscript (.Name x p) a tpos) X.env v = (do
      let ov ← holding [v] (eval (.Name x p) X.env)
      let iv ← holding [v, ov] (eval a X.env)
      standAt tpos
      holding [v, ov, iv] (setItem ov iv v)
      release [v, ov, iv] []) := by intro _; rfl)
    (hs : swapsWithSole [.Subscript (.Name x p) a tpos] e pos.line X.env = pure false := by rfl) (hs2 : swappedStores [.Subscript (.Name x p) a tpos] e X.env = pure none := by rfl)
    (h1 : (assignEach [.Subscript (.Name x p) a tpos] X.env).map (·.2) = [assign (.Subscript (.Name x p) a tpos) X.env] := by rfl) : DS X W fx (.Assign [.Subscript (.Name x p) a tpos] e pos) (sStr i P E) := by
  obtain ⟨t, h, z⟩ := he; obtain ⟨t2, h2, z2⟩ := hp
  refine ⟨_, ps_asg h (pg_sub (pe_var hN hv hd hcd) h2 set_list ha) hs hs2 h1, fun S H r σ F D0 x y => z S H r σ F _ x (SP1.thn y fun d r1 w S1 H1 F1 T1 g1 x1 h1 f1 y1 => ?_)⟩
  have y1 : SP1 X W fx S H F σ D0 (if isL r1[i]? = true then ((P r1).up r1).thn fun k r2 => strL i d k r2 else .stk) := y1
  split at y1
  case isFalse => exact y1.elim
  case isTrue hl =>
  have gf : Go S H F S1 H1 F1 := g1.sub fun b z => List.mem_append_right _ z
  obtain ⟨v0, s0, _⟩ := x1.isL hl
  refine ⟨v0, s0, z2 S1 H1 r1 σ F1 _ x1 (SP1.thnP gf x1 y1 fun k b S2 H2 T2 g2 f2 hk y2 => ?_)⟩
  unfold strL at y2
  split at y2
  · rename_i ds e1
    split at y2
    · rename_i k0
      split at y2
      · rename_i j ej
        split at y2
        · rename_i hsh
          have eT : T1 = [] := Rep.sh d w T1 hsh h1
          subst eT
          have x2 := x1.ext0 g2 f2
          have hw : Rep X.K S2 H2 d w [] := Rep.go g2 (Ft.nil x1.ft.sd) d w [] (fun _ z => nomatch z) h1
          obtain ⟨a0, vs, s1, ha0, hlen, F', k1, k2⟩ := x2.str (j := j) e1 hw
          rw [s0] at s1
          cases s1
          exact ⟨a0, vs, k0, j, rfl, hk.1, ha0, by rw [hlen]; exact ej, y2 σ S2 _ F' (gf.trans ((go_side g2 F1).trans k2)) k1 (.refl _ _)⟩
        · exact y2.elim
      · exact y2.elim
    · exact y2.elim
  · exact y2.elim
/-! ### x[i] op= v -/
def rGetL : V → V → Hp → VK → Prop := fun o i H Q => ∃ p xs k v, o = .ref p ∧ i = .int k ∧ H p = some (.lst xs) ∧ atI xs k = some v ∧ Q v H
theorem pget_list : PGet X rGetL := by
  intro pins s σ H o i ov iv Q I ro ri h
  obtain ⟨p, xs, k, z, rfl, rfl, hp, he, q⟩ := h
  cases ro
  obtain ⟨t, rfl⟩ := ri
  obtain ⟨its, r, pl, hz⟩ := I.list (.inl (.inl hp))
  obtain ⟨j, h1, h2, h3, h4, h5⟩ := atI_get he
  obtain ⟨w, ew, rw'⟩ := r.get h2
  have hl := r.length
  have hn := line63
  have fin : L2.EP X pins σ Q w s := ⟨z, H, I, rw', q⟩
  by_cases h0 : 0 ≤ k
  · have hj : k.toNat = j := by
      rw [seqIndex_of h0 h5] at h1
      exact Option.some.inj h1
    exact wpAny_getItem_list pl.isList h0 (by omega) (by rw [hj]; simpa using ew) fin
  · have hj : (k + (its.toArray.size : Int)).toNat = j := by
      rw [seqIndex_neg (by omega) h4] at h1
      rw [List.size_toArray, ← hl]
      exact Option.some.inj h1
    exact wpAny_getItem_list_neg pl.isList (by omega) (by rw [List.size_toArray] <;> omega) (by omega) (by rw [hj]; simpa using ew) fin
def augSt2 (i : Nat) (g : D → D → Option D) (k d : D) (r : DL.Env) : SR := match r[i]? with
  | some (some (.lst true ds)) => match k with
    | .int k => match ixN ds.length k with
      | some j => match ds[j]? with
        | some d0 => if d0.sh = true then match g d0 d with
            | some d' => if d'.sh = true then .nx (r.set i (some (.lst true (ds.set j d')))) else .stk
            | none => .stk
          else .stk
        | none => .stk
      | none => .stk
    | _ => .stk
  | _ => .stk
def okIx (i : Nat) (k : D) (r : DL.Env) : Bool := match r[i]? with
  | some (some (.lst true ds)) => match k with
    | .int k => match ixN ds.length k with
      | some j => (ds[j]?).isSome
      | none => false
    | _ => false
  | _ => false
def sAugSt (i : Nat) (g : D → D → Option D) (P A : EP) : DL.Env → SR := fun r => if isL r[i]? = true then ((P r).up r).thn fun k r1 => if okIx i k r1 = true then ((A r1).up r1).thn fun d r2 => augSt2 i g k d r2 else .stk else .stk
@[simp] theorem sAugSt_ap {i : Nat} {g : D → D → Option D} {P A : EP} : sAugSt i g P A r = if isL r[i]? = true then ((P r).up r).thn fun k r1 => if okIx i k r1 = true then ((A r1).up r1).thn fun d r2 => augSt2 i g k d r2 else .stk else .stk := (rfl)
theorem okIx_ok {i : Nat} {k : Int} {ds : List D} {j : Nat} (h : r[i]? = some (some (.lst true ds))) (hj : ixN ds.length k = some j) (hd : j < ds.length) : okIx i (.int k) r = true := by
  unfold okIx; rw [h]; dsimp only; rw [hj]; simp [hd]
theorem augSt2_ok {i : Nat} {g : D → D → Option D} {d d0 d' : D} {k : Int} {ds : List D} {j : Nat} (h : r[i]? = some (some (.lst true ds))) (hj : ixN ds.length k = some j) (hd : ds[j]? = some d0) (h0 : d0.sh = true) (hg : g d0 d = some d') (h1 : d'.sh = true) : augSt2 i g (.int k) d r = .nx (r.set i (some (.lst true (ds.set j d')))) := by
  unfold augSt2; rw [h]; dsimp only; rw [hj]; dsimp only; rw [hd]; dsimp only; rw [if_pos h0, hg]; exact if_pos h1
theorem n_augSt (i : Nat) {op : Operator} {q : R2} {g : D → D → Option D} {P A : EP} (ho : OpR X (inplaceOp op) q) (v : V2 X.K q g) (hp : DP X W a P) (he : DP X W e A) (hN : X.N[i]? = some x := by rfl) (hv : Vis X.env.scope x := by first | exact Or.inl rfl | exact Or.inr (Or.inl rfl) | exact Or.inr (Or.inr rfl))
    (hd : (x == ("__debug__" : Str)) = false := by decide) (hcd : (x == ("__classdict__" : Str)) = false := by decide)
    (ha : ∀ ov iv new, augStore a ov iv new = (do holding [new, ov, iv] (setItem ov iv new); release [new, ov, iv] []; pure .next) := by intros; rfl) : DS X W fx (.AugAssign (.Subscript (.Name x p) a tpos) op e pos) (sAugSt i g P A) := by
  obtain ⟨t, h, z⟩ := he; obtain ⟨t2, h2, z2⟩ := hp
  refine ⟨_, ps_augS (pe_var hN hv hd hcd) h2 pget_list h (show PIp X op q from fun pins s σ H x y v u Q I rx ry w => augR ho I rx ry w) set_list ha, fun S H r σ F D0 x y => ?_⟩
  have y : SP1 X W fx S H F σ D0 (if isL r[i]? = true then ((P r).up r).thn fun k r1 => if okIx i k r1 = true then ((A r1).up r1).thn fun d r2 => augSt2 i g k d r2 else .stk else .stk) := y
  split at y
  case isFalse => exact y.elim
  case isTrue hl =>
  obtain ⟨v0, s0, _⟩ := x.isL hl
  refine ⟨v0, s0, z2 S H r σ F _ x (SP1.thnP (.refl _ _ _) x y fun k b S1 H1 T1 g1 f1 hk y1 => ?_)⟩
  have x1 := x.ext0 g1 f1
  split at y1
  case isFalse => exact y1.elim
  case isTrue hok =>
  unfold okIx at hok
  split at hok
  · rename_i ds e1
    split at hok
    · rename_i k0
      split at hok
      · rename_i j ej
        obtain ⟨d0, ed0⟩ := Option.isSome_iff_exists.mp hok
        obtain ⟨a0, vs, G, F0, s1, ha0, rl, _⟩ := x1.upd e1
        rw [s0] at s1
        cases s1
        obtain ⟨w0, G0, ew0, hw0, _⟩ := rl.get ed0
        refine ⟨a0, vs, k0, w0, rfl, hk.1, ha0, by unfold atI; rw [← rl.len, ej]; exact ew0, ?_⟩
        refine z S1 H1 r σ F _ x1 (SP1.thnP (go_side g1 F) x1 y1 fun d w S2 H2 T2 g2 f2 hd2 y2 => ?_)
        have x2 := x1.ext0 g2 f2
        unfold augSt2 at y2
        rw [e1] at y2
        dsimp only at y2
        rw [ej] at y2
        dsimp only at y2
        rw [ed0] at y2
        dsimp only at y2
        split at y2
        · rename_i hsh
          have eG : G0 = [] := Rep.sh d0 w0 G0 hsh hw0
          subst eG
          split at y2
          · rename_i d' ed'
            split at y2
            · rename_i hsh'
              have h0' := Rep.go g2 (Ft.nil x1.ft.sd) d0 w0 [] (fun _ z => nomatch z) hw0
              refine v S2 H2 d0 d w0 w [] T2 _ x2.ft.sd h0' hd2 ⟨d', ed', fun u S3 H3 T3 g3 h3 f3 => ?_⟩
              have eT : T3 = [] := Rep.sh d' u T3 hsh' h3
              subst eT
              have x3 := x2.ext0 g3 f3
              obtain ⟨a1, vs1, s2, ha1, hlen, F', k1, k2⟩ := x3.str (j := j) e1 h3
              rw [s0] at s2
              cases s2
              exact ⟨a0, vs1, k0, j, rfl, hk.1, ha1, by rw [hlen]; exact ej, y2 σ S3 _ F' ((go_side g1 F).trans ((go_side g2 F).trans ((go_side g3 F).trans k2))) k1 (.refl _ _)⟩
            · exact y2.elim
          · exact y2.elim
        · exact y2.elim
      · cases hok
    · cases hok
  · cases hok
end
end DL

/-! DX12: sorting that the kernel can reckon; sum of a tuple. -/
namespace DL
open PySem PySem.Spec PyProof.Rows L2
section
variable {α : Type}
def mrgF (le : α → α → Bool) : Nat → List α → List α → List α
  | 0, xs, ys => xs ++ ys
  | _ + 1, [], ys => ys
  | _ + 1, x :: xs, [] => x :: xs
  | n + 1, x :: xs, y :: ys => if le x y = true then x :: mrgF le n xs (y :: ys) else y :: mrgF le n (x :: xs) ys
theorem mrgF_eq (le : α → α → Bool) : ∀ (n : Nat) (xs ys : List α), xs.length + ys.length ≤ n → List.merge xs ys le = mrgF le n xs ys
  | 0, xs, ys, h => by
    have h1 : xs = [] := List.eq_nil_of_length_eq_zero (by omega)
    have h2 : ys = [] := List.eq_nil_of_length_eq_zero (by omega)
    subst h1 h2; simp [mrgF]
  | n + 1, [], ys, h => by simp [mrgF]
  | n + 1, x :: xs, [], h => by simp [mrgF]
  | n + 1, x :: xs, y :: ys, h => by
    simp only [List.length_cons] at h
    rw [List.merge, mrgF, mrgF_eq le n xs (y :: ys) (by simp only [List.length_cons]; omega), mrgF_eq le n (x :: xs) ys (by simp only [List.length_cons]; omega)]
def msF (le : α → α → Bool) : Nat → List α → List α
  | 0, xs => xs
  | _ + 1, [] => []
  | _ + 1, [a] => [a]
  | n + 1, a :: b :: xs => mrgF le (xs.length + 2) (msF le n ((a :: b :: xs).take ((xs.length + 3) / 2))) (msF le n ((a :: b :: xs).drop ((xs.length + 3) / 2)))
theorem msF_eq (le : α → α → Bool) : ∀ (n : Nat) (xs : List α), xs.length ≤ n → List.mergeSort xs le = msF le n xs
  | 0, xs, h => by
    have h1 : xs = [] := List.eq_nil_of_length_eq_zero (by omega)
    subst h1; simp [msF]
  | n + 1, [], h => by simp [msF]
  | n + 1, [a], h => by simp [msF]
  | n + 1, a :: b :: xs, h => by
    simp only [List.length_cons] at h
    have e1 := msF_eq le n ((a :: b :: xs).take ((xs.length + 3) / 2)) (by simp only [List.length_take, List.length_cons]; omega)
    have e2 := msF_eq le n ((a :: b :: xs).drop ((xs.length + 3) / 2)) (by simp only [List.length_drop, List.length_cons]; omega)
    rw [List.mergeSort, msF, ← e1, ← e2]
    simp only [List.MergeSort.Internal.splitInTwo_fst, List.MergeSort.Internal.splitInTwo_snd]
    rw [← mrgF_eq le (xs.length + 2) _ _ (by simp only [List.length_mergeSort, List.length_take, List.length_drop, List.length_cons]; omega)]
    rfl
end
def dSortDF : List D → Option D
  | [.lst _ ds] => if D.shL ds = true ∧ D.depL ds ≤ 60 ∧ allOrd ds = true ∧ srtOk ds = true then some (.lst true (msF D.leb ds.length ds)) else none
  | _ => none
theorem dSortD_eq : dSortD = dSortDF := by
  funext ds
  match ds with
  | [] => rfl
  | [.lst o ds] => simp only [dSortD, dSortDF]; rw [msF_eq D.leb ds.length ds (Nat.le_refl _)]
  | [.non] => rfl
  | [.bl _] => rfl
  | [.int _] => rfl
  | [.str _] => rfl
  | [.tup _] => rfl
  | [.scr _] => rfl
  | [.exc _] => rfl
  | [.dic _ _ _ _] => rfl
  | a :: b :: c => cases a <;> rfl
def dSortF (ds : List D) : Option D := (dSorted ds).or (dSortDF ds)
theorem dSort_eq : dSortA = dSortF := by
  funext ds
  unfold dSortA dSortF
  rw [dSortD_eq]
/-! ### sum of a tuple -/
def rSumT (K : PySem.W.Frag) : List V → Hp → VK → Prop := fun vs H Q => ∃ (a : Addr) (ns : List Int), vs = [V.ref a] ∧ SqT K H a (ns.map V.int) ∧ Q (.int ns.sum) H
theorem cr_sumT {X : Cx} (hc : X.calm = true) : CallR X (.builtin "sum") (rSumT X.K) := by
  intro pins s σ H vs us Q I r h
  obtain ⟨a, ns, rfl, hs, q⟩ := h
  obtain ⟨its, rv, hl, _⟩ := I.tuple hs
  rw [Vals.ref1 r]
  have hi := rv.ints
  obtain ⟨xs, e⟩ := hi.allInts.items
  have hn : numsOf (intItems xs).toList = ns := by rw [← e]; exact hi.numsOf
  rw [nums_intItems] at hn
  rw [e] at hl
  refine PySem.W.ktm_sumG (I.ok.hd hc) hl fun h' tk t' hk => ?_
  rw [preSum_eq, List.take_of_length_le (by simp), hn]
  exact ⟨.int _, H, I.kept hk, ⟨_, rfl⟩, q⟩
def dSumT : List D → Option D
  | [.tup ds] => (intsOf ds).map fun ns => .int ns.sum
  | _ => none
theorem vl_sumT {K : PySem.W.Frag} : VL K (rSumT K) dSumT := by
  intro S H ds vs T1 Q sd h ⟨d, e, k⟩
  unfold dSumT at e
  split at e
  · rename_i ds
    obtain ⟨v, t, A1, B1, rfl, rfl, h1, rfl, rfl⟩ := h
    cases q : intsOf ds with
    | none => rw [q] at e; cases e
    | some ns =>
      rw [q] at e
      cases e
      obtain ⟨a, ws, rfl, h2, r2⟩ := h1
      rw [(RepL.ints_of q r2).1] at h2
      exact ⟨a, ns, rfl, h2, k _ S H [] (.refl _ _ _) ⟨rfl, rfl⟩ (Ft.nil sd)⟩
  · cases e
def dSumA (ds : List D) : Option D := (dSum ds).or (dSumT ds)
theorem cr_sumA {X : Cx} (hc : X.calm = true) : CallR X (.builtin "sum") (fun vs H Q => rSum X.K vs H Q ∨ rSumT X.K vs H Q) := (cr_sum hc).or (cr_sumT hc)
theorem vl_sumA {K : PySem.W.Frag} : VL K (fun vs H Q => rSum K vs H Q ∨ rSumT K vs H Q) dSumA := vl_sum.or' vl_sumT
end DL

/-! DX13: what a def does within an except suite: a list comprehension over a list, isinstance of what is handled, calls. -/
namespace DH
open PySem PySem.Spec PyProof.Rows L2 L2H HotX
section
variable {prog : Program} {w : World} {A : Around} {E : Value → Shared → Prop} {s : Shared}
theorem list_end_hot {it l x1 : Addr} {i : Nat} {items : Array Value} {Q : Option Value → Shared → Prop} (hot : HotAt A x1 s.heap) (hit : s.heap.IsListIter it l i) (hl : s.heap.IsList l items) (hx : items[i]? = none) (hne : x1 ≠ it)
    (hQ : ∀ h', (∀ b o, b ≠ it → s.heap.get? b = some o → h'.get? b = some o) → Q none { s with heap := h' }) : wpAny (model prog w) A (pyNext (.ref it)) Q E s := by
  obtain ⟨o, ho, hc, hd⟩ := id hit
  obtain ⟨ol, hol, _, nl, hdl⟩ := hl
  obtain ⟨hh, o1, vs1, h1, d1, c1⟩ := hot
  unfold pyNext
  refine wpAny_bind (wpAny_attempt (wpAny_callSpecial?_slot (name := Str.ofString "__next__") hit.typeIs slot_listiter_next
    (wpAny_call_entry slot_listiter_next hit.typeIs entry_listiter_next ?_ (args_listiter_next _))))
  show wpAny _ _ (field (.ref it) 0 >>= _) _ _ s
  refine wpAny_bind (wpAny_field ho hd (x := .ref l) rfl ?_)
  show wpAny _ _ (if (Value.ref l == Value.none) = true then _ else _) _ _ s
  rw [if_neg (show ¬ ((Value.ref l == Value.none) = true) from Bool.false_ne_true)]
  show wpAny _ _ (field (.ref it) 1 >>= _) _ _ s
  refine wpAny_bind (wpAny_field ho hd (x := .int i 0) rfl ?_)
  show wpAny _ _ (seqItems? (.ref l) >>= _) _ _ s
  refine wpAny_bind (wpAny_seqItems hol hdl ?_)
  simp only [Int.toNat_natCast, hx]
  refine wpAny_bind (wpAny_rule (wpAny_bind (wpAny_setField ho hd (by simp) ?_)))
  show wpAny _ _ (newExc (.type "StopIteration") [] >>= _) _ _ _
  refine wpAny_bind ?_
  simp only [newExc, newTuple]
  refine wpAny_bind (wpAny_newObj_type ?_ (by size_fits))
  refine wpAny_bind (m := firstArgMember _ _) (wpAny_of_eq (a := Value.none) (by first | rfl | (simp only [firstArgMember]; rfl)) ?_)
  refine wpAny_newObj_type ?_ (by size_fits)
  have k0 : ∀ b o, b ≠ it → s.heap.get? b = some o → (s.heap.update it (Obj.mapFields (·.setIfInBounds 0 .none))).get? b = some o := fun b o n e => (Heap.get?_update_other _ _ (Ne.symm n)).trans e
  refine raiseNew_hot ⟨hh, o1, vs1, Heap.get?_push_of_some _ (Heap.get?_push_of_some _ (k0 _ _ hne h1)), d1, c1⟩ (Nat.ne_of_lt (Heap.lt_size (Heap.get?_push_of_some _ (k0 _ _ hne h1)))) (Heap.get?_push_size _ rfl) rfl (by first | (simp; done) | (simp; omega) | (simp only [Array.size_append]; simp; omega)) ?_
  refine wpAny_bind (wpAny_isInstance (T := "StopIteration") (b := true) ⟨_, Heap.get?_update_self _ (Heap.get?_push_size _ rfl) rfl, rfl⟩ isSubtype_stop ?_)
  refine wpAny_pure (hQ _ fun b o n e => ?_)
  rw [Heap.get?_update_other _ _ (Nat.ne_of_gt (Heap.lt_size (Heap.get?_push_of_some _ (k0 _ _ n e))))]
  exact Heap.get?_push_of_some _ (Heap.get?_push_of_some _ (k0 _ _ n e))
end
section
variable {X : Cx}
/-- [elt for target in a list if ..], while an exception is handled; D the new list, W by the turn -/
def tLcH (K : PySem.W.Frag) (ti : TE) (g : TG) (tt : TT) (te : TE) (vs : List Nat) : TE := fun σ H Q => ti σ H fun v H1 => ∃ (a : Addr) (xs : List V), v = .ref a ∧ SqL K H1 a xs ∧ ∀ D, H1 D = none → ∃ W : Nat → Hp → Prop, W 0 (upd H1 D (.lst [])) ∧ ∀ i H, W i H → SqL K H a xs ∧ (xs.length ≤ i → Q (.ref D) H) ∧
  ∀ x, xs[i]? = some x → g x (wipe σ vs) H fun σ2 H2 => wipe σ2 vs = wipe σ vs ∧ tt σ2 H2 fun b H3 =>
    if b = true then te σ2 H3 fun y H4 => ∃ acc, H4 D = some (.lst acc) ∧ acc.length < sizeLine ∧ W (i + 1) (upd H4 D (.lst (acc ++ [y]))) else W (i + 1) H3
theorem pe_lcH {elt tg iter : Expr} {ifs : List Expr} {scope : Scope} {own : List (Str × Nat)} {pos : Pos} {ti : TE} {g : TG} {tt : TT} {te : TE} (hot : HotC X) (hN : X.N.Nodup) (hi : PE X iter ti) (ok : BlkOk X.N X.env.scope scope own)
    (hg : ∀ (s : Shared) (H : Hp) (C : Addr) (cl : List (Str × Addr)) (fp : List Addr), PG (X.blk s H scope (compEnvC scope cl C X.env) fp) tg g) (ht : ∀ (s : Shared) (H : Hp) (C : Addr) (cl : List (Str × Addr)) (fp : List Addr), PTs (X.blk s H scope (compEnvC scope cl C X.env) fp) ifs tt)
    (he : ∀ (s : Shared) (H : Hp) (C : Addr) (cl : List (Str × Addr)) (fp : List Addr), PE (X.blk s H scope (compEnvC scope cl C X.env) fp) elt te) (hs : ∀ x, foldedSetIterable iter X.env x = pure x := by intro _; rfl) :
    PE X (.ListComp elt [⟨tg, iter, ifs, 0⟩] scope pos) (tLcH X.K ti g tt te (own.map (·.2))) := by
  refine ⟨fun pins s σ H Q I h => ?_⟩
  rw [eval_ListComp]
  have hfree : ∀ y ∈ scope.names, y.2 = .free → ∃ c, X.env.cells.lookup y.1 = some c := fun y hy e => by
    rcases ok.free y hy e with k | k
    · exact I.ok.has _ (.inl k)
    · exact I.ok.has _ (.inr k)
  refine wpAny_comprehension_free (use := none) rfl hs (closure_ok hfree) ok.kind (fun y hy e => by rw [ok.uniq y hy, e])
    (thn (hi.run pins s σ H _ I h) fun xv s1 hx => ?_)
  obtain ⟨xV, H1, I1, rx, a, xs, rfl, hq, q⟩ := hx
  cases rx
  obtain ⟨its, rv, p, hz⟩ := I1.list hq
  refine wpAny_pyIter_list p.isList ?_
  have f2 : FpOk X pins H1 s1.heap.objs.size := I1.fpOk (Nat.le_refl _) (I1.hok.fresh (Nat.le_refl _))
  have I2 : Inv X pins σ H1 { s1 with heap := s1.heap.push { cls := .type "list_iterator", data := .fields #[.ref a, .int 0 0] } } := I1.kept (t' := s1.toks) fun b o e => Heap.get?_push_of_some _ e
  have st2 : ({ s1 with heap := s1.heap.push { cls := .type "list_iterator", data := .fields #[.ref a, .int 0 0] } } : Shared).heap.IsListIter s1.heap.objs.size a 0 := ⟨_, Heap.get?_push_size _ rfl, rfl, rfl⟩
  generalize hs2 : ({ s1 with heap := s1.heap.push { cls := .type "list_iterator", data := .fields #[.ref a, .int 0 0] } } : Shared) = s2 at I2 st2 ⊢
  generalize s1.heap.objs.size = it at f2 st2 ⊢
  refine wpAny_newObj_type (newEnv_comp ?_) (by show 0 ≤ sizeLine; decide)
  generalize hD : s2.heap.objs.size = D
  have hDn : H1 D = none := I2.hok.fresh (Nat.le_of_eq hD)
  obtain ⟨W, w0, turn⟩ := q D hDn
  generalize hs3 : ({ s2 with heap := s2.heap.push { cls := .type "list", data := .seq ([] : List Value).toArray } } : Shared) = s3
  have I3 : Inv X pins σ (upd H1 D (.lst [])) s3 := by
    rw [← hs3]
    refine I2.laid (t' := s2.toks) (fun b o e => Heap.get?_push_of_some _ e) (Nat.le_of_eq hD) ⟨Nat.zero_le _, [], 0, .nil, ?_⟩
    rw [← hD]
    exact Heap.get?_push_size _ rfl
  have h3 : s3.heap = s2.heap.push { cls := .type "list", data := .seq ([] : List Value).toArray } := by rw [← hs3]
  have szi : it < s2.heap.objs.size := by
    obtain ⟨o, e, _⟩ := id st2
    exact Heap.lt_size e
  have keepI : ∀ {h h' : Heap} {i : Nat}, h.IsListIter it a i → (∀ o, h.get? it = some o → h'.get? it = some o) → h'.IsListIter it a i := fun {h h' i} st k => st.at fun o e => k o e
  have f3 : ∀ b ∈ [it], FpOk X pins (upd H1 D (.lst [])) b ∧ b < s3.heap.objs.size := fun b hb => by
    have eb : b = it := by simpa using hb
    subst eb
    refine ⟨⟨?_, f2.2⟩, by rw [h3, Heap.size_push]; exact Nat.lt_succ_of_lt szi⟩
    rw [upd_ne (by rw [← hD]; exact Nat.ne_of_lt szi)]
    exact f2.1
  have st3 : s3.heap.IsListIter it a 0 := keepI st2 fun o e => by rw [h3]; exact Heap.get?_push_of_some _ e
  have I4 := block_start I3 ok hN f3
  have pg := hg s3 (upd H1 D (.lst [])) s3.heap.objs.size (cellsFrom (s3.heap.objs.size + 1) scope.names (cloFrom X.env.cells scope.names [])) [it]
  have pt := ht s3 (upd H1 D (.lst [])) s3.heap.objs.size (cellsFrom (s3.heap.objs.size + 1) scope.names (cloFrom X.env.cells scope.names [])) [it]
  have pe := he s3 (upd H1 D (.lst [])) s3.heap.objs.size (cellsFrom (s3.heap.objs.size + 1) scope.names (cloFrom X.env.cells scope.names [])) [it]
  show codeAny _ _ (.compStart (.ListComp elt [⟨tg, iter, ifs, 0⟩] scope pos) 0 (.ref it) (.ref D) (compEnvC scope (cellsFrom (s3.heap.objs.size + 1) scope.names (cloFrom X.env.cells scope.names [])) s3.heap.objs.size X.env)) (compPost (model X.prog X.w) X.A X.xe none (L2.EP X pins σ Q) (.ref D) s3.heap.objs.size) { s3 with heap := pushCells (s3.heap.push { cls := .type "dict", data := .dict #[] }) scope.names }
  have nfp : (upd H1 D (.lst [])) it = none := (f3 it (by simp)).1.1
  generalize hce : compEnvC scope (cellsFrom (s3.heap.objs.size + 1) scope.names (cloFrom X.env.cells scope.names [])) s3.heap.objs.size X.env = ce at I4 pg pt pe ⊢
  have cL : ce.locals = s3.heap.objs.size := by subst hce; rfl
  generalize hH3 : upd H1 D (.lst []) = H3 at I3 I4 pg pt pe w0 nfp f3
  generalize hs4 : ({ s3 with heap := pushCells (s3.heap.push { cls := .type "dict", data := .dict #[] }) scope.names } : Shared) = s4 at I4 ⊢
  have st4 : s4.heap.IsListIter it a 0 := keepI st3 fun o e => by rw [← hs4]; exact pushCells_keeps _ _ _ _ (Heap.get?_push_of_some _ e)
  have stat : ∀ {σ' : L2.St} {H' : Hp} {s' : Shared}, Inv (X.blk s3 H3 scope ce [it]) [] σ' H' s' → H' it = none → ∀ b ∈ [it], FpOk (X.blk s3 H3 scope ce [it]) [] H' b := fun {σ' H' s'} I' hn b hb => by
    have eb : b = it := by simpa using hb
    subst eb
    exact ⟨hn, (I'.ok.exf b hb).1, I'.ok.exfs b hb, .inl hb, fun x c e => (I'.ok.exf b hb).2 x c e, fun p hp => absurd (show p ∈ ([] : List (Addr × Obj)) ++ [] from hp) (by simp)⟩
  have loop : codeAny (model X.prog X.w) X.A (.compLoop (.ListComp elt [⟨tg, iter, ifs, 0⟩] scope pos) 0 (.ref it) (.ref D) ce) (compPost (model X.prog X.w) X.A X.xe none (L2.EP X pins σ Q) (.ref D) s3.heap.objs.size) s4 := by
    refine compLoop_any (fun n s' => ∃ i H', n + i = xs.length ∧ Inv (X.blk s3 H3 scope ce [it]) [] (wipe σ (own.map (·.2))) H' s' ∧ s'.heap.IsListIter it a i ∧ H' it = none ∧ W i H') ?_ xs.length ⟨0, H3, rfl, I4, st4, nfp, w0⟩
    rintro n s5 ⟨i, H5, hni, I5, st5, n5, w5⟩
    obtain ⟨hq5, qstop, qgo⟩ := turn i H5 w5
    obtain ⟨its5, rv5, p5, hz5⟩ := I5.list hq5
    have hlen := rv5.length
    obtain ⟨g0, g1, g2, g3, g4, g5⟩ := stat I5 n5 it (by simp)
    cases ex : xs[i]? with
    | none =>
      have hxi : xs.length ≤ i := List.getElem?_eq_none_iff.mp ex
      have I5X : Inv X pins σ H5 s5 := I3.call' (ch := [it]) I5.os I5.base I5.hok I5.bare fun b hb => ⟨(f3 b hb).1.2.2.2.1, (f3 b hb).1.2.1, (f3 b hb).1.2.2.2.2.1, (f3 b hb).1.2.2.2.2.2⟩
      obtain ⟨pp, ⟨hh, v1, e1, c1⟩, hp⟩ := id hot
      have hat : HotAt X.A pp.1 s5.heap := ⟨hh, pp.2, v1, (I5X.pin pp (List.mem_append_left _ hp)).1, e1, c1⟩
      refine list_end_hot hat st5 p5.isList (by simp; omega) (f2.2.2.2.2.2 pp (List.mem_append_left _ hp)) fun h' k => ?_
      have I6 : Inv (X.blk s3 H3 scope ce [it]) [] (wipe σ (own.map (·.2))) H5 { s5 with heap := h' } := I5.turned (t' := s5.toks) k g0 g1 g3 g4 g5
      have I7 : Inv X pins σ H5 { s5 with heap := h' } := I3.call' (ch := [it]) I6.os I6.base I6.hok I6.bare fun b hb => ⟨(f3 b hb).1.2.2.2.1, (f3 b hb).1.2.1, (f3 b hb).1.2.2.2.2.1, (f3 b hb).1.2.2.2.2.2⟩
      have nC : H5 s3.heap.objs.size = none := by
        have z : H5 ce.locals = none := I6.free
        rw [cL] at z
        exact z
      obtain ⟨m, hn, _⟩ := I6.loc
      have hn : h'.Ns ce.locals m := hn
      rw [cL] at hn
      have fC : FpOk X pins H5 s3.heap.objs.size := I3.fpOk (Nat.le_refl _) nC
      obtain ⟨k0, k1, k2, k3, k4, k5⟩ := fC
      exact ⟨m, hn, fun h'' sb => ⟨.ref D, H5, I7.turned (t' := s5.toks) (fun b o hb e => (sb.2 b hb).trans e) k0 k1 k3 k4 k5, rfl, qstop hxi⟩⟩
    | some x =>
      obtain ⟨u, hu, ru⟩ := rv5.get ex
      refine wpAny_pyNext_list_item st5 p5.isList (x := u) (by simpa using hu) fun h' st' sb => ?_
      have I7 : Inv (X.blk s3 H3 scope ce [it]) [] (wipe σ (own.map (·.2))) H5 { s5 with heap := h' } := I5.turned (t' := s5.toks) (fun b o hb e => (sb.2 b hb).trans e) g0 g1 g3 g4 g5
      obtain ⟨oi, ei, ci, di⟩ := id st'
      refine go_of (s := { s5 with heap := h' }) ei ci di (by decide) ?_
      have hobj : ∀ b ∈ [it], ∃ o, h'.get? b = some o ∧ ∀ v, o.data ≠ .cell v := fun b hb => by
        have eb : b = it := by simpa using hb
        subst eb
        exact ⟨oi, ei, fun v z => by rw [di] at z; cases z⟩
      have I7' := I7.pinned (stat I7 n5) hobj
      refine thnF (pg.run _ _ _ H5 x u _ I7' ru (qgo x ex)) fun _ s8 ⟨σ8, H8, I8, hw8, q8⟩ => ?_
      refine thnF (pt.run _ s8 σ8 H8 _ I8 q8) fun b s9 ⟨H9, I9, q9⟩ => ?_
      have fin : ∀ {s' : Shared} {H' : Hp}, Inv (X.blk s3 H3 scope ce [it]) ([] ++ pinsAt [it] h') σ8 H' s' → W (i + 1) H' → ∃ m, m < n ∧ ∃ i H', m + i = xs.length ∧ Inv (X.blk s3 H3 scope ce [it]) [] (wipe σ (own.map (·.2))) H' s' ∧ s'.heap.IsListIter it a i ∧ H' it = none ∧ W i H' := fun {s' H'} I' nx => by
        have pin' : ∀ o, h'.get? it = some o → s'.heap.get? it = some o ∧ H' it = none := fun o e =>
          let z := I'.pin (it, o) (List.mem_append_right _ (List.mem_append_right _ (mem_pinsAt (by simp) e)))
          ⟨z.1, z.2.1⟩
        have hl : (wipe σ (own.map (·.2))).length = σ8.length := by rw [← hw8, wipe_length]
        have hi : i < xs.length := (List.getElem?_eq_some_iff.mp ex).1
        refine ⟨n - 1, by omega, i + 1, H', by omega, (I'.unpinned (pins := [])).weak hl (fun j v e => ?_), keepI st' fun o e => (pin' o e).1, (pin' oi ei).2, nx⟩
        rw [← hw8] at e
        exact (wipe_some e).1
      cases b with
      | false =>
        simp only [Bool.false_eq_true, if_false] at q9 ⊢
        exact fin I9 q9
      | true =>
        simp only [if_true] at q9 ⊢
        refine thnF (pe.run _ s9 σ8 H9 _ I9 q9) fun z s10 ⟨yv, H10, I10, r10, acc, hD10, hz10, nx⟩ => ?_
        exact app_ok (X := X.blk s3 H3 scope ce [it]) I10 hD10 hz10 r10 fun s11 I11 => fin I11 nx
  exact codeAny_compStart_list loop (wpAny_pyIter_listiter st4 loop)
end
end DH

/-! DX14: a def that is handed the handled exception. -/
namespace DH
open PySem PySem.Spec PyProof.Rows L2 L2H HotX
/-- what such a def promises; p the handled exception and its object -/
structure FnE (P : Program) (w : World) (K : PySem.W.Frag) (mg : Str → Option Value) (base : Heap) (CX : CXT) (k : Nat) (f : Addr) (fd : FuncData) (ps : List Str) (sp : Addr × Obj → Sp) : Prop where
  len : ∀ p vs H Q E, sp p vs H Q E → vs.length = ps.length
  run : ∀ (A : Around) (outer : List Env) (s : Shared) (H : Hp) (args : Args) (us : List Value) (vs : List V) (Q : VK) (E : XK) (p : Addr × Obj), RoomH k A → Hot1 A p → PinOk outer H s p → Env0 P w K mg base A outer s H → BindsTo s fd args (ps.zip us) → Vals vs us → sp p vs H Q E →
    codeAny (model P w) A (.call (.ref f) args) (CR CX outer P w H s Q E) s
theorem fnE_of {CX : CXT} {P : Program} {w : World} {K : PySem.W.Frag} {mg : Str → Option Value} {base : Heap} {k : Nat} {f : Addr} {name qual : Str} {params : Arguments} {body : List Stmt} {scope : Scope} {dV kV doc pm cdv ct oc : Value} {an od : Option Addr}
    {osl : Array (Option Value)} {N ps : List Str} {sp : Addr × Obj → Sp} (lk : K.lookup f = some ⟨oc, od, .func (PySem.W.fnOf name qual params body scope dV kV doc pm an cdv ct), osl⟩) (hcd : PySem.W.codeIn K cdv qual = true) (S : FnScope N ps scope)
    (len : ∀ p vs H Q E, sp p vs H Q E → vs.length = ps.length)
    (hbody : ∀ (A : Around) (outer : List Env) (s : Shared) (H : Hp) (vs : List V) (Q : VK) (E : XK) (p : Addr × Obj), Hot1 A p → RoomH k (A.deeper (envOfC qual scope s.heap.objs.size f cdv)) → sp p vs H Q E →
      ∃ t, PSs (cxH CX P w K mg base N qual scope f cdv A outer s H E p) body t ∧ t { nx := fun _ H' => Q .non H', rt := Q } (L2.start N vs) H) :
    FnE P w K mg base CX (k + 1) f (PySem.W.fnOf name qual params body scope dV kV doc pm an cdv ct) ps sp := by
  refine ⟨len, fun A outer s H args us vs Q E p hr hot hpin e0 hb r hsp => ?_⟩
  have hl := len _ _ _ _ _ hsp
  have KX : K.In s.heap := e0.mod.kin.keeps fun b o e => (e0.bs b o e).1
  have lim : s.heap.NoLimit := e0.mod.nolimit.keeps fun b o e => (e0.bs b o e).1
  have hkind : ∀ y ∈ ps.zip us, scope.names.lookup y.1 = some .local ∨ (scope.names.lookup y.1 = some .cell ∧ ((cellsFrom (s.heap.objs.size + 1) scope.names []).lookup y.1).isSome = true) := fun ⟨n, v⟩ hy => by
    rcases S.par n (List.of_mem_zip hy).1 with q | q
    · exact .inl q
    · exact .inr ⟨q, PySem.W.cellsFrom_some _ _ _ (.inl q)⟩
  refine codeAny_call_function hr.depth (KX _ _ lk) rfl S.co S.gen rfl (PySem.W.codeRec_of KX hcd) (hb _ _ _ _ ?_)
  refine wpAny_newFunctionEnv_cells S.kind hkind fun env he s1 x => ?_
  subst he
  refine ⟨lim.keeps x.toInCall.keep, codeAny_func ?_⟩
  obtain ⟨t, ht, hq⟩ := hbody A outer s H vs Q E p hot (hr.deeper _) hsp
  have I : Inv (cxH CX P w K mg base N qual scope f cdv A outer s H E p) [] (L2.start N vs) H s1 := inv_startH S hpin e0 hl r x
  refine wpAny_mono (ht.run [] s1 (L2.start N vs) H _ I hq) (fun fl s' hs => ?_) fun e s' hs => hs
  have fin : ∀ {σ' : L2.St} {H' : Hp} {v : V} {u : Value}, Inv (cxH CX P w K mg base N qual scope f cdv A outer s H E p) [] σ' H' s' → RelV v u → Q v H' → CE outer P w H s Q u s' :=
    fun {σ' H' v u} J rv q => ⟨v, H', J.os, J.bare, J.base, J.hok, rv, q⟩
  cases fl with
  | ret u =>
    obtain ⟨v, σ', H', J, rv, q⟩ := hs
    exact fin J rv q
  | next =>
    obtain ⟨σ', H', J, q⟩ := hs
    exact fin (v := V.non) (u := Value.none) J rfl q
  | brk =>
    obtain ⟨_, _, _, q⟩ := hs
    exact False.elim q
  | cont =>
    obtain ⟨_, _, _, q⟩ := hs
    exact False.elim q
section
variable {X : Cx} {CX : CXT} {k : Nat} {f : Addr} {fd : FuncData} {ps : List Str} {sp : Addr × Obj → Sp} {E : L2.St → XK} {x : Str} {q pos : Pos} {e : Expr} {es : List Expr} {t : TA} {p : Addr × Obj}
theorem pe_callE (F : FnE X.prog X.w X.K X.mg X.base CX k f fd ps sp) (hr : RoomH k X.A) (hot : Hot1 X.A p) (hp : p ∈ X.pn) (hg : Gl X x) (hm : X.mg x = some (.ref f)) (hk : PySem.W.keepIn X.K (.ref f) = true) (hb : Binds X.K fd ps []) (hx : ∀ σ, PassesAt CX X σ (E σ))
    (ha : PA X (e :: es) t) (hdb : (x == ("__debug__" : Str)) = false := by decide) (he : starEach (e :: es) X.env = (false, eval e X.env) :: starEach es X.env := by rfl) (hpl : (backTo pos (starEach es X.env)).any (·.1) = false := by rfl) :
    PE X (.Call (.Name x q) (e :: es) [] pos) (tCallS (sp p) E t) := by
  refine ⟨fun pins s σ H Q I h => ?_⟩
  refine wpAny_Call_Name_kw (ld_glob I hg hm ?_ hdb)
  refine PySem.W.callWith_K (h₀ := X.base) I.ok.mod.kin hk (thn (ha.run pos pins s σ H _ I h) fun us s1 ⟨vs, H1, I1, r, hsp⟩ => ⟨I1.kIn, ?_⟩) he hpl
  have hl : us.length = ps.length := by rw [← r.length]; exact F.len _ _ _ _ _ hsp
  have b := hb s1 us I1.kIn (by rw [List.append_nil]; exact hl)
  rw [List.append_nil] at b
  have P1 := I1.pin p (List.mem_append_left _ hp)
  have hpin : PinOk X.stack H1 s1 p := ⟨P1.1, P1.2.1, fun hm => (List.mem_cons.mp (I1.stkSub p.1 hm)).elim P1.2.2.1 P1.2.2.2.1, P1.2.2.2.2⟩
  refine wpAny_call (codeAny_mono (F.run X.A X.stack s1 H1 ⟨us, []⟩ us vs Q (E σ) p hr hot hpin I1.env0 b r hsp) fun r s' hq => ?_)
  cases r with
  | error e => exact hx σ pins H1 s1 e s' I1 hq
  | ok fl =>
    cases fl with
    | ret u => exact I1.after hq
    | next => exact False.elim hq
    | brk => exact False.elim hq
    | cont => exact False.elim hq
/-- isinstance(e, C), e the handled exception, C a class of the program -/
theorem call_isH {D : Addr} (C : ExcC X.K D) (hp : p ∈ X.pn) (hz : Zc (.ref D) none p.2) (hf : ∃ vs, p.2.data = .fields vs) : CallR X (.builtin "isinstance") (rIsE X.K D p.1) := by
  intro pins s σ H xs us Q I r h
  obtain ⟨c, cv, b, rfl, hcv, e, q⟩ := h
  cases r with
  | cons rx rr =>
    cases rr with
    | cons rt rr =>
      cases rr
      cases rx
      have ec := hcv _ rt
      subst ec
      obtain ⟨hget, _⟩ := I.pin p (List.mem_append.mpr (.inl hp))
      obtain ⟨vs, hv⟩ := hf
      have J : PySem.W.InstAt s.heap p.1 p.2 D none := by
        obtain ⟨a, oc, od, oda, osl⟩ := p
        obtain ⟨h1, h2⟩ := hz
        dsimp only at h1 h2 hv
        subst h1 h2 hv
        exact ⟨hget, rfl, rfl, trivial⟩
      exact PySem.W.kia_one (PySem.W.handS_kitx_exc C.hg C.hk C.hs C.hd C.ha C.hn C.ht C.hm) I.kIn J e (fun z => nomatch z) fun tk => ⟨.bl b, H, I.kept (t' := tk) fun _ _ z => z, rfl, q⟩
end
end DH

/-! DX15: raise; try: .. except X as e: return f(e), f telling a word by the class. -/
namespace DH
open PySem PySem.Spec PyProof.Rows L2 L2H HotX
/-! ### the word -/
/-- of five classes of errors D is the one at j -/
structure WCls (K : PySem.W.Frag) (c0 c1 c2 c3 c4 D : Addr) (j : Nat) : Prop where
  exc : ExcC K D
  k0 : PySem.W.kitOne K (.ref D) (.ref c0) = some (decide (j = 0))
  k1 : PySem.W.kitOne K (.ref D) (.ref c1) = some (decide (j = 1))
  k2 : PySem.W.kitOne K (.ref D) (.ref c2) = some (decide (j = 2))
  k3 : PySem.W.kitOne K (.ref D) (.ref c3) = some (decide (j = 3))
  k4 : PySem.W.kitOne K (.ref D) (.ref c4) = some (decide (j = 4))
  lt : j < 5
def tIs (K : PySem.W.Frag) (D a c : Addr) : TE := tCB (rIsE K D a) (tCons (tVar 0) (tCons (tC (.ref c)) tNil))
def rLenS (K : PySem.W.Frag) : List V → Hp → VK → Prop := fun xs H Q => ∃ p ys, xs = [.ref p] ∧ (SqL K H p ys ∨ SqT K H p ys) ∧ Q (.int ys.length) H
def tWord (K : PySem.W.Frag) (D a c0 c1 c2 c3 c4 : Addr) (n0 n1 n2 n3 n4 m : Str) : TS :=
  tSeq (tAsg (tLst (tCons (tIs K D a c0) (tCons (tIs K D a c1) (tCons (tIs K D a c2) (tCons (tIs K D a c3) (tCons (tIs K D a c4) tNil)))))) (gName 1))
  (tSeq (tIfS (tTest (tOp rNe (tCB (rLenS K) (tCons (tLcH K (tVar 1) (gName 2) (tB (tVar 2)) (tVar 2) [2]) tNil)) (tC (.int 1)))) (tRet (tC (.str m))) tNext)
  (tRet (tOp (rIxL K) (tLst (tCons (tC (.str n0)) (tCons (tC (.str n1)) (tCons (tC (.str n2)) (tCons (tC (.str n3)) (tCons (tC (.str n4)) tNil)))))) (tBM K "list" (rIndex K) (tVar 1) (tCons (tC (.bl true)) tNil)))))
theorem is_ans {K : PySem.W.Frag} {D a c : Addr} {b : Bool} {σ : L2.St} {H : Hp} {Q : VK} (h : PySem.W.kitOne K (.ref D) (.ref c) = some b) (h0 : σ[0]? = some (some (.ref a))) (q : Q (.bl b) H) : tIs K D a c σ H Q :=
  ⟨.ref a, h0, .ref c, .ref c, b, rfl, fun u r => by cases r; rfl, h, q⟩
def boolsAt (j : Nat) : List Bool := [decide (j = 0), decide (j = 1), decide (j = 2), decide (j = 3), decide (j = 4)]
theorem word_ans {K : PySem.W.Frag} {D a c0 c1 c2 c3 c4 : Addr} {n0 n1 n2 n3 n4 m : Str} {j : Nat} {H : Hp} {D0 : Ends} {σ : L2.St} (W : WCls K c0 c1 c2 c3 c4 D j) (hσ : σ = [some (.ref a), none, none])
    (q : ∀ H', (∀ b o, H b = some o → H' b = some o) → D0.rt (.str ([n0, n1, n2, n3, n4].getD j m)) H') : tWord K D a c0 c1 c2 c3 c4 n0 n1 n2 n3 n4 m D0 σ H := by
  subst hσ
  have ext : ∀ {H1 : Hp} {p : Addr} {o : HO}, H1 p = none → ∀ b u, H1 b = some u → upd H1 p o b = some u := fun {H1 p o} hp b u e => by
    rw [upd_ne (fun z => by rw [z, hp] at e; cases e)]; exact e
  refine is_ans W.k0 rfl (is_ans W.k1 rfl (is_ans W.k2 rfl (is_ans W.k3 rfl (is_ans W.k4 rfl ⟨(show (5 : Nat) ≤ sizeLine by decide), fun L hL => ?_⟩))))
  have key : ∀ bs : List Bool, bs = boolsAt j → ([decide (j = 0), decide (j = 1), decide (j = 2), decide (j = 3), decide (j = 4)].map V.bl) = bs.map V.bl := fun bs e => by rw [e]; rfl
  have hfil : (boolsAt j).filter id = [true] := by
    have := W.lt
    have : j = 0 ∨ j = 1 ∨ j = 2 ∨ j = 3 ∨ j = 4 := by omega
    rcases this with rfl | rfl | rfl | rfl | rfl <;> rfl
  have hj : (boolsAt j)[j]? = some true := by
    have := W.lt
    have : j = 0 ∨ j = 1 ∨ j = 2 ∨ j = 3 ∨ j = 4 := by omega
    rcases this with rfl | rfl | rfl | rfl | rfl <;> rfl
  have hbef : ∀ (k : Nat) (b : Bool), k < j → (boolsAt j)[k]? = some b → b = false := by
    intro k b hk e
    have := W.lt
    have h1 : j = 0 ∨ j = 1 ∨ j = 2 ∨ j = 3 ∨ j = 4 := by omega
    rcases h1 with rfl | rfl | rfl | rfl | rfl
    · omega
    · have : k = 0 := by omega
      subst this; cases e; rfl
    · have : k = 0 ∨ k = 1 := by omega
      rcases this with rfl | rfl <;> (cases e; rfl)
    · have : k = 0 ∨ k = 1 ∨ k = 2 := by omega
      rcases this with rfl | rfl | rfl <;> (cases e; rfl)
    · have : k = 0 ∨ k = 1 ∨ k = 2 ∨ k = 3 := by omega
      rcases this with rfl | rfl | rfl | rfl <;> (cases e; rfl)
  have hnm : ∀ x : Str, [n0, n1, n2, n3, n4].getD j m = x → atI ([n0, n1, n2, n3, n4].map V.str) (j : Int) = some (.str x) := by
    intro x e
    have := W.lt
    have h1 : j = 0 ∨ j = 1 ∨ j = 2 ∨ j = 3 ∨ j = 4 := by omega
    subst e
    rcases h1 with rfl | rfl | rfl | rfl | rfl <;> rfl
  have hlen : (boolsAt j).length = 5 := rfl
  -- kinds stands at L
  generalize hH1 : upd H L (.lst ((boolsAt j).map V.bl)) = H1
  have hL1 : H1 L = some (.lst ((boolsAt j).map V.bl)) := by rw [← hH1]; exact upd_same
  have e1 : ∀ b u, H b = some u → H1 b = some u := fun b u e => by rw [← hH1]; exact ext hL b u e
  show tSeq _ _ D0 [some (.ref a), some (.ref L), none] (upd H L (.lst ((boolsAt j).map V.bl)))
  rw [hH1]
  refine ⟨.ref L, rfl, L, (boolsAt j).map V.bl, rfl, .inl (.inl hL1), fun N hN => ?_⟩
  have nLN : L ≠ N := fun z => by rw [← z, hL1] at hN; cases hN
  refine ⟨fun i H' => H' = upd H1 N (.lst ((((boolsAt j).take i).filter id).map V.bl)), rfl, ?_⟩
  rintro i H' rfl
  have hLi : upd H1 N (.lst ((((boolsAt j).take i).filter id).map V.bl)) L = some (.lst ((boolsAt j).map V.bl)) := by rw [upd_ne nLN]; exact hL1
  refine ⟨.inl (.inl hLi), fun hi => ?_, fun x hx => ?_⟩
  · -- the end
    rw [List.length_map] at hi
    rw [List.take_of_length_le hi, hfil] at hLi ⊢
    refine ⟨N, [V.bl true], rfl, .inl (.inl (.inl upd_same)), ?_⟩
    refine ⟨rfl, false, by decide, ?_⟩
    have e2 : ∀ b u, H b = some u → upd H1 N (.lst [V.bl true]) b = some u := fun b u e => ext hN b u (e1 b u e)
    show (if false = true then _ else _)
    rw [if_neg Bool.false_ne_true]
    refine ⟨(show (5 : Nat) ≤ sizeLine by decide), fun R hR => ?_⟩
    have nLR : L ≠ R := fun z => by rw [← z] at hR; cases hLi.symm.trans hR
    have hLR : upd (upd H1 N (.lst [V.bl true])) R (.lst ([n0, n1, n2, n3, n4].map V.str)) L = some (.lst ((boolsAt j).map V.bl)) := by rw [upd_ne nLR]; exact hLi
    refine ⟨.ref L, rfl, .inl ⟨rfl, _, .inl (.inl hLR)⟩, L, (boolsAt j).map V.bl, .bl true, j, .bl true, rfl, rfl, .inl (.inl hLR), rfl, ?_, ?_, rfl, ?_, ?_⟩
    · rw [List.all_eq_true]
      intro z hz
      obtain ⟨b, _, rfl⟩ := List.mem_map.mp hz
      rfl
    · rw [List.getElem?_map, hj]; rfl
    · intro k z hk hz
      rw [List.getElem?_map] at hz
      cases eb : (boolsAt j)[k]? with
      | none => rw [eb] at hz; cases hz
      | some b =>
        rw [eb] at hz
        cases hz
        rw [hbef k b hk eb]; rfl
    · refine ⟨R, [n0, n1, n2, n3, n4].map V.str, (j : Int), .str ([n0, n1, n2, n3, n4].getD j m), rfl, rfl, .inl (.inl upd_same), hnm _ rfl, ?_⟩
      exact q _ fun b u e => ext hR b u (e2 b u e)
  · -- a turn
    rw [List.getElem?_map] at hx
    cases eb : (boolsAt j)[i]? with
    | none => rw [eb] at hx; cases hx
    | some b =>
      rw [eb] at hx
      cases hx
      have hil : i < (boolsAt j).length := (List.getElem?_eq_some_iff.mp eb).1
      refine ⟨rfl, .bl b, rfl, b, rfl, ?_⟩
      have tk : (boolsAt j).take (i + 1) = (boolsAt j).take i ++ [b] := by
        rw [List.take_add_one, eb]; rfl
      have fl : (((boolsAt j).take i).filter id).length ≤ 5 := Nat.le_trans (List.length_filter_le _ _) (by rw [List.length_take]; omega)
      cases b with
      | true =>
        show (if true = true then _ else _)
        rw [if_pos rfl]
        refine ⟨.bl true, rfl, _, upd_same, by rw [List.length_map]; exact Nat.lt_of_le_of_lt fl (by decide), ?_⟩
        show upd (upd H1 N _) N _ = upd H1 N _
        rw [tk, List.filter_append, List.map_append, upd_upd]
        rfl
      | false =>
        show (if false = true then _ else _)
        rw [if_neg Bool.false_ne_true]
        show upd H1 N _ = _
        rw [tk, List.filter_append]
        show upd H1 N _ = upd H1 N _
        simp
end DH

/-! DX16: raise and try over data. -/
namespace DL
open PySem PySem.Spec PyProof.Rows L2 L2H DH
/-- what a def that tells the word of a handled error promises -/
def spW (mg : Str → Option Value) (wd : Str → Option Str) : Addr × Obj → Sp := fun p vs H Q E => vs = [.ref p.1] ∧ ∃ c D w, mg c = some (.ref D) ∧ wd c = some w ∧ Zc (.ref D) none p.2 ∧ (∃ us, p.2.data = .fields us) ∧ ∀ H', (∀ b o, H b = some o → H' b = some o) → Q (.str w) H'
/-- a class of errors of the program -/
structure ErrC (K : PySem.W.Frag) (mg : Str → Option Value) (x : Str) (C : Addr) : Prop where
  g : mg x = some (.ref C)
  q : PySem.W.excIn K C [.type "ValueError", .type "Exception", .type "BaseException", .type "object"] "ValueError.__new__" = true
  kp : PySem.W.keepIn K (.ref C) = true
  sb : PySem.W.subIn K (.ref C) (.type "BaseException") = some true
  ty : PySem.W.typeIn K (.ref C) = some (.type "type")
theorem kit_self {K : PySem.W.Frag} {D : Addr} : PySem.W.kitOne K (.ref D) (.ref D) = some true := by
  unfold PySem.W.kitOne
  rw [if_pos (by simp)]
theorem kit_other {K : PySem.W.Frag} {C D : Addr} (hd : PySem.W.hasDictIn K C = true) (ht : PySem.W.typeIn K (.ref C) = some (.type "type")) (s1 : PySem.W.subIn K (.ref D) (.ref C) = some false) (s2 : PySem.W.subIn K (.ref D) (.ref D) = some true) : PySem.W.kitOne K (.ref D) (.ref C) = some false := by
  unfold PySem.W.kitOne
  split
  · rename_i h
    have e : D = C := Value.ref.inj (beq_iff_eq.mp h)
    subst e
    rw [s1] at s2
    cases s2
  · obtain ⟨cd, hc, _⟩ := PySem.W.any_some hd
    show (if ((PySem.W.clsIn K C).isSome && PySem.W.typeIn K (.ref C) == some (.type "type")) = true then PySem.W.subIn K (.ref D) (.ref C) else none) = _
    rw [if_pos (by rw [hc, ht]; rfl)]
    exact s1
section
variable {X : Cx} {W : WT} {fx : List Nat} {S S' : Addr → Prop} {H H' : Hp} {F F' T : Fp} {σ : L2.St} {r : DL.Env} {pos p p2 pos' np rpos cpos ep q0 : Pos} {x n xE fw pw : Str} {D0 : Ends} {C CE : Addr}
def sRaise (c : Str) : DL.Env → SR := fun r => .exc c r
@[simp] theorem sRaise_ap {c : Str} : sRaise c r = .exc c r := (rfl)
theorem n_raise {m : Str} {j : Nat} (hc : X.calm = true) (tk : L2N.Takes X W) (E : ErrC X.K X.mg x C) (hg : Gl X x := by rfl) (hdb : (x == ("__debug__" : Str)) = false := by decide) : DS X W fx (.Raise (some (.Call (.Name x p) [.Constant (.str m) j p2] [] pos)) none pos') (sRaise x) := by
  refine ⟨_, L2N.ps_raise hc tk (L2N.pmk_own PySem.F.excBase_ValueError E.q E.g E.kp (raises_own E.sb E.ty) hg hdb), fun S H r σ F D0 at0 y => ?_⟩
  have e : clsV X.mg x = .ref C := by show (X.mg x).getD .none = _; rw [E.g]; rfl
  have := y σ S H F (.refl _ _ _) at0 (.refl _ _)
  rw [e] at this
  exact this
def sTryW (i : Nat) (wd : Str → Option Str) (B : DL.Env → SR) : DL.Env → SR := fun r => match B r with
  | .exc c r1 => match wd c with
    | some w => if i < r1.length then .rt (.str w) r1 else .stk
    | none => .stk
  | y => y
@[simp] theorem sTryW_ap {i : Nat} {wd : Str → Option Str} {B : DL.Env → SR} : sTryW i wd B r = match B r with
  | .exc c r1 => match wd c with
    | some w => if i < r1.length then .rt (.str w) r1 else .stk
    | none => .stk
  | y => y := (rfl)
theorem go_more (sd : ∀ a, S a → H a ≠ none) (h : ∀ b o, H b = some o → H' b = some o) : Go S H [] S H' [] := ⟨fun _ z => z, fun a o e _ _ => h a o e, fun a ⟨ps, e, t⟩ => ⟨ps, h a _ e, t⟩, fun a z => by
  cases e : H a with
  | none => exact absurd e z
  | some o => rw [h a o e]; simp, (fun _ z => nomatch z), fun _ z => .inl z⟩
theorem passN0 {Y : Cx} (σ : L2.St) : PassesAt (L2N.CX Y.prog Y.w) Y σ (fun _ _ _ => False) := fun _ _ _ _ _ _ c => by
  obtain ⟨_, _, _, _, _, _, _, _, _, _, _, _, z⟩ := c
  exact z.elim
theorem n_tryW (i : Nat) {wd : Str → Option Str} {B : DL.Env → SR} {body : List Stmt} {k : Nat} {f : Addr} {fd : FuncData} (tk : L2N.Takes X W) (hs : X.stack = X.env :: X.outer) (hf : X.env.frame = some X.env.locals) (hN : X.N.Nodup) (hi : X.N[i]? = some n) (hln : X.env.kindOf n = some .local)
    (gE : X.mg xE = some (.ref CE)) (Fw : FnE X.prog X.w X.K X.mg X.base (L2N.CX X.prog X.w) k f fd [pw] (spW X.mg wd)) (hr : Room k X.A) (gw : X.mg fw = some (.ref f)) (kw : PySem.W.keepIn X.K (.ref f) = true) (bw : Binds X.K fd [pw] [])
    (hcl : ∀ c w, wd c = some w → ∃ C, X.mg c = some (.ref C) ∧ PySem.W.exmOne X.K (.ref C) (.ref CE) = some true)
    (hb : ∀ (W' : WX) (pn : List (Addr × Obj)) (xe : Value → Shared → Prop), L2N.Takes (X.tr pn xe) W' → PassesOwn (model X.prog X.w) X.A X.env xe → DSs (X.tr pn xe) ⟨W', W.tb⟩ fx body B)
    (hgE : Gl X xE := by rfl) (hdE : (xE == ("__debug__" : Str)) = false := by decide) (hgw : Gl X fw := by rfl) (hdw : (fw == ("__debug__" : Str)) = false := by decide) (hv : Vis X.env.scope n := by first | exact Or.inl rfl | exact Or.inr (Or.inl rfl) | exact Or.inr (Or.inr rfl)) (hdn : (n == ("__debug__" : Str)) = false := by decide) (hcd : (n == ("__classdict__" : Str)) = false := by decide)
    (he : starEach [.Name n ep] X.env = (false, eval (.Name n ep) X.env) :: starEach [] X.env := by rfl) (hpl : (backTo cpos (starEach [] X.env)).any (·.1) = false := by rfl) :
    DS X W fx (.Try body [.ExceptHandler (some (.Name xE np)) (some n) [.Return (some (.Call (.Name fw q0) [.Name n ep] [] cpos)) rpos] pos'] [] [] pos) (sTryW i wd B) := by
  refine ⟨_, L2N.ps_try_as (tb := fun W' => tS X ⟨W', W.tb⟩ fx B) (ts := fun a cls d D σ H => ∀ oe : Obj, L2N.Zn cls d oe → (∃ vs, oe.data = .fields vs) → tRet (tCallS (spW X.mg wd (a, oe)) (fun _ _ _ _ => False) (tCons (tVar i) tNil)) D σ H) hs hf hN hi hln ⟨hgE, hdE, .inl gE⟩ tk
    (fun W' pn xe tk' hp => (hb W' pn xe tk' hp).pss) (fun a oe cls d pn hz hfd => ⟨fun pins s σ H D I h => ?_⟩), fun S H r σ F D0 at0 y => ?_⟩
  · -- the suite
    have hot : Hot1 (X.suite a ((a, oe) :: pn)).A (a, oe) := ⟨rfl, by
      obtain ⟨vs, e⟩ := hfd
      exact ⟨vs, e, hz.2.2 vs e⟩⟩
    have pe : PE (X.suite a ((a, oe) :: pn)) (.Call (.Name fw q0) [.Name n ep] [] cpos) (tCallS (spW X.mg wd (a, oe)) (fun _ _ _ _ => False) (tCons (tVar i) tNil)) :=
      pe_callE (X := X.suite a ((a, oe) :: pn)) Fw (show RoomH k (X.A.mark (some (.ref a))) from ⟨(roomH_of hr).dp, (roomH_of hr).un⟩) hot List.mem_cons_self hgw gw kw bw (fun σ => passN0 σ) (pa_cons (pe_var hi hv hdn hcd) pa_nil he) hdw he hpl
    exact (pss_one (ps_ret pe)).run pins s σ H D I (h oe hz hfd)
  · refine ⟨S, r, F, at0, ?_⟩
    have y : SP1 X W fx S H F σ D0 (sTryW i wd B r) := y
    unfold sTryW at y
    show SP1 X ⟨wAs X.K (.ref CE) i _ W D0, W.tb⟩ fx S H F σ D0 (B r)
    cases eB : B r with
    | nx r1 => rw [eB] at y; exact y
    | rt d r1 => rw [eB] at y; exact y
    | bk r1 => rw [eB] at y; exact y
    | ct r1 => rw [eB] at y; exact y
    | stk => rw [eB] at y; exact y
    | exc c r1 =>
      rw [eB] at y
      dsimp only at y
      split at y
      · rename_i w ew
        split at y
        · rename_i hil
          obtain ⟨Cc, gc, ex⟩ := hcl c w ew
          intro σ' S' H' F' g x' fi
          have ec : clsV X.mg c = .ref Cc := by show (X.mg c).getD .none = _; rw [gc]; rfl
          dsimp only
          rw [ec]
          refine ⟨true, ex, fun _ a ha oe hz hfd => ?_, fun z => nomatch z⟩
          have hl : i < σ'.length := by rw [← x'.env.len]; exact hil
          refine ⟨.ref a, by rw [List.getElem?_set_self hl], rfl, c, Cc, w, gc, ew, hz.zc, hfd, fun H2 hx2 => ?_⟩
          have g2 := go_more (S := S') x'.ft.sd hx2
          have x2 : At X.K W.tb S' H2 r1 σ' F' := x'.ext0 g2 (Ft.nil fun b hb z => by
            have := g2.dom b (x'.ft.sd b hb)
            exact this z)
          exact y (.str w) σ' S' H2 F' [] (by simpa using g.trans (go_side g2 F')) x2 ⟨rfl, rfl⟩ (by simpa using x2.ft) fi
        · exact y.elim
      · exact y.elim
end
end DL

/-! DX17: a slice of what an expression gives, insert(0, x), a tuple of the module. -/
namespace DL
open PySem PySem.Spec PyProof.Rows L2
section
variable {X : Cx} {W : WT} {fx : List Nat} {K : PySem.W.Frag} {tb : List Addr} {e a b c : Expr} {lo hi : Option Expr} {es : List Expr} {S S' S1 : Addr → Prop} {H H' H1 : Hp} {F F' F1 T : Fp} {σ : L2.St} {r : DL.Env} {pos p p2 apos cpos zpos : Pos} {x : Str} {st : Stmt}
/-! ### e[l:u] -/
def eSl (E : EE) (L U : DL.Env → PR (Option Int)) : EE := fun r => (E r).bind fun x r1 => if x.sh = true then ((L r1).up r1).bind fun l r2 => ((U r2).up r2).bind fun u r3 => opE (dSl l u) x r3 else .stk
@[simp] theorem eSl_ap {E : EE} {L U : DL.Env → PR (Option Int)} : eSl E L U r = (E r).bind fun x r1 => if x.sh = true then ((L r1).up r1).bind fun l r2 => ((U r2).up r2).bind fun u r3 => opE (dSl l u) x r3 else .stk := (rfl)
theorem n_esl {E : EE} {L U : DL.Env → PR (Option Int)} (ha : DE X W e E) (hl : DPO X W lo L) (hu : DPO X W hi U) : DE X W (.Subscript e (.Slice lo hi none p2) pos) (eSl E L U) := by
  obtain ⟨t, p, q⟩ := ha; obtain ⟨t1, p1, q1⟩ := hl; obtain ⟨t2, p2, q2⟩ := hu
  refine ⟨_, pe_slice (sl_tupA.or sl_list) p p1 p2, fun S H r σ F Q x y => q S H r σ F _ x (EP1.bind (Go.refl _ _ _) y fun d r1 v S1 H1 F1 T1 g1 x1 h1 f1 y1 => ?_)⟩
  split at y1
  case isFalse => exact y1.elim
  case isTrue hsh =>
  have eT : T1 = [] := Rep.sh d v T1 hsh h1
  subst eT
  have g1 : Go S H F S1 H1 F1 := g1.sub fun b z => by simpa using z
  refine q1 S1 H1 r1 σ F1 _ x1 (EP1.bindP g1 x1 y1 fun l l' S2 H2 T2 g2 f2 h2 y2 => ?_)
  obtain ⟨rfl, rfl⟩ := h2
  have x2 := x1.ext0 g2 f2
  have h1' := Rep.go g2 (Ft.nil x1.ft.sd) d v [] (fun _ z => nomatch z) h1
  refine q2 S2 H2 r1 σ F1 _ x2 (EP1.bindP (g1.trans (go_side g2 F1)) x2 y2 fun u u' S3 H3 T3 g3 f3 h3 y3 => ?_)
  obtain ⟨rfl, rfl⟩ := h3
  have x3 := x2.ext0 g3 f3
  have h1'' := Rep.go g3 f2 d v [] (fun _ z => nomatch z) h1'
  have g13 : Go S H F S3 H3 F1 := (g1.trans (go_side g2 F1)).trans (go_side g3 F1)
  obtain ⟨d', e', y4⟩ := opE_some y3
  unfold dSl at e'
  split at e'
  · rename_i ds
    split at e'
    · rename_i hs
      cases e'
      obtain ⟨a, vs, rfl, hq, rl⟩ := h1''.tup_at hs
      refine .inl ⟨a, vs, rfl, hq, fun hw => ?_, fun hw pp hp => ?_⟩
      · have eq : cutL ds l u = ds := by
          unfold cutL
          rw [rl.len, hw.1, hw.2, ← rl.len]
          simp
        rw [eq] at y4
        exact y4 (.ref a) S3 H3 F1 [] (by simpa using g13) x3 ⟨a, vs, rfl, hq, rl⟩ (by simpa using x3.ft)
      · have gn := go_new (S := S3) x3.ft.sd hp [] (fun _ z => nomatch z) (o := .tup (cutV vs l u))
        have x4 := x3.ext0 gn (Ft.nil (sd_new x3.ft.sd))
        exact y4 (.ref pp) S3 _ F1 [] (by simpa using g13.trans (go_side gn F1)) x4 (rep_tup x3.ft.sd hp rl.cut) (by simpa using x4.ft)
    · cases e'
  · rename_i o ds
    split at e'
    · rename_i hs
      cases e'
      obtain ⟨a, vs, rfl, hq, rl⟩ := h1''.lst_at hs
      refine .inr ⟨a, vs, rfl, .inl (.inl hq), fun pp hp => ?_⟩
      have g0 := go_new (S := S3) x3.ft.sd hp [pp] (fun _ z => by simpa using z) (o := .lst (cutV vs l u))
      have rp : Rep X.K S3 (upd H3 pp (.lst (cutV vs l u))) (.lst true (cutL ds l u)) (.ref pp) [pp] := rep_lst x3.ft.sd hp rl.cut
      have f5 : Ft S3 (upd H3 pp (.lst (cutV vs l u))) [pp] := ⟨by simp, fun b z hS => by
        have eb : b = pp := by simpa using z
        subst eb
        exact x3.ft.sd _ hS hp, fun b z => by
        have eb : b = pp := by simpa using z
        subst eb
        rw [upd_same]; trivial, sd_new x3.ft.sd⟩
      obtain ⟨a1, a2, a3⟩ := own_end (T1 := []) (by simpa using g13) x3 g0 f5
      exact y4 (.ref pp) S3 _ F1 [pp] a1 a2 rp a3
    · cases e'
  · cases e'
/-! ### x.insert(0, e) -/
def insE (i : Nat) (d : D) (r : DL.Env) : Res D := match r[i]? with
  | some (some (.lst true ds)) => if ds.length < sizeLine ∧ d.sh = true then .ok .non (r.set i (some (.lst true (d :: ds)))) else .stk
  | _ => .stk
def eIns (i : Nat) (E : EE) : EE := fun r => if isL r[i]? = true then (E r).bind (insE i) else .stk
@[simp] theorem eIns_ap {i : Nat} {E : EE} (h : isL r[i]? = true) : eIns i E r = (E r).bind (insE i) := if_pos h
@[simp] theorem insE_ok {i : Nat} {d : D} {ds : List D} (h : r[i]? = some (some (.lst true ds))) (hl : ds.length < sizeLine) (hs : d.sh = true) : insE i d r = .ok .non (r.set i (some (.lst true (d :: ds)))) := by
  unfold insE; rw [h]; exact if_pos ⟨hl, hs⟩
theorem n_ins (i : Nat) {E : EE} {j : Nat} (he : DE X W e E) (hN : X.N[i]? = some x := by rfl) (hv : Vis X.env.scope x := by first | exact Or.inl rfl | exact Or.inr (Or.inl rfl) | exact Or.inr (Or.inr rfl)) (hd : (x == ("__debug__" : Str)) = false := by decide) (hcd : (x == ("__classdict__" : Str)) = false := by decide)
    (hbase : attributeBase (.Name x p) "insert" X.env (eval (.Name x p) X.env) = eval (.Name x p) X.env := by rfl)
    (hfew : ((backTo pos (starEach [.Constant (.int 0) j zpos, e] X.env)).all (fun x => !x.1) && (backToKw pos (keywordEach [] X.env)).all (fun x => x.1.isSome)
      && decide ([Expr.Constant (.int 0) j zpos, e].length + ([] : List Keyword).length + (if ([] : List Keyword).isEmpty then 0 else 1) < 30)) = true := by rfl)
    (hline : (apos.endLine == pos.line) = true := by rfl) (hs : starEach [.Constant (.int 0) j zpos, e] X.env = (false, eval (.Constant (.int 0) j zpos) X.env) :: starEach [e] X.env := by rfl) (hs2 : starEach [e] X.env = (false, eval e X.env) :: starEach [] X.env := by rfl) (hplain : (backTo pos (starEach [e] X.env)).any (·.1) = false := by rfl) :
    DE X W (.Call (.Attribute (.Name x p) "insert" apos) [.Constant (.int 0) j zpos, e] [] pos) (eIns i E) := by
  obtain ⟨t, h, z⟩ := he
  refine ⟨_, pe_bm PySem.F.plainAttrs_list PySem.F.slot_list_insert PySem.F.type_list_insert mt_insert (pe_var hN hv hd hcd) (pa_cons pe_int (pa_cons h pa_nil hs2) hs) hbase hfew hline hs hplain, fun S H r σ F Q q y => ?_⟩
  have y : EP1 (Rep X.K) X W S H F σ Q (if isL r[i]? = true then (E r).bind (insE i) else .stk) := y
  by_cases hl : isL r[i]? = true
  · rw [if_pos hl] at y
    obtain ⟨v, hv1, hv2⟩ := q.isL hl
    refine ⟨v, hv1, hv2, z S H r σ F _ q (EP1.bind (Go.refl _ _ _) y fun d r1 w S1 H1 F1 T1 g1 q1 h1 f1 y1 => ?_)⟩
    unfold insE at y1
    split at y1
    · rename_i ds e1
      split at y1
      · rename_i hz
        have eT : T1 = [] := Rep.sh d w T1 hz.2 h1
        subst eT
        obtain ⟨a, vs, G, F0, s1, ha, rl, x0, f0, m0, k⟩ := q1.upd e1
        rw [hv1] at s1
        cases s1
        obtain ⟨F', k1, k2, k3, _⟩ := k (d :: ds) (w :: vs) G [] ⟨w, vs, [], G, rfl, rfl, h1, rl⟩ (by simpa using f0)
        refine ⟨a, vs, 0, w, rfl, rfl, ha, by rw [← rl.len]; exact hz.1, by decide, by decide, ?_⟩
        have gu : Go S1 H1 F1 S1 (L2.upd H1 a (.lst (w :: vs))) F' := by simpa using At.upd_go (T := []) (G := G) (T' := []) (G' := G) f0.sd ha m0 (fun b z => by simpa using z) k2
        exact y1 .non S1 _ F' [] ((g1.sub fun b z => by simpa using z).trans (by simpa using gu)) k1 ⟨rfl, rfl⟩ k3
      · exact y1.elim
    · exact y1.elim
  · rw [if_neg hl] at y
    exact y.elim
/-! ### a tuple of texts of the module -/
def KTup (K : PySem.W.Frag) (A : Addr) (us : List Str) : Prop := ∃ (o : Obj) (its : Array Value) (n : Nat), K.lookup A = some o ∧ o.cls = .type "tuple" ∧ o.data = .seq its n ∧ its.size ≤ sizeLine ∧ Vals (us.map V.str) its.toList
theorem KTup.dp {K : PySem.W.Frag} {H : Hp} {A : Addr} {us : List Str} (h : KTup K A us) : Dp K H (.ref A) (D.tup (us.map D.str)).py := by
  have key : ∀ us : List Str, DpAll K H (us.map V.str) (D.pyL (us.map D.str)) := fun us => by
    induction us with
    | nil => exact .nil
    | cons u us ih => exact .cons (.str u) ih
  exact .tup (.inr h) (key us)
theorem RdP.inT {neg : Bool} {A : EP} {a' : Addr} {us : List Str} {ta : TE} (hq : KTup X.K a' us) (ha : RdP X W ta A) : RdP X W (tOp (rInA X.K neg) ta (tC (.ref a'))) (fun r => (A r).bind fun x => ((pC (.tup (us.map D.str))) r).bind fun y => opP (inD neg x) y) := by
  intro S H r σ F Q x y
  refine ha S H r σ F _ x (PP1.bind (Go.refl _ _ _) y fun d1 v1 S1 H1 T1 g1 f1 h1 y1 => ?_)
  have y1 : PP1 (Rep X.K) X W S H σ Q (opP (inD neg d1) (.tup (us.map D.str))) := y1
  obtain ⟨d, e, y2⟩ := opP_some y1
  have e : (if d1.dep ≤ 64 ∧ (D.tup (us.map D.str)).dep ≤ 64 then some (D.bl (neg != (us.map D.str).any fun z => D.eqv z d1)) else none) = some d := e
  split at e
  · rename_i c
    cases e
    have c2 := c.2
    refine ⟨d1.py, D.pyL (us.map D.str), Rep.dp d1 v1 T1 (by omega) h1, shaped_py c.1, .inr ⟨hq.dp, shaped_py c2⟩, ?_⟩
    rw [any_py (by omega) (by simp only [D.dep] at c2; omega)]
    exact y2 _ S1 H1 [] g1 f1 ⟨rfl, rfl⟩
  · cases e
theorem n_pcmpT {op : CmpOp} {neg : Bool} {A : EP} {a' : Addr} {us : List Str} (ho : OpR X (compareOp op) (rInA X.K neg)) (hmk : behindInMarks op (.Name x p) = false) (hm : X.mg x = some (.ref a')) (hq : KTup X.K a' us) (ha : DP X W a A) (hg : Gl X x := by rfl) (hd : (x == ("__debug__" : Str)) = false := by decide) :
    DP X W (.Compare a [op] [.Name x p] pos) (pOp (inD neg) A (pC (.tup (us.map D.str)))) := by
  obtain ⟨t, p, h⟩ := ha
  exact ⟨_, pe_cmpR ho p (pe_glob (v := .ref a') hg hm rfl hd) hmk, RdP.inT hq h⟩
theorem n_tpcmpT {op : CmpOp} {neg : Bool} {A : EP} {a' : Addr} {us : List Str} (ho : OpR X (compareOp op) (rInA X.K neg)) (hmk : behindInMarks op (.Name x p) = false) (hm : X.mg x = some (.ref a')) (hq : KTup X.K a' us) (ha : DP X W a A) (hg : Gl X x := by rfl) (hd : (x == ("__debug__" : Str)) = false := by decide) :
    DTp X W (.Compare a [op] [.Name x p] pos) (bP (pOp (inD neg) A (pC (.tup (us.map D.str))))) := by
  obtain ⟨t, p, h⟩ := ha
  exact ⟨_, pt_cmpR ho p (pe_glob (v := .ref a') hg hm rfl hd) hmk, RdTp.of (RdP.inT hq h)⟩
end
end DL

/-! DX18: dicts read: d[k], k in d, len(d), d.get(k), d.get(k, x); {}. -/
namespace DL
open PySem PySem.Spec PyProof.Rows L2
/-! ### keys -/
def kD : Key → D
  | .inl i => .int i
  | .inr x => .str x
def keyD : Bool → DKey → D
  | true, k => .tup (k.map kD)
  | false, k => kD (hdK k)
def dK1 : D → Option Key
  | .int i => some (.inl i)
  | .str x => some (.inr x)
  | _ => none
def dKs : List D → Option DKey
  | [] => some []
  | d :: ds => (dK1 d).bind fun k => (dKs ds).map (k :: ·)
def dKey : Bool → D → Option DKey
  | true, .tup ds => dKs ds
  | false, d => (dK1 d).map ([·])
  | _, _ => none
section
variable {α : Type}
def hasK (ks : List DKey) (q : DKey) : Bool := ks.any fun k => decide (k = q)
def look : List DKey → List α → DKey → Option α
  | k :: ks, d :: ds, q => if k = q then some d else look ks ds q
  | _, _, _ => none
end
section
variable {K : PySem.W.Frag} {S S' : Addr → Prop} {H H' : Hp} {F G T : Fp}
theorem dK1_rep {d : D} {v : V} {k : Key} (e : dK1 d = some k) (h : Rep K S H d v T) : v = kV k ∧ T = [] := by
  cases d with
  | int i => cases e; exact h
  | str x => cases e; exact h
  | _ => cases e
theorem dKs_rep : ∀ {ds : List D} {vs : List V} {T : Fp} {q : DKey}, dKs ds = some q → RepL K S H ds vs T → vs = q.map kV ∧ T = []
  | [], vs, T, q, e, h => by cases e; exact h
  | d :: ds, vs, T, q, e, h => by
    obtain ⟨v, r, F1, F2, e1, e2, h1, h2⟩ := h
    obtain ⟨k, ek, e⟩ := Option.bind_eq_some_iff.mp e
    obtain ⟨q', eq, rfl⟩ := Option.map_eq_some_iff.mp e
    obtain ⟨rfl, rfl⟩ := dK1_rep ek h1
    obtain ⟨rfl, rfl⟩ := dKs_rep eq h2
    exact ⟨e1, e2⟩
/-- a key's value -/
def KeyV (H : Hp) : Bool → DKey → V → Prop
  | true, q, v => ∃ b, v = .ref b ∧ H b = some (.tup (q.map kV))
  | false, q, v => ∃ k, q = [k] ∧ v = kV k
theorem dKey_rep {t : Bool} {d : D} {v : V} {q : DKey} (e : dKey t d = some q) (h : Rep K S H d v T) : KeyV H t q v := by
  cases t with
  | true =>
    cases d with
    | tup ds =>
      obtain ⟨a, vs, e1, e2, r⟩ := h
      obtain ⟨rfl, rfl⟩ := dKs_rep (show dKs ds = some q from e) r
      exact ⟨a, e1, e2⟩
    | _ => cases e
  | false =>
    have e : (dK1 d).map ([·]) = some q := by cases d <;> exact e
    obtain ⟨k, ek, rfl⟩ := Option.map_eq_some_iff.mp e
    exact ⟨k, rfl, (dK1_rep ek h).1⟩
theorem look_dK : ∀ {ks : List DKey} {vs : List V} {k : Key}, (∀ q ∈ ks, q.length = 1) → ks.length = vs.length → valV ((ks.map hdK).zip vs) k = look ks vs [k]
  | [], _, k, _, _ => by simp [valV, look]
  | q :: ks, [], k, _, h => by simp at h
  | q :: ks, v :: vs, k, hk, h => by
    have ih := look_dK (ks := ks) (vs := vs) (k := k) (fun q hq => hk q (by simp [hq])) (by simpa using h)
    obtain ⟨x, rfl⟩ : ∃ x, q = [x] := List.length_eq_one_iff.mp (hk q (by simp))
    rw [List.map_cons, List.zip_cons_cons, look]
    by_cases c : x = k
    · subst c
      rw [if_pos rfl]; exact valV_pos (p := (hdK [x], v)) rfl
    · rw [if_neg (fun z => c (by simpa using z)), valV_neg (p := (hdK [x], v)) (fun z => c z), ih]
theorem look_dT : ∀ {ks : List DKey} {vs : List V} {q : DKey}, ks.length = vs.length → valV (ks.zip vs) q = look ks vs q
  | [], _, k, _ => by simp [valV, look]
  | q :: ks, [], k, h => by simp at h
  | q :: ks, v :: vs, k, h => by
    have ih := look_dT (ks := ks) (vs := vs) (q := k) (by simpa using h)
    rw [List.zip_cons_cons, look]
    by_cases c : q = k
    · subst c
      rw [if_pos rfl, valV_pos rfl]
    · rw [if_neg c, valV_neg (p := (q, v)) c, ih]
theorem dget_of {a : Addr} {t : Bool} {ks : List DKey} {vs : List V} {q : DKey} {y : V} (h : Rd H a (dicO t ks vs)) (hk : KOk t ks) (hl : ks.length = vs.length) (k : KeyV H t q y) : DGet H a y (look ks vs q) := by
  cases t with
  | true =>
    obtain ⟨b, rfl, hb⟩ := k
    exact .inr ⟨ks.zip vs, q, b, h, rfl, hb, (look_dT hl).symm⟩
  | false =>
    obtain ⟨x, rfl, rfl⟩ := k
    exact .inl ⟨(ks.map hdK).zip vs, x, h, rfl, (look_dK (hk.resolve_left (by decide)) hl).symm⟩
theorem RepL.look : ∀ {ks : List DKey} {ds : List D} {vs : List V} {T : Fp} {q : DKey} {d : D}, RepL K S H ds vs T → DL.look ks ds q = some d → ∃ v G, DL.look ks vs q = some v ∧ Rep K S H d v G ∧ ∀ a ∈ G, a ∈ T
  | [], _, _, _, _, _, _, e => by simp [DL.look] at e
  | k :: ks, [], _, _, _, _, _, e => by simp [DL.look] at e
  | k :: ks, d :: ds, vs, T, q, d', h, e => by
    obtain ⟨v, r, F1, F2, e1, e2, h1, h2⟩ := h
    subst e1 e2
    rw [DL.look] at e ⊢
    by_cases c : k = q
    · rw [if_pos c] at e ⊢
      cases e
      exact ⟨v, F1, rfl, h1, fun a z => List.mem_append_left _ z⟩
    · rw [if_neg c] at e ⊢
      obtain ⟨w, G, k1, k2, k3⟩ := RepL.look h2 e
      exact ⟨w, G, k1, k2, fun a z => List.mem_append_right _ (k3 a z)⟩
theorem look_none {α β : Type} : ∀ {ks : List DKey} {ds : List α} {vs : List β} {q : DKey}, ds.length = vs.length → look ks ds q = none → look ks vs q = none
  | [], _, _, _, _, _ => by simp [look]
  | k :: ks, [], [], _, _, _ => by simp [look]
  | k :: ks, [], v :: vs, _, h, _ => by simp at h
  | k :: ks, d :: ds, [], _, h, _ => by simp at h
  | k :: ks, d :: ds, v :: vs, q, h, e => by
    rw [look] at e ⊢
    by_cases c : k = q
    · rw [if_pos c] at e; cases e
    · rw [if_neg c] at e ⊢
      exact look_none (by simpa using h) e
theorem look_mem {α : Type} : ∀ {ks : List DKey} {ds : List α} {q : DKey}, ks.length = ds.length → (look ks ds q).isSome = hasK ks q
  | [], _, _, _ => by simp [look, hasK]
  | k :: ks, [], _, h => by simp at h
  | k :: ks, d :: ds, q, h => by
    have ih := look_mem (ks := ks) (ds := ds) (q := q) (by simpa using h)
    rw [look]
    by_cases c : k = q
    · subst c; simp [hasK]
    · rw [if_neg c, ih]
      simp [hasK, c]
/-- a dict at hand -/
theorem Rep.dic_at {o t : Bool} {ks : List DKey} {ds : List D} {v : V} (h : Rep K S H (.dic o t ks ds) v T) : ∃ a vs G, v = .ref a ∧ Rd H a (dicO t ks vs) ∧ RepL K S H ds vs G ∧ (∀ b ∈ G, b ∈ T) ∧ ks.length = ds.length ∧ KOk t ks := by
  cases o with
  | true =>
    obtain ⟨hl, hk, a, vs, G, e, q, e2, r⟩ := h
    exact ⟨a, vs, G, e, .inl q, r, fun b z => by rw [e2]; simp [z], hl, hk⟩
  | false =>
    obtain ⟨e0, hl, hk, a, vs, e, ⟨⟨o, q⟩, _⟩, r⟩ := h
    exact ⟨a, vs, [], e, .inr ⟨o, q⟩, r, (fun b z => nomatch z), hl, hk⟩
theorem isD_of {a : Addr} {t : Bool} {ks : List DKey} {vs : List V} (h : Rd H a (dicO t ks vs)) : IsD H a := by
  cases t with
  | true => exact .inr ⟨_, h⟩
  | false => exact .inl ⟨_, h⟩
end
/-! ### d[k] -/
def dIxD : D → D → Option D
  | .dic _ t ks ds, k => (dKey t k).bind (look ks ds)
  | x, k => dIx x k
def rDGet : R2 := fun x y H Q => ∃ a v, x = .ref a ∧ DGet H a y (some v) ∧ Q v H
def rIxD (K : PySem.W.Frag) : R2 := fun x y H Q => rIx K x y H Q ∨ rDGet x y H Q
section
variable {X : Cx} {W : WT} {fx : List Nat} {K : PySem.W.Frag} {tb : List Addr} {e a b c : Expr} {es : List Expr} {S S' S1 : Addr → Prop} {H H' H1 : Hp} {F F' F1 T : Fp} {σ : L2.St} {r : DL.Env} {pos p p2 apos cpos : Pos} {x : Str} {A B : EP}
theorem ix_dict (hu : X.A.units + 1 < cLine) : IxR X rDGet := by
  intro value slice pins s σ H x y v u Q I rx ry h hs
  obtain ⟨a, v0, ex, g, q⟩ := h
  subst ex
  obtain rfl : v = Value.ref a := rx
  have hT := dict_typeIs I g
  unfold subscriptTail
  refine wpAny_bind ?_
  rw [getitemInPython_of_ne hT.not_modules]
  refine wpAny_bind (wpAny_specialOf hT PySem.F.slot_dict_getitem.lookup ?_)
  have fin : wpAny (model X.prog X.w) X.A (subscripted slice false (.ref a) u) (fun r s₃ => wpAny (model X.prog X.w) X.A (letTemporaryGo value (.ref a) r >>= fun _ => pure r) (L2.EP X pins σ Q) X.xe s₃) X.xe s := by
    rw [hs]
    exact wpAny_operating (d_getItem hu I g ry fun w' s3 I3 rw' => wpAny_bind (wpAny_letTemporaryGo (wpAny_pure ⟨v0, H, I3, rw', q⟩)))
  first
    | exact wpAny_pure (wpAny_bind fin)
    | exact wpAny_bind (wpAny_pure (wpAny_bind fin))
    | exact wpAny_bind fin
theorem ix_D (hu : X.A.units + 1 < cLine) : IxR X (rIxD X.K) := by
  intro value slice pins s σ H x y v u Q I rx ry h hs
  rcases h with h | h
  · exact ix_seq value slice pins s σ H x y v u Q I rx ry h hs
  · exact ix_dict hu value slice pins s σ H x y v u Q I rx ry h hs
theorem vb_ixD : VB2 K (rIxD K) dIxD := by
  intro S H d1 d2 v1 v2 T1 T2 Q sd h1 h2 ⟨d, e, k⟩
  have other : (∀ o t ks ds, d1 ≠ .dic o t ks ds) → dIx d1 d2 = some d → rIxD K v1 v2 H Q := fun _ e => .inl (vb_ix S H d1 d2 v1 v2 T1 T2 Q sd h1 h2 ⟨d, e, k⟩)
  cases d1 with
  | dic o t ks ds =>
    obtain ⟨q, eq, e⟩ := Option.bind_eq_some_iff.mp (show (dKey t d2).bind (look ks ds) = some d from e)
    obtain ⟨a, vs, G, rfl, hr, rl, hG, hl, hk⟩ := h1.dic_at
    obtain ⟨v, G', k1, k2, k3⟩ := rl.look e
    have g := dget_of hr hk (hl.trans rl.len) (dKey_rep eq h2)
    rw [k1] at g
    exact .inr ⟨a, v, rfl, g, k v G' k2 fun b z => hG b (k3 b z)⟩
  | _ => exact other (fun _ _ _ _ z => nomatch z) e
def pIxD (A B : EP) : EP := fun r => (A r).bind fun x => (B r).bind fun y => opP (dIxD x) y
def eIxD (A B : EE) : EE := fun r => (A r).bind fun x r1 => (B r1).bind fun y r2 => (opE (dIxD x) y r2).bind shO
theorem n_pixD {k : Nat} (hr : Room k X.A) (ha : DP X W a A) (hb : DP X W b B) (hs : PlainIx b := by intro _ _; rfl) : DP X W (.Subscript a b pos) (pIxD A B) := by
  obtain ⟨t, p, h⟩ := ha; obtain ⟨t', p', h'⟩ := hb
  exact ⟨_, pe_ix (ix_D (by have := hr.un; omega)) p p' hs, RdP.part vb_ixD h h'⟩
/-! ### k in d -/
def dInD (neg : Bool) (x y : D) : Option D := match y with
  | .dic _ t ks _ => (dKey t x).map fun q => .bl (neg != hasK ks q)
  | _ => inD neg x y
def rDIn (neg : Bool) : R2 := fun x y H Q => ∃ a o, y = .ref a ∧ DGet H a x o ∧ Q (.bl (neg != o.isSome)) H
theorem op_din (hu : X.A.units + 1 < cLine) : OpR X (compareOp .In) (rDIn false) := by
  intro pins s σ H x y v u Q I rx ry h
  obtain ⟨a, o, ey, g, q⟩ := h
  subst ey
  obtain rfl : u = Value.ref a := ry
  exact d_in hu I g rx fun s3 I3 => ⟨.bl o.isSome, H, I3, rfl, by simpa using q⟩
theorem op_dnin (hu : X.A.units + 1 < cLine) : OpR X (compareOp .NotIn) (rDIn true) := by
  intro pins s σ H x y v u Q I rx ry h
  obtain ⟨a, o, ey, g, q⟩ := h
  subst ey
  obtain rfl : u = Value.ref a := ry
  exact d_notIn hu I g rx fun s3 I3 => ⟨.bl (!o.isSome), H, I3, rfl, by simpa using q⟩
def rInD (K : PySem.W.Frag) (neg : Bool) : R2 := fun x y H Q => rInA K neg x y H Q ∨ rDIn neg x y H Q
theorem op_inD (hu : X.A.units + 65 < cLine) : OpR X (compareOp .In) (rInD X.K false) := (op_inA hu).or (op_din (by omega))
theorem op_ninD (hu : X.A.units + 65 < cLine) : OpR X (compareOp .NotIn) (rInD X.K true) := (op_ninA hu).or (op_dnin (by omega))
theorem v2_inD {neg : Bool} : V2 K (rInD K neg) (dInD neg) := by
  intro S H d1 d2 v1 v2 T1 T2 Q sd h1 h2 ⟨d, e, k⟩
  have other : inD neg d1 d2 = some d → rInD K neg v1 v2 H Q := fun e => .inl (v2_in S H d1 d2 v1 v2 T1 T2 Q sd h1 h2 ⟨d, e, k⟩)
  cases d2 with
  | dic o t ks ds =>
    obtain ⟨q, eq, rfl⟩ := Option.map_eq_some_iff.mp (show (dKey t d1).map (fun q => D.bl (neg != hasK ks q)) = some d from e)
    obtain ⟨a, vs, G, rfl, hr, rl, hG, hl, hk⟩ := h2.dic_at
    have g := dget_of hr hk (hl.trans rl.len) (dKey_rep eq h1)
    refine .inr ⟨a, _, rfl, g, ?_⟩
    rw [look_mem (hl.trans rl.len)]
    exact k _ S H [] (.refl _ _ _) ⟨rfl, rfl⟩ (Ft.nil sd)
  | _ => exact other e
/-! ### {} -/
def eDic (t : Bool) : EE := fun r => .ok (.dic true t [] []) r
theorem rep_dic0 {t : Bool} {H : Hp} {p : Addr} (sd : ∀ a, S a → H a ≠ none) (h : H p = none) : Rep K S (upd H p (dicO t [] [])) (.dic true t [] []) (.ref p) [p] :=
  ⟨rfl, .inr (fun _ z => nomatch z), p, [], [], rfl, upd_same, rfl, rfl, rfl⟩
theorem ft_newO {H : Hp} {p : Addr} {o : HO} (sd : ∀ a, S a → H a ≠ none) (h : H p = none) (m : Mt (some o)) : Ft S (upd H p o) [p] := by
  refine ⟨by simp, fun a z q => ?_, fun a z => ?_, sd_new sd⟩
  · have : a = p := by simpa using z
    subst this
    exact sd a q h
  · have : a = p := by simpa using z
    subst this
    rw [upd_same]; exact m
theorem own_new {d : D} {o : HO} {Q : V → Hp → Prop} {r1 : DL.Env} (q : At X.K W.tb S H r1 σ F) (y : EP1 (Rep X.K) X W S H F σ Q (.ok d r1)) {pp : Addr} (hp : H pp = none) (m : Mt (some o)) (rp : Rep X.K S (upd H pp o) d (.ref pp) [pp]) : Q (.ref pp) (upd H pp o) := by
  have g := go_new (S := S) q.ft.sd hp [pp] (fun _ z => by simpa using z) (o := o)
  have f := ft_newO (S := S) q.ft.sd hp m
  obtain ⟨a1, a2, a3⟩ := own_end (T1 := []) (by simpa using Go.refl S H F) q g f
  exact y (.ref pp) S _ F [pp] a1 a2 rp a3
theorem n_dicK : DE X W (.Dict [] [] pos) (eDic false) := by
  refine ⟨_, pe_dnewK, fun S H r σ F Q q y pp hp => ?_⟩
  exact own_new q y hp trivial (rep_dic0 q.ft.sd hp)
theorem n_dicT : DE X W (.Dict [] [] pos) (eDic true) := by
  refine ⟨_, pe_dnewT, fun S H r σ F Q q y pp hp => ?_⟩
  exact own_new q y hp trivial (rep_dic0 (t := true) q.ft.sd hp)
end
end DL

/-! DX19: len(d), d.get(k), d.get(k, x); stores into dicts and into what stands in own lists and dicts. -/
namespace DL
open PySem PySem.Spec PyProof.Rows L2
section
variable {X : Cx} {W : WT} {fx : List Nat} {K : PySem.W.Frag} {tb : List Addr} {e a b c o : Expr} {es : List Expr} {S S' S1 : Addr → Prop} {H H' H1 : Hp} {F F' F1 T : Fp} {σ : L2.St} {r : DL.Env} {pos p p2 apos cpos tpos : Pos} {x : Str} {A B C : EP}
/-! ### len -/
def rLenD : List V → Hp → VK → Prop := fun xs H Q => ∃ (a : Addr) (kvs : List (Key × V)), xs = [V.ref a] ∧ Rd H a (.dK kvs) ∧ Q (.int kvs.length) H
theorem cr_lenD : CallR X (.builtin "len") rLenD := by
  intro pins s σ H xs us Q I r h
  obtain ⟨a, kvs, rfl, e, q⟩ := h
  obtain ⟨u, rfl, rx⟩ := vals1 r
  obtain rfl : u = Value.ref a := rx
  exact d_len I e fun t s' I' => ⟨.int kvs.length, H, I', ⟨t, rfl⟩, q⟩
def dLenD0 : List D → Option D
  | [.dic _ false ks _] => some (.int ks.length)
  | _ => none
theorem vl_lenD0 : VL K rLenD dLenD0 := by
  intro S H ds vs T1 Q sd h ⟨d, e, k⟩
  unfold dLenD0 at e
  split at e
  · rename_i o ks vs'
    cases e
    obtain ⟨v, r, F1, F2, rfl, e2, h1, h2⟩ := h
    obtain ⟨a, ws, G, rfl, hr, rl, hG, hl, hk⟩ := h1.dic_at
    rw [h2.1]
    refine ⟨a, _, rfl, hr, ?_⟩
    rw [show (((ks.map hdK).zip ws).length) = ks.length by rw [List.length_zip, List.length_map, ← rl.len, ← hl, Nat.min_self]]
    exact k _ S H [] (.refl _ _ _) ⟨rfl, rfl⟩ (Ft.nil sd)
  · cases e
def dLenD (ds : List D) : Option D := (dLen ds).or (dLenD0 ds)
theorem cr_lenA : CallR X (.builtin "len") (fun xs H Q => (∃ x n, xs = [x] ∧ LenV X.K x H n ∧ Q (.int n) H) ∨ rLenD xs H Q) := call_len.or cr_lenD
theorem vl_lenA : VL K (fun xs H Q => (∃ x n, xs = [x] ∧ LenV K x H n ∧ Q (.int n) H) ∨ rLenD xs H Q) dLenD := vl_len.or' vl_lenD0
/-! ### get -/
def isDc : D → Bool
  | .dic _ _ _ _ => true
  | _ => false
def dGet (x k z : D) : Option D := match x with
  | .dic _ t ks ds => (dKey t k).map fun q => (look ks ds q).getD z
  | _ => none
def pGet1 (A B : EP) : EP := fun r => (A r).bind fun x => if isDc x = true then (B r).bind fun k => opP (dGet x k) .non else .stk
def pGet2 (A B C : EP) : EP := fun r => (A r).bind fun x => if isDc x = true then (B r).bind fun k => (C r).bind fun z => opP (dGet x k) z else .stk
theorem dGet_at {d1 k z d : D} {v1 vk vz : V} {T1 Tk Tz : Fp} (e : dGet d1 k z = some d) (h1 : Rep K S H d1 v1 T1) (hk : Rep K S H k vk Tk) (hz : Rep K S H z vz Tz) : ∃ a o, v1 = .ref a ∧ DGet H a vk o ∧ ∃ T', Rep K S H d (o.getD vz) T' := by
  cases d1 with
  | dic o t ks ds =>
    obtain ⟨q, eq, rfl⟩ := Option.map_eq_some_iff.mp (show (dKey t k).map (fun q => (look ks ds q).getD z) = some d from e)
    obtain ⟨a, vs, G, rfl, hr, rl, hG, hl, hko⟩ := h1.dic_at
    have g := dget_of hr hko (hl.trans rl.len) (dKey_rep eq hk)
    refine ⟨a, _, rfl, g, ?_⟩
    cases el : look ks ds q with
    | none => rw [look_none rl.len el]; exact ⟨Tz, hz⟩
    | some d' =>
      obtain ⟨v, G', k1, k2, k3⟩ := rl.look el
      rw [k1]
      exact ⟨G', k2⟩
  | _ => cases e
theorem isDc_at {d : D} {v : V} (c : isDc d = true) (h : Rep K S H d v T) : ∃ a, v = .ref a ∧ IsD H a := by
  cases d with
  | dic o t ks ds =>
    obtain ⟨a, vs, G, rfl, hr, _⟩ := h.dic_at
    exact ⟨a, rfl, isD_of hr⟩
  | _ => cases c
theorem n_get1 {k : Nat} (hr : Room k X.A) (ha : DP X W o A) (hb : DP X W e B) (m : M1 X o "get" apos e cpos := by exact ⟨by rfl, by rfl, by rfl, by rfl⟩) : DP X W (.Call (.Attribute o "get" apos) [e] [] cpos) (pGet1 A B) := by
  obtain ⟨t, p, h⟩ := ha; obtain ⟨t', p', h'⟩ := hb
  refine ⟨_, pe_dget1 (by have := hr.un; omega) p p' m, fun S H r σ F Q x y => h S H r σ F _ x (PP1.bind (Go.refl _ _ _) y fun d1 v1 S1 H1 T1 g1 f1 h1 y1 => ?_)⟩
  split at y1
  case isFalse => exact y1.elim
  case isTrue c =>
  obtain ⟨a, rfl, hd⟩ := isDc_at c h1
  refine ⟨a, rfl, hd, h' S1 H1 r σ F _ (x.ext0 g1 f1) (PP1.bind g1 y1 fun d2 v2 S2 H2 T2 g2 f2 h2 y2 => ?_)⟩
  obtain ⟨d, e', y3⟩ := opP_some y2
  obtain ⟨a', o', ea, g, T', rp⟩ := dGet_at e' (Rep.go g2 f1 d1 (.ref a) T1 (fun _ _ z => nomatch z) h1) h2 (show Rep X.K S2 H2 .non V.non [] from ⟨rfl, rfl⟩)
  cases ea
  exact ⟨o', g, y3 _ S2 H2 T' (g1.trans g2) f2 rp⟩
theorem n_get2 {k : Nat} (hr : Room k X.A) (ha : DP X W o A) (hb : DP X W e B) (hc : DP X W c C) (m : M2 X o "get" apos e c cpos := by exact ⟨by rfl, by rfl, by rfl, by rfl⟩) : DP X W (.Call (.Attribute o "get" apos) [e, c] [] cpos) (pGet2 A B C) := by
  obtain ⟨t, p, h⟩ := ha; obtain ⟨t', p', h'⟩ := hb; obtain ⟨t2, p2, h2'⟩ := hc
  refine ⟨_, pe_dget2 (by have := hr.un; omega) p p' p2 m, fun S H r σ F Q x y => h S H r σ F _ x (PP1.bind (Go.refl _ _ _) y fun d1 v1 S1 H1 T1 g1 f1 h1 y1 => ?_)⟩
  split at y1
  case isFalse => exact y1.elim
  case isTrue c =>
  obtain ⟨a, rfl, hd⟩ := isDc_at c h1
  refine ⟨a, rfl, hd, h' S1 H1 r σ F _ (x.ext0 g1 f1) (PP1.bind g1 y1 fun d2 v2 S2 H2 T2 g2 f2 h2 y2 => ?_)⟩
  refine h2' S2 H2 r σ F _ ((x.ext0 g1 f1).ext0 g2 f2) (PP1.bind (g1.trans g2) y2 fun d3 v3 S3 H3 T3 g3 f3 h3 y3 => ?_)
  obtain ⟨d, e', y4⟩ := opP_some y3
  have g23 := g2.trans g3
  obtain ⟨a', o', ea, g, T', rp⟩ := dGet_at e' (Rep.go g23 f1 d1 (.ref a) T1 (fun _ _ z => nomatch z) h1) (Rep.go g3 f2 d2 v2 T2 (fun _ _ z => nomatch z) h2) h3
  cases ea
  exact ⟨o', g, y4 _ S3 H3 T' (g1.trans g23) f3 rp⟩
end
end DL

/-! DX20: stores: d[k] = v; x[a][b] = v; x[a].append(v). -/
namespace DL
open PySem PySem.Spec PyProof.Rows L2
section
variable {α : Type}
def repl : List DKey → List α → DKey → α → List α
  | k :: ks, d :: ds, q, x => (if k = q then x else d) :: repl ks ds q x
  | _, ds, _, _ => ds
def putKs (ks : List DKey) (q : DKey) : List DKey := if hasK ks q = true then ks else ks ++ [q]
def putVs (ks : List DKey) (ds : List α) (q : DKey) (x : α) : List α := if hasK ks q = true then repl ks ds q x else ds ++ [x]
def idxK : List DKey → DKey → Option Nat
  | [], _ => none
  | k :: ks, q => if k = q then some 0 else (idxK ks q).map (· + 1)
theorem repl_len : ∀ {ks : List DKey} {ds : List α} {q : DKey} {x : α}, (repl ks ds q x).length = ds.length
  | [], _, _, _ => rfl
  | _ :: _, [], _, _ => rfl
  | k :: ks, d :: ds, q, x => by rw [repl, List.length_cons, List.length_cons, repl_len]
theorem put_len {ks : List DKey} {ds : List α} {q : DKey} {x : α} (h : ks.length = ds.length) : (putKs ks q).length = (putVs ks ds q x).length := by
  unfold putKs putVs
  split
  · rw [repl_len]; exact h
  · simp [h]
theorem look_idx : ∀ {ks : List DKey} {ds : List α} {q : DKey} {j : Nat}, idxK ks q = some j → ks.length = ds.length → look ks ds q = ds[j]?
  | [], _, _, _, e, _ => by cases e
  | k :: ks, [], _, _, _, h => by simp at h
  | k :: ks, d :: ds, q, j, e, h => by
    rw [idxK] at e
    rw [look]
    by_cases c : k = q
    · rw [if_pos c] at e ⊢
      cases e; rfl
    · rw [if_neg c] at e ⊢
      obtain ⟨j', ej, rfl⟩ := Option.map_eq_some_iff.mp e
      rw [look_idx ej (by simpa using h)]; rfl
end
section
variable {K : PySem.W.Frag} {tb : List Addr} {S S' : Addr → Prop} {H H' : Hp} {F G T : Fp} {σ : L2.St} {r : DL.Env}
theorem hasK_any {ks : List DKey} {vs : List V} {q : DKey} (h : ks.length = vs.length) : ((ks.zip vs).any fun kv => decide (kv.1 = q)) = hasK ks q := by
  rw [valV_any, look_dT h, look_mem h]
theorem zip_repl : ∀ {ks : List DKey} {vs : List V} {q : DKey} {w : V}, (ks.zip vs).map (fun kv => if kv.1 = q then (kv.1, w) else kv) = ks.zip (repl ks vs q w)
  | [], _, _, _ => by simp
  | _ :: _, [], _, _ => by simp [repl]
  | k :: ks, v :: vs, q, w => by
    rw [List.zip_cons_cons, List.map_cons, zip_repl, repl, List.zip_cons_cons]
    by_cases c : k = q <;> simp [c]
theorem zip_replK : ∀ {ks : List DKey} {vs : List V} {k : Key} {w : V}, (∀ q ∈ ks, q.length = 1) → ((ks.map hdK).zip vs).map (fun kv => if kv.1 = k then (kv.1, w) else kv) = (ks.map hdK).zip (repl ks vs [k] w)
  | [], _, _, _, _ => by simp
  | _ :: _, [], _, _, _ => by simp [repl]
  | q :: ks, v :: vs, k, w, h => by
    obtain ⟨x, rfl⟩ : ∃ x, q = [x] := List.length_eq_one_iff.mp (h q (by simp))
    rw [List.map_cons, List.zip_cons_cons, List.map_cons, zip_replK (fun q hq => h q (by simp [hq])), repl, List.zip_cons_cons]
    by_cases c : x = k <;> simp [c, hdK]
theorem zip_snoc {α β : Type} : ∀ {ks : List α} {vs : List β} {q : α} {w : β}, ks.length = vs.length → ks.zip vs ++ [(q, w)] = (ks ++ [q]).zip (vs ++ [w])
  | [], [], _, _, _ => rfl
  | [], _ :: _, _, _, h => by simp at h
  | _ :: _, [], _, _, h => by simp at h
  | k :: ks, v :: vs, q, w, h => by simp [zip_snoc (by simpa using h)]
/-- the object behind a store -/
theorem dput_of {a : Addr} {t : Bool} {ks : List DKey} {vs : List V} {q : DKey} {y w : V} (h : H a = some (dicO t ks vs)) (hk : KOk t ks) (hl : ks.length = vs.length) (k : KeyV H t q y) (hz : ks.length < sizeLine) : DPut H a y w (upd H a (dicO t (putKs ks q) (putVs ks vs q w))) := by
  cases t with
  | true =>
    obtain ⟨b, rfl, hb⟩ := k
    refine .inr ⟨ks.zip vs, q, b, h, rfl, hb, by rw [List.length_zip, ← hl, Nat.min_self]; exact hz, ?_⟩
    congr 1
    show HO.dT _ = HO.dT _
    congr 1
    unfold putK putKs putVs
    rw [hasK_any hl]
    split
    · exact zip_repl.symm
    · exact (zip_snoc hl).symm
  | false =>
    obtain ⟨x, rfl, rfl⟩ := k
    have hk := hk.resolve_left (by decide)
    have hl' : (ks.map hdK).length = vs.length := by simpa using hl
    refine .inl ⟨(ks.map hdK).zip vs, x, h, rfl, by rw [List.length_zip, List.length_map, ← hl, Nat.min_self]; exact hz, ?_⟩
    congr 1
    show HO.dK _ = HO.dK _
    congr 1
    unfold putK putKs putVs
    rw [valV_any, look_dK hk hl, look_mem hl]
    split
    · exact (zip_replK hk).symm
    · rw [List.map_append, List.map_singleton, ← zip_snoc hl']; rfl
theorem kok_put {t : Bool} {ks : List DKey} {q : DKey} {y : V} (hk : KOk t ks) (k : KeyV H t q y) : KOk t (putKs ks q) := by
  cases t with
  | true => exact .inl rfl
  | false =>
    obtain ⟨x, rfl, _⟩ := k
    refine .inr fun p hp => ?_
    unfold putKs at hp
    split at hp
    · exact hk.resolve_left (by decide) p hp
    · rcases List.mem_append.mp hp with hp | hp
      · exact hk.resolve_left (by decide) p hp
      · obtain rfl := List.mem_singleton.mp hp; rfl
theorem RepL.repl : ∀ {ks : List DKey} {ds : List D} {vs : List V} {G : Fp} {q : DKey} {d : D} {w : V}, RepL K S H ds vs G → Rep K S H d w [] → ∃ G', RepL K S H (DL.repl ks ds q d) (DL.repl ks vs q w) G' ∧ G'.Sublist G
  | [], ds, vs, G, _, _, _, h, _ => ⟨G, h, .refl _⟩
  | k :: ks, [], vs, G, _, _, _, h, _ => by
    obtain ⟨rfl, rfl⟩ := h
    exact ⟨[], ⟨rfl, rfl⟩, .refl _⟩
  | k :: ks, d0 :: ds, vs, G, q, d, w, h, hw => by
    obtain ⟨v, r, F1, F2, rfl, rfl, h1, h2⟩ := h
    obtain ⟨G2, k1, k2⟩ := RepL.repl (ks := ks) (q := q) h2 hw
    rw [DL.repl, DL.repl]
    by_cases c : k = q
    · rw [if_pos c, if_pos c]
      exact ⟨G2, ⟨w, _, [], G2, rfl, rfl, hw, k1⟩, k2.trans (List.sublist_append_right _ _)⟩
    · rw [if_neg c, if_neg c]
      exact ⟨F1 ++ G2, ⟨v, _, F1, G2, rfl, rfl, h1, k1⟩, List.Sublist.append (.refl _) k2⟩
theorem RepL.put {ks : List DKey} {ds : List D} {vs : List V} {G : Fp} {q : DKey} {d : D} {w : V} (h : RepL K S H ds vs G) (hw : Rep K S H d w []) : ∃ G', RepL K S H (putVs ks ds q d) (putVs ks vs q w) G' ∧ G'.Sublist G := by
  unfold putVs
  split
  · exact h.repl hw
  · exact ⟨G ++ [], h.append (RepL.one hw), by simp⟩
/-! ### what a name owns, changed -/
theorem upd_goM {b : Addr} {o' : HO} (sd : ∀ a, S a → H a ≠ none) (m : Mt (H b)) : Go S H [b] S (L2.upd H b o') [b] := by
  refine .mk' (fun _ z => z) (fun c u e n => ?_) (fun c q => ?_) (fun c z => .inl z) (fun c z => .inl z) (fun c z => ?_)
  · rw [upd_ne (fun z => n (by simp [z]))]; exact e
  · by_cases z : c = b
    · subst z; rw [upd_same]; simp
    · rw [upd_ne z]; exact q
  · have : c = b := by simpa using z
    subst this; exact m
theorem ft_one {b : Addr} (sd : ∀ a, S a → H a ≠ none) (dj : ¬ S b) (m : Mt (H b)) : Ft S H [b] := by
  refine ⟨by simp, fun a z => ?_, fun a z => ?_, sd⟩
  · rw [List.mem_singleton.mp z]; exact dj
  · rw [List.mem_singleton.mp z]; exact m
theorem At.core (q : At K tb S H r σ F) {i : Nat} {d0' : D} {v0 : V} {T0 F0 A B G G' : Fp} {b : Addr} {ob : HO} (l : i < r.length) (h1 : σ[i]? = some (some v0)) (h3 : At K tb S H (r.set i none) σ F0) (h4 : Ft S H (T0 ++ F0)) (h5 : ∀ a, a ∈ T0 ++ F0 ↔ a ∈ F)
    (eT : T0 = A ++ ((b :: G) ++ B)) (m : Mt (some ob)) (rp : Rep K S (L2.upd H b ob) d0' v0 (A ++ ((b :: G') ++ B))) (sl : G'.Sublist G) : ∃ F', At K tb S (L2.upd H b ob) (r.set i (some d0')) σ F' ∧ Go S H F S (L2.upd H b ob) F' := by
  have sub : (A ++ ((b :: G') ++ B)).Sublist T0 := by
    rw [eT]
    exact List.Sublist.append (.refl _) (List.Sublist.append (List.Sublist.cons_cons b sl) (.refl _))
  have bT : b ∈ T0 := by rw [eT]; simp
  have mb : Mt (H b) := h4.left.mu b bT
  have sd := q.ft.sd
  have g : Go S H [b] S (L2.upd H b ob) [b] := upd_goM sd mb
  have fb : Ft S H [b] := ft_one sd (h4.left.dj b bT) mb
  have nb : ∀ a ∈ F0, a ∉ [b] := fun a z y => by
    have : a = b := by simpa using y
    subst this
    exact h4.apart a bT z
  have mu' : ∀ a, Mt (H a) → Mt (L2.upd H b ob a) := fun a z => by
    by_cases c : a = b
    · subst c; rw [upd_same]; exact m
    · rw [upd_ne c]; exact z
  have f0 : Ft S (L2.upd H b ob) F0 := ⟨h4.right.nd, h4.right.dj, fun a z => mu' a (h4.right.mu a z), sd_new sd⟩
  have x0 : At K tb S (L2.upd H b ob) (r.set i none) σ F0 := h3.go g fb nb f0
  have sub2 : ((A ++ ((b :: G') ++ B)) ++ F0).Sublist (T0 ++ F0) := List.Sublist.append sub (.refl _)
  have f2 : Ft S (L2.upd H b ob) ((A ++ ((b :: G') ++ B)) ++ F0) := ⟨h4.nd.sublist sub2, fun a z => h4.dj a (sub2.subset z), fun a z => mu' a (h4.mu a (sub2.subset z)), sd_new sd⟩
  obtain ⟨F', y1, y2⟩ := x0.back (i := i) (d := d0') (by simpa using l) h1 rp f2
  rw [List.set_set] at y1
  refine ⟨F', y1, ?_⟩
  have gF := g.wide (F2 := F) fun a z => (h5 a).mp (by rw [List.mem_singleton.mp z]; exact List.mem_append_left _ bT)
  exact ⟨gF.sS, gF.fr, gF.tb, gF.dom, fun a z => .inl ((h5 a).mp (sub2.subset (y2 a z))), gF.newS⟩
/-- lists and dicts that are their own -/
def ownC : D → Bool
  | .lst true _ => true
  | .dic true _ _ _ => true
  | _ => false
theorem Rep.ownC {c : D} {w : V} (o : ownC c = true) (h : Rep K S H c w T) : ∃ b G, w = .ref b ∧ T = b :: G := by
  cases c with
  | lst o' ds => cases o' with
    | true => obtain ⟨a, vs, G, e, _, e2, _⟩ := h; exact ⟨a, G, e, e2⟩
    | false => cases o
  | dic o' t ks ds => cases o' with
    | true => obtain ⟨_, _, a, vs, G, e, _, e2, _⟩ := h; exact ⟨a, G, e, e2⟩
    | false => cases o
  | _ => cases o
theorem At.own0 (q : At K tb S H r σ F) {i : Nat} {c : D} (e : r[i]? = some (some c)) (o : ownC c = true) : ∃ b G, σ[i]? = some (some (.ref b)) ∧ Rep K S H c (.ref b) (b :: G) ∧ Ft S H (b :: G) ∧
    ∀ ob c' G', Mt (some ob) → Rep K S (L2.upd H b ob) c' (.ref b) (b :: G') → G'.Sublist G → ∃ F', At K tb S (L2.upd H b ob) (r.set i (some c')) σ F' ∧ Go S H F S (L2.upd H b ob) F' := by
  have l : i < r.length := (List.getElem?_eq_some_iff.mp e).1
  obtain ⟨v, T, F0, h1, h2, h3, h4, h5⟩ := q.take e
  obtain ⟨b, G, rfl, rfl⟩ := h2.ownC o
  refine ⟨b, G, h1, h2, h4.left, fun ob c' G' m rp sl => ?_⟩
  exact q.core (A := []) (B := []) l h1 h3 h4 h5 (by simp) m (by simpa using rp) sl
theorem RepL.slot : ∀ {ds : List D} {vs : List V} {F : Fp} {j : Nat} {d : D}, RepL K S H ds vs F → ds[j]? = some d → ∃ v A G B, vs[j]? = some v ∧ F = A ++ (G ++ B) ∧ Rep K S H d v G ∧
    ∀ (S' : Addr → Prop) (H' : Hp) (F1 F1' : Fp), Go S H F1 S' H' F1' → Ft S H F1 → (∀ b ∈ A ++ B, b ∉ F1) → ∀ d' G', Rep K S' H' d' v G' → RepL K S' H' (ds.set j d') vs (A ++ (G' ++ B))
  | [], _, _, _, _, _, e => by simp at e
  | d0 :: ds, vs, F, 0, d, h, e => by
    obtain ⟨v, r, F1, F2, rfl, rfl, h1, h2⟩ := h
    simp at e; subst e
    exact ⟨v, [], F1, F2, rfl, rfl, h1, fun S' H' E E' g f n d' G' rp => ⟨v, r, G', F2, rfl, rfl, rp, RepL.go g f ds r F2 (fun b z => n b (by simpa using z)) h2⟩⟩
  | d0 :: ds, vs, F, j + 1, d, h, e => by
    obtain ⟨v, r, F1, F2, rfl, rfl, h1, h2⟩ := h
    obtain ⟨w, A, G, B, k1, rfl, k3, k4⟩ := RepL.slot (j := j) h2 (by simpa using e)
    refine ⟨w, F1 ++ A, G, B, by simpa using k1, by simp [List.append_assoc], k3, fun S' H' E E' g f n d' G' rp => ?_⟩
    exact ⟨v, r, F1, A ++ (G' ++ B), rfl, by simp [List.append_assoc], Rep.go g f d0 v F1 (fun b z => n b (by simp [z])) h1, k4 S' H' E E' g f (fun b z => n b (by simp at z ⊢; rcases z with z | z <;> simp [z])) d' G' rp⟩
def itemsO : HO → List V
  | .lst vs => vs
  | .dK kvs => kvs.map (·.2)
  | .dT kvs => kvs.map (·.2)
  | _ => []
theorem zip_snd {α β : Type} : ∀ {ks : List α} {vs : List β}, ks.length = vs.length → (ks.zip vs).map (·.2) = vs
  | [], [], _ => rfl
  | [], _ :: _, h => by simp at h
  | _ :: _, [], h => by simp at h
  | k :: ks, v :: vs, h => by rw [List.zip_cons_cons, List.map_cons, zip_snd (by simpa using h)]
theorem items_dic {t : Bool} {ks : List DKey} {vs : List V} (h : ks.length = vs.length) : itemsO (dicO t ks vs) = vs := by
  cases t with
  | true => exact zip_snd h
  | false => exact zip_snd (by simpa using h)
/-- what stands at a place of the object that v0 is -/
def AddrAt (H : Hp) (v0 : V) (j : Nat) (b : Addr) : Prop := ∃ a ob, v0 = .ref a ∧ H a = some ob ∧ NTb ob ∧ (itemsO ob)[j]? = some (.ref b)
theorem AddrAt.eq {H1 H2 : Hp} {S1 S2 : Addr → Prop} (g : Go S1 H1 [] S2 H2 []) {v0 : V} {j : Nat} {b b' : Addr} (h : AddrAt H1 v0 j b) (h' : AddrAt H2 v0 j b') : b' = b := by
  obtain ⟨a, ob, rfl, e, n, k⟩ := h
  obtain ⟨a', ob', ea, e', _, k'⟩ := h'
  cases ea
  rw [g.fr a ob e (fun z => nomatch z) n] at e'
  cases e'
  rw [k] at k'
  cases k'; rfl
/-- where a key leads in an own list or dict -/
def posD : D → D → Option Nat
  | .lst true ds, .int k => ixN ds.length k
  | .dic true t ks _, k => (dKey t k).bind (idxK ks)
  | _, _ => none
def subD : D → Nat → Option D
  | .lst true ds, j => ds[j]?
  | .dic true _ _ ds, j => ds[j]?
  | _, _ => none
def setD : D → Nat → D → D
  | .lst true ds, j, d => .lst true (ds.set j d)
  | .dic true t ks ds, j, d => .dic true t ks (ds.set j d)
  | x, _, _ => x
theorem At.own1 (q : At K tb S H r σ F) {i j : Nat} {d0 c ka : D} {vk : V} {Tk : Fp} (e : r[i]? = some (some d0)) (hp : posD d0 ka = some j) (hs : subD d0 j = some c) (o : ownC c = true) (hk : Rep K S H ka vk Tk) : ∃ v0 b G, σ[i]? = some (some v0) ∧ Rep K S H c (.ref b) (b :: G) ∧ Ft S H (b :: G) ∧
    (∀ Q : VK, Q (.ref b) H → rIxD K v0 vk H Q) ∧ AddrAt H v0 j b ∧
    ∀ ob c' G', Mt (some ob) → Rep K S (L2.upd H b ob) c' (.ref b) (b :: G') → G'.Sublist G → ∃ F', At K tb S (L2.upd H b ob) (r.set i (some (setD d0 j c'))) σ F' ∧ Go S H F S (L2.upd H b ob) F' := by
  have l : i < r.length := (List.getElem?_eq_some_iff.mp e).1
  obtain ⟨v, T, F0, h1, h2, h3, h4, h5⟩ := q.take e
  have fin : ∀ {a : Addr} {ds : List D} {vs : List V} {G0 : Fp}, T = a :: G0 → RepL K S H ds vs G0 → ds[j]? = some c → ∃ b G, vs[j]? = some (.ref b) ∧ Rep K S H c (.ref b) (b :: G) ∧ Ft S H (b :: G) ∧
      ∀ ob c' G' d0', Mt (some ob) → Rep K S (L2.upd H b ob) c' (.ref b) (b :: G') → G'.Sublist G → (∀ G2, b ≠ a → RepL K S (L2.upd H b ob) (ds.set j c') vs G2 → Rep K S (L2.upd H b ob) d0' v (a :: G2)) → ∃ F', At K tb S (L2.upd H b ob) (r.set i (some d0')) σ F' ∧ Go S H F S (L2.upd H b ob) F' := by
    intro a ds vs G0 eT rl ed
    obtain ⟨w, A, Gc, B, k1, rfl, k3, k4⟩ := rl.slot ed
    obtain ⟨b, G, rfl, rfl⟩ := k3.ownC o
    have f3 : Ft S H (b :: G) := by
      have f := h4.left
      rw [eT] at f
      exact ((show Ft S H ((a :: A) ++ ((b :: G) ++ B)) from by simpa using f).right).left
    refine ⟨b, G, k1, k3, f3, fun ob c' G' d0' m rp sl mk => ?_⟩
    have nd : (a :: (A ++ ((b :: G) ++ B))).Nodup := by rw [← eT]; exact h4.left.nd
    have ba : b ≠ a := fun z => (List.nodup_cons.mp nd).1 (by rw [← z]; simp)
    have nd2 : (A ++ ((b :: G) ++ B)).Nodup := (List.nodup_cons.mp nd).2
    have bT : b ∈ T := by rw [eT]; simp
    have sd := q.ft.sd
    have mb : Mt (H b) := h4.left.mu b bT
    have fb : Ft S H [b] := ft_one sd (h4.left.dj b bT) mb
    have rl2 := k4 S (L2.upd H b ob) [b] [b] (upd_goM sd mb) fb (fun c hc z => by
      have : c = b := by simpa using z
      subst this
      rcases List.mem_append.mp hc with hc | hc
      · exact (List.nodup_append.mp nd2).2.2 c hc c (by simp) rfl
      · have := (List.nodup_append.mp nd2).2.1
        rw [List.cons_append] at this
        exact (List.nodup_cons.mp this).1 (List.mem_append_right _ hc)) c' (b :: G') rp
    exact q.core (A := a :: A) (B := B) (d0' := d0') l h1 h3 h4 h5 (by rw [eT]; simp) m (by simpa using mk _ ba rl2) sl
  cases d0 with
  | lst o' ds => cases o' with
    | false => cases ka <;> cases hp
    | true =>
      obtain ⟨a, vs, G0, rfl, ha, eT, rl⟩ := h2
      obtain ⟨b, G, k1, k2, f3, k3⟩ := fin eT rl (show ds[j]? = some c from hs)
      refine ⟨.ref a, b, G, h1, k2, f3, fun Q hq => ?_, ⟨a, _, rfl, ha, trivial, k1⟩, fun ob c' G' m rp sl => ?_⟩
      · cases ka with
        | int k =>
          refine .inl (.inl ⟨a, vs, k, .ref b, rfl, hk.1, .inl (.inl ha), ?_, hq⟩)
          have hp : ixN ds.length k = some j := hp
          unfold atI
          rw [← rl.len, hp]
          exact k1
        | _ => cases hp
      · exact k3 ob c' G' _ m rp sl fun G2 ba rl2 => ⟨a, vs, G2, rfl, by rw [upd_ne (Ne.symm ba)]; exact ha, rfl, rl2⟩
  | dic o' t ks ds => cases o' with
    | false => cases hp
    | true =>
      obtain ⟨hl, hko, a, vs, G0, rfl, ha, eT, rl⟩ := h2
      obtain ⟨b, G, k1, k2, f3, k3⟩ := fin eT rl (show ds[j]? = some c from hs)
      refine ⟨.ref a, b, G, h1, k2, f3, fun Q hq => ?_, ⟨a, _, rfl, ha, ntb_dic, by rw [items_dic (hl.trans rl.len)]; exact k1⟩, fun ob c' G' m rp sl => ?_⟩
      · obtain ⟨qk, eq, ei⟩ := Option.bind_eq_some_iff.mp (show (dKey t ka).bind (idxK ks) = some j from hp)
        have g := dget_of (.inl ha) hko (hl.trans rl.len) (dKey_rep eq hk)
        rw [look_idx ei (hl.trans rl.len), k1] at g
        exact .inr ⟨a, .ref b, rfl, g, hq⟩
      · exact k3 ob c' G' _ m rp sl fun G2 ba rl2 => ⟨by simpa using hl, hko, a, vs, G2, rfl, by rw [upd_ne (Ne.symm ba)]; exact ha, rfl, rl2⟩
  | _ => cases hp
end
end DL

/-! DX21: the statements of stores: x[k] = e (list or dict), x[a][b] = e, x[a].append(e). -/
namespace DL
open PySem PySem.Spec PyProof.Rows L2
/-- what a store makes of a list or dict of its own -/
def newC : D → D → D → Option D
  | .lst true cs, .int k, d => (ixN cs.length k).map fun m => .lst true (cs.set m d)
  | .dic true t ks ds, k, d => if ks.length < sizeLine then (dKey t k).map fun q => .dic true t (putKs ks q) (putVs ks ds q d) else none
  | _, _, _ => none
def rSetA : TSet := fun o i v H Q => rSetL o i v H Q ∨ rSetD o i v H Q
section
variable {K : PySem.W.Frag} {tb : List Addr} {S S' : Addr → Prop} {H H' : Hp} {F G T : Fp} {σ : L2.St} {r : DL.Env}
theorem newC_own {c k d c' : D} (e : newC c k d = some c') : ownC c = true := by
  cases c with
  | lst o ds => cases o with
    | true => rfl
    | false => cases k <;> cases e
  | dic o t ks ds => cases o with
    | true => rfl
    | false => cases k <;> cases e
  | _ => cases k <;> cases e
theorem RepL.upd {b : Addr} {ob : HO} {ds : List D} {vs : List V} (f : Ft S H (b :: G)) {G' : Fp} (sl : G'.Sublist G) (h : RepL K S H ds vs G') : RepL K S (L2.upd H b ob) ds vs G' := by
  have fb : Ft S H [b] := ft_one f.sd (f.dj b (by simp)) (f.mu b (by simp))
  refine RepL.go (upd_goM f.sd (f.mu b (by simp))) fb ds vs G' (fun c hc z => ?_) h
  rw [List.mem_singleton.mp z] at hc
  exact (List.nodup_cons.mp f.nd).1 (sl.subset hc)
theorem newC_put {c k d c' : D} {b : Addr} {vk w : V} {Tk : Fp} (e : newC c k d = some c') (h : Rep K S H c (.ref b) (b :: G)) (f : Ft S H (b :: G)) (hk : Rep K S H k vk Tk) (hw : Rep K S H d w []) :
    ∃ ob G', Mt (some ob) ∧ G'.Sublist G ∧ (∀ Q : Hp → Prop, Q (L2.upd H b ob) → rSetA (.ref b) vk w H Q) ∧ Rep K S (L2.upd H b ob) c' (.ref b) (b :: G') := by
  cases c with
  | lst o cs => cases o with
    | false => cases k <;> cases e
    | true =>
      cases k with
      | int k =>
        obtain ⟨m, em, rfl⟩ := Option.map_eq_some_iff.mp (show (ixN cs.length k).map (fun m => D.lst true (cs.set m d)) = some c' from e)
        obtain ⟨a, vs, G0, ea, ha, eG, rl⟩ := h
        cases ea
        cases eG
        obtain ⟨G', rl', sl⟩ := rl.set (j := m) hw
        refine ⟨.lst (vs.set m w), G', trivial, sl, fun Q q => .inl ⟨b, vs, k, m, rfl, hk.1, ha, by rw [← rl.len]; exact em, q⟩, b, _, G', rfl, upd_same, rfl, rl'.upd f sl⟩
      | _ => cases e
  | dic o t ks ds => cases o with
    | false => cases k <;> cases e
    | true =>
      have e : (if ks.length < sizeLine then (dKey t k).map fun q => D.dic true t (putKs ks q) (putVs ks ds q d) else none) = some c' := by cases k <;> exact e
      split at e
      · rename_i hz
        obtain ⟨q, eq, rfl⟩ := Option.map_eq_some_iff.mp e
        obtain ⟨hl, hko, a, vs, G0, ea, ha, eG, rl⟩ := h
        cases ea
        cases eG
        have kv := dKey_rep eq hk
        have hlv := hl.trans rl.len
        obtain ⟨G', rl', sl⟩ := rl.put (ks := ks) (q := q) hw
        exact ⟨dicO t (putKs ks q) (putVs ks vs q w), G', mt_dic, sl, fun Q z => .inr ⟨b, _, rfl, dput_of ha hko hlv kv hz, z⟩, put_len hl, kok_put hko kv, b, _, G', rfl, upd_same, rfl, rl'.upd f sl⟩
      · cases e
  | _ => cases k <;> cases e
end
section
variable {X : Cx} {W : WT} {fx : List Nat} {K : PySem.W.Frag} {tb : List Addr} {e a b c o : Expr} {es : List Expr} {S S' S1 : Addr → Prop} {H H' H1 : Hp} {F F' F1 T : Fp} {σ : L2.St} {r : DL.Env} {pos p p2 apos cpos tpos xpos : Pos} {x : Str}
theorem set_A (hu : X.A.units + 1 < cLine) : PSet X rSetA := by
  intro pins s σ H o i v ov iv u Q I ro ri rv h
  rcases h with h | h
  · exact set_list pins s σ H o i v ov iv u Q I ro ri rv h
  · exact set_dict hu pins s σ H o i v ov iv u Q I ro ri rv h
/-! ### x[k] = e -/
def stA (i : Nat) (k d : D) (r : DL.Env) : SR := match r[i]? with
  | some (some c) => if d.sh = true then (match newC c k d with | some c' => .nx (r.set i (some c')) | none => .stk) else .stk
  | _ => .stk
def hasS (i : Nat) (r : DL.Env) : Bool := match r[i]? with
  | some (some _) => true
  | _ => false
def sStA (i : Nat) (P : EP) (E : EE) : DL.Env → SR := fun r => (E r).thn fun d r1 => if hasS i r1 = true then ((P r1).up r1).thn fun k r2 => stA i k d r2 else .stk
theorem n_stA (i : Nat) {k : Nat} (hr : Room k X.A) {P : EP} {E : EE} (he : DE X W e E) (hp : DP X W a P) (hN : X.N[i]? = some x := by rfl) (hv : Vis X.env.scope x := by first | exact Or.inl rfl | exact Or.inr (Or.inl rfl) | exact Or.inr (Or.inr rfl))
    (hd : (x == ("__debug__" : Str)) = false := by decide) (hcd : (x == ("__classdict__" : Str)) = false := by decide)
    (ha : ∀ v, assign (.Subscript (.Name x p) a tpos) X.env v = (do
      let ov ← holding [v] (eval (.Name x p) X.env)
      let iv ← holding [v, ov] (eval a X.env)
      standAt tpos
      holding [v, ov, iv] (setItem ov iv v)
      release [v, ov, iv] []) := by intro _; rfl)
    (hs : swapsWithSole [.Subscript (.Name x p) a tpos] e pos.line X.env = pure false := by rfl) (hs2 : swappedStores [.Subscript (.Name x p) a tpos] e X.env = pure none := by rfl)
    (h1 : (assignEach [.Subscript (.Name x p) a tpos] X.env).map (·.2) = [assign (.Subscript (.Name x p) a tpos) X.env] := by rfl) : DS X W fx (.Assign [.Subscript (.Name x p) a tpos] e pos) (sStA i P E) := by
  obtain ⟨t, h, z⟩ := he; obtain ⟨t2, h2, z2⟩ := hp
  refine ⟨_, ps_asg h (pg_sub (pe_var hN hv hd hcd) h2 (set_A (by have := hr.un; omega)) ha) hs hs2 h1, fun S H r σ F D0 x y => z S H r σ F _ x (SP1.thn y fun d r1 w S1 H1 F1 T1 g1 x1 h1 f1 y1 => ?_)⟩
  split at y1
  case isFalse => exact y1.elim
  case isTrue hl =>
  have gf : Go S H F S1 H1 F1 := g1.sub fun b z => List.mem_append_right _ z
  obtain ⟨c0, ec⟩ : ∃ c0, r1[i]? = some (some c0) := by
    unfold hasS at hl
    split at hl
    · exact ⟨_, by assumption⟩
    · cases hl
  obtain ⟨v0, T0, s0, _⟩ := x1.get ec
  refine ⟨v0, s0, z2 S1 H1 r1 σ F1 _ x1 (SP1.thnP gf x1 y1 fun k b S2 H2 T2 g2 f2 hk y2 => ?_)⟩
  unfold stA at y2
  rw [ec] at y2
  dsimp only at y2
  split at y2
  · rename_i hsh
    split at y2
    · rename_i c' en
      have eT : T1 = [] := Rep.sh d w T1 hsh h1
      subst eT
      have x2 := x1.ext0 g2 f2
      have hw : Rep X.K S2 H2 d w [] := Rep.go g2 (Ft.nil x1.ft.sd) d w [] (fun _ z => nomatch z) h1
      obtain ⟨bb, G, k1, k2, k3, k4⟩ := x2.own0 ec (newC_own en)
      rw [s0] at k1
      cases k1
      obtain ⟨ob, G', m, sl, q, rp⟩ := newC_put en k2 k3 hk hw
      obtain ⟨F', j1, j2⟩ := k4 ob c' G' m rp sl
      exact q _ (y2 σ S2 _ F' (gf.trans ((go_side g2 F1).trans j2)) j1 (.refl _ _))
    · exact y2.elim
  · exact y2.elim
/-! ### x[a][b] = e -/
def foc (i : Nat) (ka : D) (r : DL.Env) : Option (D × Nat × D) := match r[i]? with
  | some (some d0) => (posD d0 ka).bind fun j => (subD d0 j).bind fun c => if ownC c = true then some (d0, j, c) else none
  | _ => none
theorem foc_at {i : Nat} {ka d0 c : D} {j : Nat} (h : foc i ka r = some (d0, j, c)) : r[i]? = some (some d0) ∧ posD d0 ka = some j ∧ subD d0 j = some c ∧ ownC c = true := by
  unfold foc at h
  split at h
  · rename_i d e
    obtain ⟨j', e1, h⟩ := Option.bind_eq_some_iff.mp h
    obtain ⟨c', e2, h⟩ := Option.bind_eq_some_iff.mp h
    split at h
    · rename_i ho
      cases h
      exact ⟨e, e1, e2, ho⟩
    · cases h
  · cases h
def st1 (i : Nat) (d0 : D) (j : Nat) (c kb d : D) (r : DL.Env) : SR := if d.sh = true then (match newC c kb d with | some c' => .nx (r.set i (some (setD d0 j c'))) | none => .stk) else .stk
def sSt1 (i : Nat) (PA PB : EP) (E : EE) : DL.Env → SR := fun r => (E r).thn fun d r1 => if hasS i r1 = true then ((PA r1).up r1).thn fun ka r2 => match foc i ka r2 with
  | some (d0, j, c) => ((PB r2).up r2).thn fun kb r3 => st1 i d0 j c kb d r3
  | none => .stk else .stk
theorem n_st1 (i : Nat) {k : Nat} (hr : Room k X.A) {PA PB : EP} {E : EE} (he : DE X W e E) (hpa : DP X W a PA) (hpb : DP X W b PB) (hN : X.N[i]? = some x := by rfl) (hv : Vis X.env.scope x := by first | exact Or.inl rfl | exact Or.inr (Or.inl rfl) | exact Or.inr (Or.inr rfl))
    (hd : (x == ("__debug__" : Str)) = false := by decide) (hcd : (x == ("__classdict__" : Str)) = false := by decide) (hix : PlainIx a := by intro _ _; rfl)
    (ha : ∀ v, assign (.Subscript (.Subscript (.Name x p) a xpos) b tpos) X.env v = (do
      let ov ← holding [v] (eval (.Subscript (.Name x p) a xpos) X.env)
      let iv ← holding [v, ov] (eval b X.env)
      standAt tpos
      holding [v, ov, iv] (setItem ov iv v)
      release [v, ov, iv] []) := by intro _; rfl)
    (hs : swapsWithSole [.Subscript (.Subscript (.Name x p) a xpos) b tpos] e pos.line X.env = pure false := by rfl) (hs2 : swappedStores [.Subscript (.Subscript (.Name x p) a xpos) b tpos] e X.env = pure none := by rfl)
    (h1 : (assignEach [.Subscript (.Subscript (.Name x p) a xpos) b tpos] X.env).map (·.2) = [assign (.Subscript (.Subscript (.Name x p) a xpos) b tpos) X.env] := by rfl) : DS X W fx (.Assign [.Subscript (.Subscript (.Name x p) a xpos) b tpos] e pos) (sSt1 i PA PB E) := by
  have hu : X.A.units + 1 < cLine := by have := hr.un; omega
  obtain ⟨t, h, z⟩ := he; obtain ⟨t2, h2, z2⟩ := hpa; obtain ⟨t3, h3, z3⟩ := hpb
  refine ⟨_, ps_asg h (pg_sub (pe_ix (ix_D hu) (pe_var hN hv hd hcd) h2 hix) h3 (set_A hu) ha) hs hs2 h1, fun S H r σ F D0 x y => z S H r σ F _ x (SP1.thn y fun d r1 w S1 H1 F1 T1 g1 x1 h1 f1 y1 => ?_)⟩
  split at y1
  case isFalse => exact y1.elim
  case isTrue hl =>
  have gf : Go S H F S1 H1 F1 := g1.sub fun b z => List.mem_append_right _ z
  obtain ⟨c0, ec⟩ : ∃ c0, r1[i]? = some (some c0) := by
    unfold hasS at hl
    split at hl
    · exact ⟨_, by assumption⟩
    · cases hl
  obtain ⟨v0, T0, s0, _⟩ := x1.get ec
  refine ⟨v0, s0, z2 S1 H1 r1 σ F1 _ x1 (SP1.thnP gf x1 y1 fun ka b S2 H2 T2 g2 f2 hka y2 => ?_)⟩
  have x2 := x1.ext0 g2 f2
  have gf2 := gf.trans (go_side g2 F1)
  split at y2
  case h_2 => exact y2.elim
  case h_1 d0 j c ef =>
  obtain ⟨q1, q2, q3, q4⟩ := foc_at ef
  obtain ⟨v0', bb, G0, k1, k2, _, kq, ad, _⟩ := x2.own1 q1 q2 q3 q4 hka
  rw [s0] at k1
  cases k1
  refine kq _ (z3 S2 H2 r1 σ F1 _ x2 (SP1.thnP gf2 x2 y2 fun kb vb S3 H3 T3 g3 f3 hkb y3 => ?_))
  have x3 := x2.ext0 g3 f3
  have gf3 := gf2.trans (go_side g3 F1)
  have g23 := g2.trans g3
  obtain ⟨v0', bb', G, k1, k2', k3, _, ad', k4⟩ := x3.own1 q1 q2 q3 q4 (Rep.go g3 f2 ka b T2 (fun _ _ z => nomatch z) hka)
  rw [s0] at k1
  cases k1
  have eb : bb' = bb := AddrAt.eq g3 ad ad'
  subst eb
  unfold st1 at y3
  split at y3
  · rename_i hsh
    split at y3
    · rename_i c' en
      have eT : T1 = [] := Rep.sh d w T1 hsh h1
      subst eT
      have hw : Rep X.K S3 H3 d w [] := Rep.go g23 (Ft.nil x1.ft.sd) d w [] (fun _ z => nomatch z) h1
      obtain ⟨ob, G', m, sl, q, rp⟩ := newC_put en k2' k3 hkb hw
      obtain ⟨F', j1, j2⟩ := k4 ob c' G' m rp sl
      exact q _ (y3 σ S3 _ F' (gf3.trans j2) j1 (.refl _ _))
    · exact y3.elim
  · exact y3.elim
/-! ### x[a].append(e) -/
def app1 (i : Nat) (d0 : D) (j : Nat) (c d : D) (r : DL.Env) : Res D := if d.sh = true then (match c with
  | .lst true cs => if cs.length < sizeLine then .ok .non (r.set i (some (setD d0 j (.lst true (cs ++ [d]))))) else .stk
  | _ => .stk) else .stk
def isLs : D → Bool
  | .lst _ _ => true
  | _ => false
def eApp1 (i : Nat) (PA PV : EP) : EE := fun r => if hasS i r = true then ((PA r).up r).bind fun ka r1 => match foc i ka r1 with
  | some (d0, j, c) => if isLs c = true then ((PV r1).up r1).bind fun d r2 => app1 i d0 j c d r2 else .stk
  | none => .stk else .stk
theorem n_app1 (i : Nat) {k : Nat} (hr : Room k X.A) {PA PV : EP} (hpa : DP X W a PA) (hpv : DP X W e PV) (hN : X.N[i]? = some x := by rfl) (hv : Vis X.env.scope x := by first | exact Or.inl rfl | exact Or.inr (Or.inl rfl) | exact Or.inr (Or.inr rfl))
    (hd : (x == ("__debug__" : Str)) = false := by decide) (hcd : (x == ("__classdict__" : Str)) = false := by decide) (hix : PlainIx a := by intro _ _; rfl)
    (hbase : attributeBase (.Subscript (.Name x p) a xpos) "append" X.env (eval (.Subscript (.Name x p) a xpos) X.env) = eval (.Subscript (.Name x p) a xpos) X.env := by rfl)
    (hfew : ((backTo pos (starEach [e] X.env)).all (fun x => !x.1) && (backToKw pos (keywordEach [] X.env)).all (fun x => x.1.isSome)
      && decide ([e].length + ([] : List Keyword).length + (if ([] : List Keyword).isEmpty then 0 else 1) < 30)) = true := by rfl)
    (hline : (apos.endLine == pos.line) = true := by rfl) (hs : starEach [e] X.env = (false, eval e X.env) :: starEach [] X.env := by rfl) (hplain : (backTo pos (starEach [] X.env)).any (·.1) = false := by rfl) :
    DE X W (.Call (.Attribute (.Subscript (.Name x p) a xpos) "append" apos) [e] [] pos) (eApp1 i PA PV) := by
  have hu : X.A.units + 1 < cLine := by have := hr.un; omega
  obtain ⟨t2, h2, z2⟩ := hpa; obtain ⟨t3, h3, z3⟩ := hpv
  refine ⟨_, pe_bm PySem.F.plainAttrs_list PySem.F.slot_list_append PySem.F.type_list_append mt_append (pe_ix (ix_D hu) (pe_var hN hv hd hcd) h2 hix) (pa_cons h3 pa_nil hs) hbase hfew hline hs hplain, fun S H r σ F Q q y => ?_⟩
  have y : EP1 (Rep X.K) X W S H F σ Q (if hasS i r = true then ((PA r).up r).bind fun ka r1 => match foc i ka r1 with
    | some (d0, j, c) => if isLs c = true then ((PV r1).up r1).bind fun d r2 => app1 i d0 j c d r2 else .stk
    | none => .stk else .stk) := y
  split at y
  case isFalse => exact y.elim
  case isTrue hl =>
  obtain ⟨c0, ec⟩ : ∃ c0, r[i]? = some (some c0) := by
    unfold hasS at hl
    split at hl
    · exact ⟨_, by assumption⟩
    · cases hl
  obtain ⟨v0, T0, s0, _⟩ := q.get ec
  refine ⟨v0, s0, z2 S H r σ F _ q (EP1.bindP (Go.refl _ _ _) q y fun ka b S2 H2 T2 g2 f2 hka y2 => ?_)⟩
  have x2 := q.ext0 g2 f2
  have gf2 := go_side g2 F
  split at y2
  case h_2 => exact y2.elim
  case h_1 d0 j c ef =>
  obtain ⟨q1, q2, q3, q4⟩ := foc_at ef
  obtain ⟨v0', bb, G0, k1, k2, _, kq, ad, _⟩ := x2.own1 q1 q2 q3 q4 hka
  rw [s0] at k1
  cases k1
  split at y2
  case isFalse => exact y2.elim
  case isTrue hls =>
  have ty : tyV X.K "list" (.ref bb) H2 := by
    cases c with
    | lst o ds => exact tyV_lst k2
    | _ => cases hls
  refine kq _ ⟨ty, z3 S2 H2 r σ F _ x2 (EP1.bindP gf2 x2 y2 fun d w S3 H3 T3 g3 f3 hw y3 => ?_)⟩
  have x3 := x2.ext0 g3 f3
  have gf3 := gf2.trans (go_side g3 F)
  obtain ⟨v0', bb', G, k1, k2', k3, _, ad', k4⟩ := x3.own1 q1 q2 q3 q4 (Rep.go g3 f2 ka b T2 (fun _ _ z => nomatch z) hka)
  rw [s0] at k1
  cases k1
  have eb : bb' = bb := AddrAt.eq g3 ad ad'
  subst eb
  unfold app1 at y3
  split at y3
  case isFalse => exact y3.elim
  case isTrue hsh =>
  have eT : T3 = [] := Rep.sh d w T3 hsh hw
  subst eT
  split at y3
  case h_2 => exact y3.elim
  case h_1 cs =>
  split at y3
  case isFalse => exact y3.elim
  case isTrue hz =>
  obtain ⟨a0, vs, G0', ea, ha, eG, rl⟩ := k2'
  cases ea
  cases eG
  have rl2 : RepL X.K S3 H3 (cs ++ [d]) (vs ++ [w]) G := by simpa using rl.append (RepL.one hw)
  obtain ⟨F', j1, j2⟩ := k4 (.lst (vs ++ [w])) (.lst true (cs ++ [d])) G trivial ⟨bb', _, G, rfl, upd_same, rfl, rl2.upd k3 (.refl _)⟩ (.refl _)
  refine ⟨bb', vs, w, rfl, rfl, ha, by rw [← rl.len]; exact hz, y3 .non S3 _ F' [] (gf3.trans j2) j1 ⟨rfl, rfl⟩ (by simpa using j1.ft)⟩
end
end DL

/-! DX22: dicts walked: by keys, values, items. -/
namespace DL
open PySem PySem.Spec PyProof.Rows L2
section
variable {X : Cx} {W : WT} {fx : List Nat} {K : PySem.W.Frag} {tb : List Addr} {e a b c o tg : Expr} {es : List Expr} {S S' S1 : Addr → Prop} {H H' H1 : Hp} {F F' F1 T : Fp} {σ : L2.St} {r : DL.Env} {pos p p2 apos cpos tpos xpos : Pos} {x : Str}
/-- a locked dict that stays -/
def DcP (K : PySem.W.Frag) (a : Addr) (o : Obj) (t : Bool) (ks : List DKey) (vs : List V) (ds : List D) : (Addr → Prop) → Hp → Prop := fun S H => H a = some (.frz o (dicO t ks vs)) ∧ S a ∧ RepL K S H ds vs []
theorem dcP_st {a : Addr} {o : Obj} {t : Bool} {ks : List DKey} {vs : List V} {ds : List D} : ∀ S2 H2 F2 S3 H3 F3, DcP K a o t ks vs ds S2 H2 → Ft S2 H2 ([] ++ F2) → Go S2 H2 F2 S3 H3 F3 → DcP K a o t ks vs ds S3 H3 := fun S2 H2 F2 S3 H3 F3 p f g =>
  ⟨g.fr _ _ p.1 (fun z => f.right.dj a z p.2.1) trivial, g.sS a p.2.1, RepL.go g f.right ds vs [] (fun _ z => nomatch z) p.2.2⟩
theorem rep_kD {k : Key} : Rep K S H (kD k) (kV k) [] := by cases k <;> exact ⟨rfl, rfl⟩
theorem rep_kDs : ∀ {q : DKey}, RepL K S H (q.map kD) (q.map kV) []
  | [] => ⟨rfl, rfl⟩
  | k :: q => ⟨_, _, [], [], rfl, rfl, rep_kD, rep_kDs⟩
/-! ### keys -/
theorem itok_keys {a : Addr} {o : Obj} {ks : List DKey} {vs : List V} {ds : List D} (hl : ks.length = vs.length) : ItOk K (Itk a o ((ks.map hdK).zip vs)) (DcP K a o false ks vs ds) (ks.map (keyD false)) := by
  have hz : ((ks.map hdK).zip vs).length = ks.length := by rw [List.length_zip, List.length_map, ← hl, Nat.min_self]
  refine ⟨fun i d S H e q sd => ?_, fun S H q => ⟨q.1, by rw [hz, List.length_map]; exact Nat.le_refl _⟩⟩
  rw [List.getElem?_map] at e
  obtain ⟨k, ek, rfl⟩ := Option.map_eq_some_iff.mp e
  have hi : i < ks.length := (List.getElem?_eq_some_iff.mp ek).1
  refine ⟨⟨q.1, by rw [hz]; exact hi⟩, fun x H' ⟨eH, k', v, ekv, ex⟩ => ?_⟩
  subst eH ex
  rw [List.getElem?_zip_eq_some] at ekv
  obtain ⟨e1, e2⟩ := ekv
  rw [List.getElem?_map, ek] at e1
  cases e1
  exact ⟨.refl _ _ _, sd, rep_kD⟩
theorem itok_keysT {a : Addr} {o : Obj} {ks : List DKey} {vs : List V} {ds : List D} (hl : ks.length = vs.length) : ItOk K (Itkt a o (ks.zip vs)) (DcP K a o true ks vs ds) (ks.map (keyD true)) := by
  have hz : (ks.zip vs).length = ks.length := by rw [List.length_zip, ← hl, Nat.min_self]
  refine ⟨fun i d S H e q sd => ?_, fun S H q => ⟨q.1, by rw [hz, List.length_map]; exact Nat.le_refl _⟩⟩
  rw [List.getElem?_map] at e
  obtain ⟨k, ek, rfl⟩ := Option.map_eq_some_iff.mp e
  have hi : i < ks.length := (List.getElem?_eq_some_iff.mp ek).1
  refine ⟨⟨q.1, by rw [hz]; exact hi⟩, fun x H' ⟨eH, k', v, b, ekv, ex, hb⟩ => ?_⟩
  subst eH ex
  rw [List.getElem?_zip_eq_some] at ekv
  obtain ⟨e1, e2⟩ := ekv
  rw [ek] at e1
  cases e1
  exact ⟨.refl _ _ _, sd, b, _, rfl, hb, rep_kDs⟩
theorem itok_vals {a : Addr} {o : Obj} {ks : List DKey} {vs : List V} {ds : List D} (hl : ks.length = vs.length) (hd : ds.length = vs.length) : ItOk K (Itd a o ((ks.map hdK).zip vs)) (DcP K a o false ks vs ds) ds := by
  have hz : ((ks.map hdK).zip vs).length = ds.length := by rw [List.length_zip, List.length_map, hl, Nat.min_self, hd]
  refine ⟨fun i d S H e q sd => ?_, fun S H q => ⟨q.1, by rw [hz]; exact Nat.le_refl _⟩⟩
  have hi : i < ds.length := (List.getElem?_eq_some_iff.mp e).1
  obtain ⟨v, ev, rv⟩ := q.2.2.items e
  refine ⟨⟨q.1, by rw [hz]; exact hi⟩, fun x H' ⟨eH, k', ekv⟩ => ?_⟩
  subst eH
  rw [List.getElem?_zip_eq_some] at ekv
  rw [ev] at ekv
  cases ekv.2
  exact ⟨.refl _ _ _, sd, rv⟩
def pairD (p : DKey × D) : D := .tup [keyD false p.1, p.2]
theorem itok_items {a : Addr} {o : Obj} {ks : List DKey} {vs : List V} {ds : List D} (hl : ks.length = vs.length) (hd : ds.length = vs.length) : ItOk K (Iti a o ((ks.map hdK).zip vs)) (DcP K a o false ks vs ds) ((ks.zip ds).map pairD) := by
  have hz : ((ks.map hdK).zip vs).length = (ks.zip ds).length := by rw [List.length_zip, List.length_zip, List.length_map, hd]
  refine ⟨fun i d S H e q sd => ?_, fun S H q => ⟨q.1, by rw [hz, List.length_map]; exact Nat.le_refl _⟩⟩
  rw [List.getElem?_map] at e
  obtain ⟨⟨k, d'⟩, ek, rfl⟩ := Option.map_eq_some_iff.mp e
  have hi : i < (ks.zip ds).length := (List.getElem?_eq_some_iff.mp ek).1
  rw [List.getElem?_zip_eq_some] at ek
  obtain ⟨v, ev, rv⟩ := q.2.2.items ek.2
  refine ⟨⟨q.1, by rw [hz]; exact hi⟩, fun x H' ⟨pp, k', v', ekv, ex, hp, eH⟩ => ?_⟩
  subst eH ex
  rw [List.getElem?_zip_eq_some] at ekv
  obtain ⟨e1, e2⟩ := ekv
  rw [List.getElem?_map, ek.1] at e1
  rw [ev] at e2
  cases e1; cases e2
  refine ⟨go_new sd hp [] (fun _ z => nomatch z), sd_new sd, ?_⟩
  exact rep_tup (ds := [keyD false k, d']) sd hp ⟨_, _, [], [], rfl, rfl, rep_kD, _, _, [], [], rfl, rfl, rv, rfl, rfl⟩
def keysE (d : D) (r : DL.Env) : Res (List D) := match d with
  | .dic false t ks _ => .ok (ks.map (keyD t)) r
  | _ => .stk
def valsE (d : D) (r : DL.Env) : Res (List D) := match d with
  | .dic false false _ ds => .ok ds r
  | _ => .stk
def itmsE (d : D) (r : DL.Env) : Res (List D) := match d with
  | .dic false false ks ds => .ok ((ks.zip ds).map pairD) r
  | _ => .stk
def iKs (E : EE) : DL.Env → Res (List D) := fun r => (E r).bind keysE
def iVs (E : EE) : DL.Env → Res (List D) := fun r => (E r).bind valsE
def iIs (E : EE) : DL.Env → Res (List D) := fun r => (E r).bind itmsE
theorem n_iks {E : EE} (h : DE X W e E) : DI X W tg e (iKs E) := by
  obtain ⟨t, q, z⟩ := h
  refine ⟨_, pi_keys q, fun S H r σ F R x y => z S H r σ F _ x (IP1.bind y fun d r1 v S1 H1 F1 T1 g1 x1 h1 f1 y1 => ?_)⟩
  unfold keysE at y1
  split at y1
  · rename_i t ks ds
    obtain ⟨e0, hl, hk, a, vs, rfl, ⟨⟨o, q⟩, s⟩, rl⟩ := h1
    subst e0
    have hv := hl.trans rl.len
    cases t with
    | false => exact ⟨a, o, rfl, .inl ⟨_, q, y1 _ S1 H1 F1 [] _ g1 x1 f1 (itok_keys (ds := ds) hv) ⟨q, s, rl⟩ dcP_st⟩⟩
    | true => exact ⟨a, o, rfl, .inr ⟨_, q, y1 _ S1 H1 F1 [] _ g1 x1 f1 (itok_keysT (ds := ds) hv) ⟨q, s, rl⟩ dcP_st⟩⟩
  · exact y1.elim
theorem n_ivs {E : EE} (h : DE X W e E) (hbase : attributeBase e "values" X.env (eval e X.env) = eval e X.env := by rfl) (hline : (apos.endLine == cpos.line) = true := by rfl) : DI X W tg (.Call (.Attribute e "values" apos) [] [] cpos) (iVs E) := by
  obtain ⟨t, q, z⟩ := h
  refine ⟨_, pi_values q hbase hline, fun S H r σ F R x y => z S H r σ F _ x (IP1.bind y fun d r1 v S1 H1 F1 T1 g1 x1 h1 f1 y1 => ?_)⟩
  unfold valsE at y1
  split at y1
  · rename_i ks ds
    obtain ⟨e0, hl, hk, a, vs, rfl, ⟨⟨o, q⟩, s⟩, rl⟩ := h1
    subst e0
    exact ⟨a, o, _, rfl, q, y1 _ S1 H1 F1 [] _ g1 x1 f1 (itok_vals (hl.trans rl.len) rl.len) ⟨q, s, rl⟩ dcP_st⟩
  · exact y1.elim
theorem n_iis {E : EE} {elts : List Expr} {kk : Nat} (h : DE X W e E) (hbase : attributeBase e "items" X.env (eval e X.env) = eval e X.env := by rfl) (hline : (apos.endLine == cpos.line) = true := by rfl) : DI X W (.Tuple elts kk tpos) (.Call (.Attribute e "items" apos) [] [] cpos) (iIs E) := by
  obtain ⟨t, q, z⟩ := h
  refine ⟨_, pi_items q hbase hline, fun S H r σ F R x y => z S H r σ F _ x (IP1.bind y fun d r1 v S1 H1 F1 T1 g1 x1 h1 f1 y1 => ?_)⟩
  unfold itmsE at y1
  split at y1
  · rename_i ks ds
    obtain ⟨e0, hl, hk, a, vs, rfl, ⟨⟨o, q⟩, s⟩, rl⟩ := h1
    subst e0
    exact ⟨a, o, _, rfl, q, y1 _ S1 H1 F1 [] _ g1 x1 f1 (itok_items (hl.trans rl.len) rl.len) ⟨q, s, rl⟩ dcP_st⟩
  · exact y1.elim
end
end DL

/-! DX23: dict(d), dict(a list of pairs). -/
namespace DL
open PySem PySem.Spec PyProof.Rows L2
section
variable {X : Cx} {W : WT} {fx : List Nat} {K : PySem.W.Frag} {S S' S1 : Addr → Prop} {H H' H1 : Hp} {F F' F1 T : Fp}
def rDictD : List V → Hp → VK → Prop := fun xs H Q => ∃ (a : Addr) (kvs : List (Key × V)), xs = [V.ref a] ∧ Rd H a (.dK kvs) ∧ ∀ p, H p = none → Q (.ref p) (upd H p (.dK kvs))
def dDictD : List D → Option D
  | [.dic _ false ks ds] => if D.shL ds = true then some (.dic true false ks ds) else none
  | _ => none
theorem vl_dictD : VL K rDictD dDictD := by
  intro S H ds vs T1 Q sd h ⟨d, e, k⟩
  unfold dDictD at e
  split at e
  · rename_i o ks ds'
    split at e
    · rename_i hsh
      cases e
      obtain ⟨v, r, F1, F2, rfl, e2, h1, h2⟩ := h
      obtain ⟨a, ws, G, rfl, hr, rl, hG, hl, hk⟩ := h1.dic_at
      have eG : G = [] := RepL.sh ds' ws G hsh rl
      subst eG
      rw [h2.1]
      refine ⟨a, _, rfl, hr, fun p hp => ?_⟩
      have g := go_new (S := S) sd hp [p] (fun _ z => by simpa using z) (o := dicO false ks ws)
      refine k (.ref p) S _ [p] g ⟨hl, hk, p, ws, [], rfl, upd_same, rfl, ?_⟩ (ft_newO sd hp trivial)
      exact RepL.go (go_new (F' := []) sd hp (fun _ z => nomatch z)) (Ft.nil sd) ds' ws [] (fun _ _ z => nomatch z) rl
    · cases e
  · cases e
/-! ### of pairs -/
def pairOf : D → Option (DKey × D)
  | .tup [k, d] => (dK1 k).map fun q => ([q], d)
  | _ => none
def pairsOf : List D → Option (List (DKey × D))
  | [] => some []
  | d :: ds => (pairOf d).bind fun p => (pairsOf ds).map (p :: ·)
def mergeD : List (DKey × D) → List DKey → List D → List DKey × List D
  | [], ks, ds => (ks, ds)
  | p :: ps, ks, ds => mergeD ps (putKs ks p.1) (putVs ks ds p.1 p.2)
def dDictP : List D → Option D
  | [.lst _ ds] => if D.shL ds = true then (pairsOf ds).map fun ps => .dic true false (mergeD ps [] []).1 (mergeD ps [] []).2 else none
  | _ => none
def rDictP (K : PySem.W.Frag) : List V → Hp → VK → Prop := fun xs H Q => ∃ (a : Addr) (ps : List Addr) (kvs : List (Key × V)), xs = [V.ref a] ∧ SqL K H a (ps.map V.ref) ∧ Paired (fun p kv => SqT K H p [kV kv.1, kv.2]) ps kvs ∧
    ∀ p, H p = none → Q (.ref p) (upd H p (.dK (mergeK [] kvs)))
theorem pairs_at : ∀ {ds : List D} {vs : List V} {ps : List (DKey × D)}, pairsOf ds = some ps → RepL K S H ds vs [] → ∃ (as : List Addr) (kvs : List (Key × V)), vs = as.map V.ref ∧ Paired (fun p kv => SqT K H p [kV kv.1, kv.2]) as kvs ∧
    ps.map (·.1) = kvs.map (fun kv => [kv.1]) ∧ RepL K S H (ps.map (·.2)) (kvs.map (·.2)) []
  | [], vs, ps, e, h => by cases e; obtain ⟨rfl, _⟩ := h; exact ⟨[], [], rfl, .nil, rfl, rfl, rfl⟩
  | d :: ds, vs, ps, e, h => by
    obtain ⟨v, r, F1, F2, rfl, e2, h1, h2⟩ := h
    obtain ⟨rfl, rfl⟩ := List.append_eq_nil_iff.mp e2.symm
    obtain ⟨p, ep, e⟩ := Option.bind_eq_some_iff.mp e
    obtain ⟨ps', eps, rfl⟩ := Option.map_eq_some_iff.mp e
    obtain ⟨as, kvs, rfl, pr, k1, k2⟩ := pairs_at eps h2
    unfold pairOf at ep
    split at ep
    · rename_i k d'
      obtain ⟨q, eq, rfl⟩ := Option.map_eq_some_iff.mp ep
      obtain ⟨a, ws, rfl, ha, rl⟩ := h1
      obtain ⟨v1, r1, A1, A2, rfl, ea, j1, v2, r2, A3, A4, rfl, eb, j2, j3, rfl⟩ := rl
      have hz := List.append_eq_nil_iff.mp ea.symm
      obtain ⟨rfl, rfl⟩ := hz
      have hz := List.append_eq_nil_iff.mp eb.symm
      obtain ⟨rfl, _⟩ := hz
      subst j3
      obtain ⟨rfl, _⟩ := dK1_rep eq j1
      exact ⟨a :: as, (q, v2) :: kvs, rfl, .cons (.inl (.inl ha)) pr, by simp [k1], v2, _, [], [], rfl, rfl, j2, k2⟩
    · cases ep
theorem put_zipK {ks : List DKey} {vs : List V} {k : Key} {w : V} (hk : ∀ q ∈ ks, q.length = 1) (hl : ks.length = vs.length) : putK ((ks.map hdK).zip vs) k w = ((putKs ks [k]).map hdK).zip (putVs ks vs [k] w) := by
  have hl' : (ks.map hdK).length = vs.length := by simpa using hl
  unfold putK putKs putVs
  rw [valV_any, look_dK hk hl, look_mem hl]
  split
  · exact zip_replK hk
  · rw [List.map_append, List.map_singleton, ← zip_snoc hl']; rfl
theorem merge_at : ∀ {ps : List (DKey × D)} {kvs : List (Key × V)} {ks : List DKey} {ds : List D} {vs : List V}, ps.map (·.1) = kvs.map (fun kv => [kv.1]) → RepL K S H (ps.map (·.2)) (kvs.map (·.2)) [] → RepL K S H ds vs [] → ks.length = ds.length → (∀ q ∈ ks, q.length = 1) →
    ∃ ws, mergeK ((ks.map hdK).zip vs) kvs = ((mergeD ps ks ds).1.map hdK).zip ws ∧ RepL K S H (mergeD ps ks ds).2 ws [] ∧ (mergeD ps ks ds).1.length = (mergeD ps ks ds).2.length ∧ ∀ q ∈ (mergeD ps ks ds).1, q.length = 1
  | [], [], ks, ds, vs, _, _, rl, hl, hk => ⟨vs, rfl, rl, hl, hk⟩
  | [], _ :: _, _, _, _, e, _, _, _, _ => by simp at e
  | _ :: _, [], _, _, _, e, _, _, _, _ => by simp at e
  | p :: ps, kv :: kvs, ks, ds, vs, e, rp, rl, hl, hk => by
    obtain ⟨e1, e2⟩ := List.cons.inj (show p.1 :: ps.map (·.1) = [kv.1] :: kvs.map (fun kv => [kv.1]) from e)
    obtain ⟨v, r, F1, F2, ev, ef, h1, h2⟩ := rp
    obtain ⟨rfl, rfl⟩ := List.append_eq_nil_iff.mp ef.symm
    obtain ⟨rfl, rfl⟩ := List.cons.inj (show kv.2 :: kvs.map (·.2) = v :: r from ev)
    obtain ⟨G', rl', sl⟩ := RepL.put (ks := ks) (q := p.1) rl h1
    have eG : G' = [] := by cases sl; rfl
    subst eG
    have hk' : ∀ q ∈ putKs ks p.1, q.length = 1 := by
      intro q hq
      unfold putKs at hq
      split at hq
      · exact hk q hq
      · rcases List.mem_append.mp hq with hq | hq
        · exact hk q hq
        · rw [List.mem_singleton.mp hq, e1]; rfl
    obtain ⟨ws, k1, k2, k3, k4⟩ := merge_at (ps := ps) (kvs := kvs) (ks := putKs ks p.1) (ds := putVs ks ds p.1 p.2) e2 h2 rl' (put_len hl) hk'
    refine ⟨ws, ?_, k2, k3, k4⟩
    show mergeK (putK _ kv.1 kv.2) kvs = _
    rw [put_zipK hk (hl.trans rl.len), ← e1]
    exact k1
theorem vl_dictP : VL K (rDictP K) dDictP := by
  intro S H ds vs T1 Q sd h ⟨d, e, k⟩
  unfold dDictP at e
  split at e
  · rename_i o ds'
    split at e
    · rename_i hsh
      obtain ⟨ps, eps, rfl⟩ := Option.map_eq_some_iff.mp e
      obtain ⟨v, r, F1, F2, rfl, e2, h1, h2⟩ := h
      obtain ⟨a, ws, rfl, ha, rl⟩ := h1.lst_at hsh
      rw [h2.1]
      obtain ⟨as, kvs, rfl, pr, k1, k2⟩ := pairs_at eps rl
      obtain ⟨us, m1, m2, m3, m4⟩ := merge_at (ks := []) (ds := []) (vs := []) k1 k2 ⟨rfl, rfl⟩ rfl (fun _ z => nomatch z)
      refine ⟨a, as, kvs, rfl, .inl (.inl ha), pr, fun p hp => ?_⟩
      have m1 : mergeK [] kvs = ((mergeD ps [] []).1.map hdK).zip us := by simpa using m1
      rw [m1]
      have g := go_new (S := S) sd hp [p] (fun _ z => by simpa using z) (o := dicO false (mergeD ps [] []).1 us)
      refine k (.ref p) S _ [p] g ⟨m3, .inr m4, p, us, [], rfl, upd_same, rfl, ?_⟩ (ft_newO sd hp trivial)
      exact RepL.go (go_new (F' := []) sd hp (fun _ z => nomatch z)) (Ft.nil sd) _ us [] (fun _ _ z => nomatch z) m2
    · cases e
  · cases e
def dDict (ds : List D) : Option D := (dDictD ds).or (dDictP ds)
theorem cr_dict (hc : X.calm = true) : CallR X (.type "dict") (fun xs H Q => rDictD xs H Q ∨ rDictP X.K xs H Q) := call_dictD.or (call_dictP hc)
theorem vl_dict : VL K (fun xs H Q => rDictD xs H Q ∨ rDictP K xs H Q) dDict := vl_dictD.or' vl_dictP
end
end DL

/-! DX24: dict comprehensions. -/
namespace DL
open PySem PySem.Spec PyProof.Rows L2
def dcL (G : D → Env → Option Env) (T : BE) (EK EV : EE) (vs : List Nat) : List D → List DKey → List D → Env → Res (List DKey × List D)
  | [], ks, acc, r => .ok (ks, acc) r
  | d :: ds, ks, acc, r => match G d r with
    | some r1 => (T r1).bindS fun b r2 => if b = true then (EK r2).bindS fun k r3 => (EV r3).bindS fun x r4 => if ks.length < sizeLine then (match dKey false k with
        | some q => if hasK ks q = false ∨ x.sh = true then dcL G T EK EV vs ds (putKs ks q) (putVs ks acc q x) (wipeE r4 vs) else .stk
        | none => .stk) else .stk else dcL G T EK EV vs ds ks acc (wipeE r2 vs)
    | none => .stk
def eDc (G : D → Env → Option Env) (T : BE) (EK EV : EE) (vs : List Nat) (I : Env → Res (List D)) : EE := fun r => (I r).bind fun ds r1 => (dcL G T EK EV vs ds [] [] (wipeE r1 vs)).bind fun p r2 => .ok (.dic true false p.1 p.2) (resE r1 r2 vs)
section
variable {X : Cx} {W : WT} {K : PySem.W.Frag} {tb : List Addr} {e a b c tg : Expr} {es : List Expr} {S S' S1 S2 : Addr → Prop} {H H' H1 H2 : Hp} {F F' F1 F2 T : Fp} {σ : L2.St} {r : Env} {pos p p2 : Pos} {x : Str}
/-- the dict that grows at D0 -/
structure Bdd (K : PySem.W.Frag) (P : (Addr → Prop) → Hp → Prop) (T1 : Fp) (D0 : Addr) (S : Addr → Prop) (H : Hp) (ks : List DKey) (acc : List D) (vs : List V) (G F : Fp) : Prop where
  hl : ks.length = acc.length
  hk : ∀ q ∈ ks, q.length = 1
  hD : H D0 = some (dicO false ks vs)
  rl : RepL K S H acc vs G
  ft : Ft S H ((D0 :: G) ++ (T1 ++ F))
  p : P S H
section
variable {P : (Addr → Prop) → Hp → Prop} {T1 : Fp} {D0 : Addr} {ks : List DKey} {acc : List D} {vs : List V} {G : Fp}
theorem Bdd.step (h : Bdd K P T1 D0 S H ks acc vs G F) (st : ∀ S1 H1 F1 S2 H2 F2, P S1 H1 → Ft S1 H1 (T1 ++ F1) → Go S1 H1 F1 S2 H2 F2 → P S2 H2) (g : Go S H F S2 H2 F2) (f : Ft S2 H2 F2) : Bdd K P T1 D0 S2 H2 ks acc vs G F2 := by
  have ft : Ft S H (((D0 :: G) ++ T1) ++ F) := by rw [List.append_assoc]; exact h.ft
  have ap := ft.apart
  refine ⟨h.hl, h.hk, g.fr _ _ h.hD (ap D0 (by simp)) ntb_dic, RepL.go g ft.right acc vs G (fun b z => ap b (by simp [z])) h.rl, ?_, st S H F S2 H2 F2 h.p h.ft.right g⟩
  have := ft.frame g f
  rwa [List.append_assoc] at this
theorem Bdd.narrow (h : Bdd K P T1 D0 S H ks acc vs G F) (f : Ft S H F') (s : ∀ b ∈ F', b ∈ F) : Bdd K P T1 D0 S H ks acc vs G F' := by
  refine ⟨h.hl, h.hk, h.hD, h.rl, ?_, h.p⟩
  have ft : Ft S H (((D0 :: G) ++ T1) ++ F) := by rw [List.append_assoc]; exact h.ft
  have := ft.narrow f s
  rwa [List.append_assoc] at this
theorem Bdd.add {T3 : Fp} {d : D} {w : V} {q : Key} (h : Bdd K P T1 D0 S H ks acc vs G (T3 ++ F)) (st : ∀ S1 H1 F1 S2 H2 F2, P S1 H1 → Ft S1 H1 (T1 ++ F1) → Go S1 H1 F1 S2 H2 F2 → P S2 H2) (hd : Rep K S H d w T3) (hc : hasK ks [q] = false ∨ d.sh = true) :
    ∃ G2, Bdd K P T1 D0 S (upd H D0 (dicO false (putKs ks [q]) (putVs ks vs [q] w))) (putKs ks [q]) (putVs ks acc [q] d) (putVs ks vs [q] w) G2 F ∧
      Go S H ((D0 :: G) ++ (T1 ++ (T3 ++ F))) S (upd H D0 (dicO false (putKs ks [q]) (putVs ks vs [q] w))) ((D0 :: G2) ++ (T1 ++ F)) ∧
      (∀ r σ, At K tb S H r σ F → At K tb S (upd H D0 (dicO false (putKs ks [q]) (putVs ks vs [q] w))) r σ F) := by
  have sd := h.ft.sd
  generalize hob : dicO false (putKs ks [q]) (putVs ks vs [q] w) = ob
  have mob : Mt (some ob) := by rw [← hob]; exact mt_dic
  obtain ⟨G2, rl2, sl⟩ : ∃ G2, RepL K S H (putVs ks acc [q] d) (putVs ks vs [q] w) G2 ∧ G2.Sublist (G ++ T3) := by
    by_cases c : hasK ks [q] = true
    · have hs : d.sh = true := hc.resolve_left (by rw [c]; decide)
      have e3 : T3 = [] := Rep.sh d w T3 hs hd
      subst e3
      obtain ⟨G', k1, k2⟩ := RepL.put (ks := ks) (q := [q]) h.rl hd
      exact ⟨G', k1, by simpa using k2⟩
    · unfold putVs
      rw [if_neg c, if_neg c]
      exact ⟨G ++ T3, h.rl.append (RepL.one hd), .refl _⟩
  have pm : ((D0 :: G) ++ (T1 ++ (T3 ++ F))).Perm ([D0] ++ ((G ++ T3) ++ (T1 ++ F))) := by
    refine List.Perm.cons D0 ?_
    show (G ++ (T1 ++ (T3 ++ F))).Perm ((G ++ T3) ++ (T1 ++ F))
    rw [List.append_assoc]
    exact List.Perm.append_left G (List.perm_append_comm_assoc T1 T3 F)
  have ft0 := h.ft.perm pm
  have sl2 : ([D0] ++ (G2 ++ (T1 ++ F))).Sublist ([D0] ++ ((G ++ T3) ++ (T1 ++ F))) := List.Sublist.append (.refl _) (List.Sublist.append sl (.refl _))
  have ft : Ft S H ([D0] ++ (G2 ++ (T1 ++ F))) := ⟨ft0.nd.sublist sl2, fun b z => ft0.dj b (sl2.subset z), fun b z => ft0.mu b (sl2.subset z), ft0.sd⟩
  have g : Go S H [D0] S (upd H D0 ob) [D0] := upd_goM sd (by rw [h.hD]; exact mt_dic)
  have f1 : Ft S (upd H D0 ob) [D0] := ⟨by simp, ft.left.dj, fun b z => by
    have : b = D0 := by simpa using z
    subst this; rw [upd_same]; exact mob, sd_new sd⟩
  have all := (Ft.frame ft.comm g f1).comm
  have ap : ∀ b ∈ G2 ++ (T1 ++ F), b ∉ [D0] := ft.apart'
  refine ⟨G2, ⟨put_len h.hl, ?_, by rw [upd_same, ← hob], ?_, all, ?_⟩, ?_, fun r σ q => q.go g ft.left (fun b z => ap b (by simp [z])) all.right.right.right⟩
  · intro p hp
    unfold putKs at hp
    split at hp
    · exact h.hk p hp
    · rcases List.mem_append.mp hp with hp | hp
      · exact h.hk p hp
      · rw [List.mem_singleton.mp hp]; rfl
  · exact RepL.go g ft.left _ _ G2 (fun b z => ap b (by simp [z])) rl2
  · refine st S H [D0] S _ [D0] h.p ?_ g
    have : Ft S H ([D0] ++ ((T1 ++ F) ++ G2)) := ft.perm (List.Perm.append_left _ List.perm_append_comm)
    rw [List.append_assoc, ← List.append_assoc] at this
    exact this.left.comm
  · have := g.frameR ((G ++ T3) ++ (T1 ++ F))
    exact (this.wide fun b z => pm.mem_iff.mpr z).sub fun b z => sl2.subset z
end
theorem rd_dc {vs ws : List Nat} {wi : TI} {I : Env → Res (List D)} {G : D → Env → Option Env} {Tt : Env → Res Bool} {EK EV : Env → Res D} (zi : ∀ S H r σ F R, At X.K W.tb S H r σ F → IP1 X W S H F σ R (I r) → wi σ H R) (hws : ∀ j ∈ ws, j ∈ vs) :
    RdE X W (tDc wi (tG X ws G) (tT X (W0 W.tb) Tt) (tE X (W0 W.tb) EK) (tE X (W0 W.tb) EV) vs) (eDc G Tt EK EV vs I) := by
  intro S H r σ F Q x y
  refine zi S H r σ F _ x ?_
  have y : EP1 (Rep X.K) X W S H F σ Q ((I r).bind fun ds r1 => (dcL G Tt EK EV vs ds [] [] (wipeE r1 vs)).bind fun p r2 => .ok (.dic true false p.1 p.2) (resE r1 r2 vs)) := y
  cases eI : I r with
  | stk => rw [eI] at y; exact y
  | exc c r1 => rw [eI] at y; exact y
  | ok ds r1 =>
    rw [eI] at y
    intro J S1 H1 F1 T1 P g1 x1 f1 it p0 st D0 hD0
    have y : EP1 (Rep X.K) X W S H F σ Q ((dcL G Tt EK EV vs ds [] [] (wipeE r1 vs)).bind fun p r2 => .ok (.dic true false p.1 p.2) (resE r1 r2 vs)) := y
    refine ⟨fun i m H' => m = ds.length - i ∧ i ≤ ds.length ∧ ∃ S' r' F' ks acc ns G', Bdd X.K P T1 D0 S' H' ks acc ns G' F' ∧ At X.K W.tb S' H' (wipeE r' vs) (L2.wipe σ vs) F' ∧ Go S1 H1 (T1 ++ F1) S' H' ((D0 :: G') ++ (T1 ++ F')) ∧
      EP1 (Rep X.K) X W S H F σ Q ((dcL G Tt EK EV vs (ds.drop i) ks acc (wipeE r' vs)).bind fun p r2 => .ok (.dic true false p.1 p.2) (resE r1 r2 vs)), ⟨ds.length, by simp, Nat.zero_le _, ?_⟩, ?_⟩
    · obtain ⟨F1', q1, s1⟩ := x1.wiped vs
      have gn : Go S1 H1 [] S1 (upd H1 D0 (.dK [])) [D0] := go_new x1.ft.sd hD0 [D0] (fun _ z => by simpa using z)
      have fn : Ft S1 (upd H1 D0 (.dK [])) [D0] := ft_newO x1.ft.sd hD0 trivial
      have f2 : Ft S1 H1 (T1 ++ F1') := f1.narrow q1.ft s1
      have f3 : Ft S1 (upd H1 D0 (.dK [])) ((T1 ++ F1') ++ [D0]) := Ft.frame (T := T1 ++ F1') (F := []) (by simpa using f2) gn fn
      refine ⟨S1, r1, F1', [], [], [], [], ⟨rfl, (fun _ z => nomatch z), upd_same, ⟨rfl, rfl⟩, f3.comm, ?_⟩, q1.ext gn fn, ?_, y⟩
      · exact st S1 H1 [] S1 _ [D0] p0 (by simpa using f1.left) gn
      · have g2 : Go S1 H1 (T1 ++ F1) S1 (upd H1 D0 (.dK [])) ((T1 ++ F1) ++ [D0]) := by simpa using gn.frame (T1 ++ F1)
        refine g2.sub fun b z => ?_
        simp only [List.mem_append, List.mem_cons, List.mem_singleton] at z ⊢
        rcases z with (rfl | z) | z | z
        · exact .inr (.inl rfl)
        · exact absurd z (by simp)
        · exact .inl (.inl z)
        · exact .inl (.inr (s1 b z))
    · rintro i m H3 ⟨rfl, hi, S3, r3, F3, ks, acc, ns, G3, bd, x3, g3, y3⟩
      by_cases hlt : i < ds.length
      · have ed : ds[i]? = some ds[i] := List.getElem?_eq_getElem hlt
        obtain ⟨hgo, hyl⟩ := it.item i ds[i] S3 H3 ed bd.p bd.ft.sd
        refine .inr ⟨hgo, fun H' => i + 1 ≤ ds.length ∧ ∃ S' r' F' ks acc ns G', Bdd X.K P T1 D0 S' H' ks acc ns G' F' ∧ At X.K W.tb S' H' (wipeE r' vs) (L2.wipe σ vs) F' ∧ Go S1 H1 (T1 ++ F1) S' H' ((D0 :: G') ++ (T1 ++ F')) ∧
          EP1 (Rep X.K) X W S H F σ Q ((dcL G Tt EK EV vs (ds.drop (i + 1)) ks acc (wipeE r' vs)).bind fun p r2 => .ok (.dic true false p.1 p.2) (resE r1 r2 vs)), fun H' nx => ⟨ds.length - (i + 1), by omega, rfl, nx.1, nx.2⟩, fun v H4 yl => ?_⟩
        obtain ⟨g4, sd4, rd4⟩ := hyl v H4 yl
        have fn4 : Ft S3 H4 [] := Ft.nil sd4
        have x4 := x3.ext0 g4 fn4
        have bd4 : Bdd X.K P T1 D0 S3 H4 ks acc ns G3 F3 := bd.step st (go_side g4 F3) x4.ft
        have g34 : Go S1 H1 (T1 ++ F1) S3 H4 ((D0 :: G3) ++ (T1 ++ F3)) := g3.trans (go_side g4 _)
        have y4 := y3
        rw [show ds.drop i = ds[i] :: ds.drop (i + 1) from List.drop_eq_getElem_cons hlt] at y4
        unfold dcL at y4
        cases eG : G ds[i] (wipeE r3 vs) with
        | none => rw [eG] at y4; exact y4.elim
        | some r5 =>
          rw [eG] at y4
          have y4 : EP1 (Rep X.K) X W S H F σ Q (((Tt r5).bindS fun b r2 => if b = true then (EK r2).bindS fun k r3 => (EV r3).bindS fun x r4 => if ks.length < sizeLine then (match dKey false k with
            | some q => if hasK ks q = false ∨ x.sh = true then dcL G Tt EK EV vs (ds.drop (i + 1)) (putKs ks q) (putVs ks acc q x) (wipeE r4 vs) else .stk
            | none => .stk) else .stk else dcL G Tt EK EV vs (ds.drop (i + 1)) ks acc (wipeE r2 vs)).bind fun p r2 => .ok (.dic true false p.1 p.2) (resE r1 r2 vs)) := y4
          refine ⟨W.tb, S3, wipeE r3 vs, F3, ds[i], [], x4, rd4, x4.ft, r5, eG, fun σ5 F5 q5 s5 o5 l5 => ?_⟩
          have s5 : ∀ b ∈ F5, b ∈ F3 := fun b z => by simpa using s5 b z
          have hw : L2.wipe σ5 vs = L2.wipe σ vs := (wipe_eq (fun j hj => o5 j (fun z => hj (hws j z))) l5).trans (wipe_idem σ vs)
          have bd5 := bd4.narrow q5.ft s5
          have g35 : Go S1 H1 (T1 ++ F1) S3 H4 ((D0 :: G3) ++ (T1 ++ F5)) := g34.sub fun b z => by
            simp only [List.mem_append, List.mem_cons] at z ⊢
            rcases z with z | z | z
            · exact .inl z
            · exact .inr (.inl z)
            · exact .inr (.inr (s5 b z))
          refine ⟨hw, S3, r5, F5, q5, EP1.bindS y4 fun k r6 k' S6 H6 F6 T6 e6 g6 q6 h6 f6 y6 => ?_⟩
          obtain ⟨rfl, rfl⟩ := h6
          have bd6 : Bdd X.K P T1 D0 S6 H6 ks acc ns G3 F6 := bd5.step st g6 f6
          have fr : ∀ {S6 S7 : Addr → Prop} {H6 H7 : Hp} {Z Y : Fp}, Go S6 H6 Z S7 H7 Y → Go S1 H1 (T1 ++ F1) S6 H6 ((D0 :: G3) ++ (T1 ++ Z)) → Go S1 H1 (T1 ++ F1) S7 H7 ((D0 :: G3) ++ (T1 ++ Y)) := fun {S6 S7 H6 H7 Z Y} g g' => by
            have := g.frame ((D0 :: G3) ++ T1)
            rw [List.append_assoc, List.append_assoc] at this
            exact g'.trans this
          have g36 : Go S1 H1 (T1 ++ F1) S6 H6 ((D0 :: G3) ++ (T1 ++ F6)) := fr g6 g35
          cases k with
          | false =>
            have y6 : EP1 (Rep X.K) X W S H F σ Q ((dcL G Tt EK EV vs (ds.drop (i + 1)) ks acc (wipeE r6 vs)).bind fun p r2 => .ok (.dic true false p.1 p.2) (resE r1 r2 vs)) := y6
            obtain ⟨F7, q7, s7⟩ := q6.wiped vs
            rw [hw] at q7
            rw [if_neg Bool.false_ne_true]
            refine ⟨hlt, S6, r6, F7, ks, acc, ns, G3, bd6.narrow q7.ft s7, q7, g36.sub fun b z => ?_, y6⟩
            simp only [List.mem_append, List.mem_cons] at z ⊢
            rcases z with z | z | z
            · exact .inl z
            · exact .inr (.inl z)
            · exact .inr (.inr (s7 b z))
          | true =>
            have y6 : EP1 (Rep X.K) X W S H F σ Q (((EK r6).bindS fun k r3 => (EV r3).bindS fun x r4 => if ks.length < sizeLine then (match dKey false k with
              | some q => if hasK ks q = false ∨ x.sh = true then dcL G Tt EK EV vs (ds.drop (i + 1)) (putKs ks q) (putVs ks acc q x) (wipeE r4 vs) else .stk
              | none => .stk) else .stk).bind fun p r2 => .ok (.dic true false p.1 p.2) (resE r1 r2 vs)) := y6
            rw [if_pos rfl]
            refine ⟨S6, r6, F6, q6, EP1.bindS y6 fun dk rk wk Sk Hk Fk Tk ek gk qk hk fk yk => ?_⟩
            have bdk : Bdd X.K P T1 D0 Sk Hk ks acc ns G3 (Tk ++ Fk) := bd6.step st gk fk
            have g3k : Go S1 H1 (T1 ++ F1) Sk Hk ((D0 :: G3) ++ (T1 ++ (Tk ++ Fk))) := fr gk g36
            have sk : ∀ b ∈ Fk, b ∈ Tk ++ Fk := fun b z => List.mem_append_right _ z
            have bdk := bdk.narrow qk.ft sk
            have g3k : Go S1 H1 (T1 ++ F1) Sk Hk ((D0 :: G3) ++ (T1 ++ Fk)) := g3k.sub fun b z => by
              simp only [List.mem_append, List.mem_cons] at z ⊢
              rcases z with z | z | z
              · exact .inl z
              · exact .inr (.inl z)
              · exact .inr (.inr (.inr z))
            refine ⟨Sk, rk, Fk, qk, EP1.bindS yk fun d7 r7 w7 S7 H7 F7 T7 e7 g7 q7 h7 f7 y7 => ?_⟩
            have bd7 : Bdd X.K P T1 D0 S7 H7 ks acc ns G3 (T7 ++ F7) := bdk.step st g7 f7
            have g37 : Go S1 H1 (T1 ++ F1) S7 H7 ((D0 :: G3) ++ (T1 ++ (T7 ++ F7))) := fr g7 g3k
            by_cases hz : ks.length < sizeLine
            · rw [if_pos hz] at y7
              cases edk : dKey false dk with
              | none => rw [edk] at y7; exact y7.elim
              | some qk' =>
                rw [edk] at y7
                dsimp only at y7
                obtain ⟨kk, rfl, rfl⟩ : ∃ kk, qk' = [kk] ∧ wk = kV kk := by
                  have e : (dK1 dk).map ([·]) = some qk' := by cases dk <;> exact edk
                  obtain ⟨kk, e1, rfl⟩ := Option.map_eq_some_iff.mp e
                  exact ⟨kk, rfl, (dK1_rep e1 hk).1⟩
                split at y7
                case isFalse => exact y7.elim
                case isTrue hcs =>
                obtain ⟨F8, q8, s8⟩ := q7.wiped vs
                rw [hw] at q8
                obtain ⟨G2, b1, b2, b3⟩ := Bdd.add (tb := W.tb) (q := kk) bd7 st h7 hcs
                have hv : ks.length = ns.length := bd7.hl.trans bd7.rl.len
                refine ⟨(ks.map hdK).zip ns, kk, rfl, bd7.hD, by rw [List.length_zip, List.length_map, ← hv, Nat.min_self]; exact hz, hlt, S7, r7, F8, putKs ks [kk], putVs ks acc [kk] d7, putVs ks ns [kk] w7, G2, ?_, ?_, ?_, y7⟩
                · rw [put_zipK bd7.hk hv]
                  exact b1.narrow (show Ft S7 _ F8 from ⟨q8.ft.nd, q8.ft.dj, fun b z => b1.ft.mu b (by simp [s8 b z]), b1.ft.sd⟩) s8
                · rw [put_zipK bd7.hk hv]
                  exact q8.go (upd_goM q7.ft.sd (by rw [bd7.hD]; exact mt_dic)) (show Ft S7 H7 [D0] from ⟨by simp, fun b z => bd7.ft.dj b (by simp at z; simp [z]), fun b z => bd7.ft.mu b (by simp at z; simp [z]), q7.ft.sd⟩)
                    (fun b z y => by
                      have e : b = D0 := by simpa using y
                      subst e
                      have nd := (List.nodup_cons.mp (show (b :: (G3 ++ (T1 ++ (T7 ++ F7)))).Nodup from bd7.ft.nd)).1
                      exact nd (by simp [s8 b z])) (show Ft S7 _ F8 from ⟨q8.ft.nd, q8.ft.dj, fun b z => b1.ft.mu b (by simp [s8 b z]), b1.ft.sd⟩)
                · rw [put_zipK bd7.hk hv]
                  refine (g37.trans b2).sub fun b z => ?_
                  simp only [List.mem_append, List.mem_cons] at z ⊢
                  rcases z with z | z | z
                  · exact .inl z
                  · exact .inr (.inl z)
                  · exact .inr (.inr (s8 b z))
            · rw [if_neg hz] at y7
              exact y7.elim
      · have e : i = ds.length := by omega
        subst e
        refine .inl ⟨it.stop S3 H3 bd.p, ?_⟩
        rw [List.drop_length] at y3
        have ft : Ft S3 H3 ((D0 :: G3) ++ F3) := by
          have h1 : Ft S3 H3 ((D0 :: G3) ++ (T1 ++ F3)) := bd.ft
          exact h1.narrow x3.ft (fun b z => List.mem_append_right _ z)
        obtain ⟨F9, q9, s9⟩ := x3.unwipe.restore (vs := vs) x1 g3 f1
        exact y3 (.ref D0) S3 H3 F9 (D0 :: G3) ((g1.trans g3).sub fun b z => by
          simp only [List.mem_append, List.mem_cons] at z ⊢
          rcases z with z | z
          · exact .inl z
          · exact .inr (.inr (s9 b z))) q9 ⟨bd.hl, .inr bd.hk, D0, ns, G3, rfl, bd.hD, rfl, bd.rl⟩ (ft.narrow q9.ft s9)
theorem n_dc {kx vx iter : Expr} {ifs : List Expr} {scope : Scope} (own : List (Str × Nat)) {ws : List Nat} {I : Env → Res (List D)} {Gt : D → Env → Option Env} {Tt : BE} {EK EV : EE} (hc : X.calm = true) (hN : X.N.Nodup) (hi : DI X W tg iter I)
    (ok : BlkOk X.N X.env.scope scope own) (hg : ∀ (s : Shared) (H : Hp) (C : Addr) (cl : List (Str × Addr)) (fp : List Addr), DG (X.blk s H scope (compEnvC scope cl C X.env) fp) ws tg Gt)
    (ht : ∀ (s : Shared) (H : Hp) (C : Addr) (cl : List (Str × Addr)) (fp : List Addr), DTs (X.blk s H scope (compEnvC scope cl C X.env) fp) (W0 W.tb) ifs Tt)
    (hk : ∀ (s : Shared) (H : Hp) (C : Addr) (cl : List (Str × Addr)) (fp : List Addr), DE (X.blk s H scope (compEnvC scope cl C X.env) fp) (W0 W.tb) kx EK)
    (he : ∀ (s : Shared) (H : Hp) (C : Addr) (cl : List (Str × Addr)) (fp : List Addr), DE (X.blk s H scope (compEnvC scope cl C X.env) fp) (W0 W.tb) vx EV) (hws : ∀ j ∈ ws, j ∈ own.map (·.2) := by decide) (hs : ∀ x, foldedSetIterable iter X.env x = pure x := by intro _; rfl) :
    DE X W (.DictComp kx vx [⟨tg, iter, ifs, 0⟩] scope pos) (eDc Gt Tt EK EV (own.map (·.2)) I) := by
  obtain ⟨wi, qi, zi⟩ := hi
  exact ⟨_, pe_dc hc hN qi ok (fun s H C cl fp => (hg s H C cl fp).pg) (fun s H C cl fp => (ht s H C cl fp).pts) (fun s H C cl fp => (hk s H C cl fp).pe) (fun s H C cl fp => (he s H C cl fp).pe) hs, rd_dc (X := X) (W := W) zi hws⟩
end
end DL

/-! DX25: {k: v}; d[k] as an expression of any kind. -/
namespace DL
open PySem PySem.Spec PyProof.Rows L2
section
variable {X : Cx} {W : WT} {fx : List Nat} {K : PySem.W.Frag} {tb : List Addr} {e a b c o : Expr} {es : List Expr} {S S' S1 : Addr → Prop} {H H' H1 : Hp} {F F' F1 T : Fp} {σ : L2.St} {r : DL.Env} {pos p p2 apos cpos tpos xpos : Pos} {x : Str}
theorem n_eixD {k : Nat} {E G : EE} (hr : Room k X.A) (ha : DE X W a E) (hb : DE X W b G) (hs : PlainIx b := by intro _ _; rfl) : DE X W (.Subscript a b pos) (eIxD E G) := by
  obtain ⟨t, p, h⟩ := ha; obtain ⟨t', p', h'⟩ := hb
  exact ⟨_, pe_ix (ix_D (by have := hr.un; omega)) p p' hs, RdE.part vb_ixD h h'⟩
def eDisp1 (PK PV : EP) : EE := fun r => ((PK r).up r).bind fun k r1 => ((PV r1).up r1).bind fun v r2 => if v.sh = true then (match dKey false k with
  | some q => .ok (.dic true false [q] [v]) r2
  | none => .stk) else .stk
theorem n_disp1 {PK PV : EP} (hk : DP X W a PK) (hv : DP X W b PV) : DE X W (.Dict [some a] [b] pos) (eDisp1 PK PV) := by
  obtain ⟨t, pk, zk⟩ := hk; obtain ⟨t2, pv, zv⟩ := hv
  refine ⟨_, pe_disp (pps_cons pk pv pps_nil) (by rfl) (by rfl) (fun z => by cases z) (by simp), fun S H r σ F Q q y D0 hD0 => ?_⟩
  have gn : Go S H [] S (upd H D0 (.dK [])) [D0] := go_new q.ft.sd hD0 [D0] (fun _ z => by simpa using z)
  have fn : Ft S (upd H D0 (.dK [])) [D0] := ft_newO q.ft.sd hD0 trivial
  obtain ⟨a1, a2, a3⟩ := own_end (T1 := []) (F1 := F) (by simpa using Go.refl S H F) q gn fn
  have a1' : Go S H F S (upd H D0 (.dK [])) F := a1.sub fun b z => List.mem_append_right _ z
  refine zk S _ r σ F _ a2 (EP1.bindP a1' a2 y fun dk wk S2 H2 T2 g2 f2 hk2 y2 => ?_)
  have x2 := a2.ext0 g2 f2
  refine zv S2 H2 r σ F _ x2 (EP1.bindP (a1'.trans (go_side g2 F)) x2 y2 fun dv wv S3 H3 T3 g3 f3 hv3 y3 => ?_)
  have x3 := x2.ext0 g3 f3
  have g23 := g2.trans g3
  have eD : H3 D0 = some (.dK []) := g23.fr D0 _ upd_same (fun z => nomatch z) trivial
  refine ⟨eD, ?_⟩
  split at y3
  case isFalse => exact y3.elim
  case isTrue hsh =>
  have eT : T3 = [] := Rep.sh dv wv T3 hsh hv3
  subst eT
  split at y3
  case h_2 => exact y3.elim
  case h_1 qk edk =>
  obtain ⟨kk, rfl, rfl⟩ : ∃ kk, qk = [kk] ∧ wk = kV kk := by
    have e : (dK1 dk).map ([·]) = some qk := by cases dk <;> exact edk
    obtain ⟨kk, e1, rfl⟩ := Option.map_eq_some_iff.mp e
    exact ⟨kk, rfl, (dK1_rep e1 hk2).1⟩
  refine ⟨[(kk, wv)], rfl, by simp, ?_⟩
  have em : mergeK [] [(kk, wv)] = [(kk, wv)] := rfl
  rw [em]
  have f3F : Ft S3 H3 ([D0] ++ F) := by
    have all : Ft S3 H3 ([D0] ++ F) := by simpa using Ft.frame (T := [D0] ++ F) (F := []) (by simpa using a3) g23 f3
    exact all
  have g : Go S3 H3 [D0] S3 (upd H3 D0 (.dK [(kk, wv)])) [D0] := upd_goM f3.sd (by rw [eD]; trivial)
  have nD : ∀ b ∈ F, b ∉ [D0] := f3F.apart'
  have fr := Ft.frame f3F.comm g (show Ft S3 (upd H3 D0 (.dK [(kk, wv)])) [D0] from ⟨by simp, f3F.left.dj, fun b z => by
    rw [List.mem_singleton.mp z, upd_same]; trivial, sd_new f3.sd⟩)
  have x4 := x3.go g f3F.left nD fr.left
  have g1 : Go S H F S3 H3 ([D0] ++ F) := a1.trans (go_side g23 _)
  have rv := Rep.go g f3F.left dv wv [] (fun _ z => nomatch z) hv3
  exact y3 (.ref D0) S3 _ F [D0] (g1.trans (g.frameR F)) x4 ⟨rfl, .inr fun p hp => (by rw [List.mem_singleton.mp hp]; rfl), D0, [wv], [], rfl, upd_same, rfl, RepL.one rv⟩ fr.comm
end
end DL

/-! DX26: i ^ j; list(range(..)), tuple(range(..)). -/
namespace DL
open PySem PySem.Spec PyProof.Rows L2
/-! ### ^ -/
def dXor : D → D → Option D := fun a b => match a, b with | .int i, .int j => some (.int (Builtin.bitXor i j)) | _, _ => none
theorem v2_xor {K : PySem.W.Frag} : V2 K (rI0 fun i j => .int (Builtin.bitXor i j)) dXor := v2_int0
@[simp] theorem dXor_int {i j : Int} : dXor (.int i) (.int j) = some (.int (Builtin.bitXor i j)) := (rfl)
section
variable {X : Cx} {W : WT} {fx : List Nat} {K : PySem.W.Frag} {tb : List Addr} {e a b c o : Expr} {es : List Expr} {S S' S1 : Addr → Prop} {H H' H1 : Hp} {F F' F1 T : Fp} {σ : L2.St} {r : DL.Env} {pos p p2 rpos apos cpos tpos xpos : Pos} {x : Str} {A B : EP}
/-! ### ranges as lists and tuples -/
instance {a b : Int} : Decidable (RgOk a b) := by unfold RgOk; infer_instance
theorem rgV_rep {a b : Int} : RepL K S H (rgI a (b - a).toNat) (rgV a b) [] := by
  unfold rgI rgV
  have key : ∀ l : List Nat, RepL K S H (l.map fun (i : Nat) => D.int (a + i)) (l.map fun i => V.int (a + (i : Nat))) [] := fun l => by
    induction l with
    | nil => exact ⟨rfl, rfl⟩
    | cons i l ih => exact ⟨_, _, [], [], rfl, rfl, ⟨rfl, rfl⟩, ih⟩
  exact key _
def rgP (x y : D) : PR (Int × Int) := match x, y with
  | .int i, .int j => if RgOk i j then .ok (i, j) else .stk
  | _, _ => .stk
theorem rgP_ok {x y : D} {p : Int × Int} (e : rgP x y = .ok p) : RgOk p.1 p.2 := by
  cases x with
  | int i =>
    cases y with
    | int j =>
      have e : (if RgOk i j then PR.ok (i, j) else .stk) = .ok p := e
      split at e
      · cases e; assumption
      · cases e
    | _ => cases e
  | _ => cases y <;> cases e
/-- the bounds -/
def pRg1 (A : EP) : DL.Env → PR (Int × Int) := fun r => (A r).bind fun x => rgP (.int 0) x
def pRg2 (A B : EP) : DL.Env → PR (Int × Int) := fun r => (A r).bind fun x => (B r).bind fun y => rgP x y
def DRg (X : Cx) (W : WT) (e : Expr) (P : DL.Env → PR (Int × Int)) : Prop := (∀ r p, P r = .ok p → RgOk p.1 p.2) ∧ ∃ t, PRg X e t ∧ ∀ S H r σ F (Q : Int → Int → Hp → Prop), At X.K W.tb S H r σ F → (match P r with
  | .ok p => ∀ S' H', Go S H [] S' H' [] → Ft S' H' [] → Q p.1 p.2 H'
  | .exc c => ∀ S' H', Go S H [] S' H' [] → Ft S' H' [] → W (clsV X.mg c) none σ H'
  | .stk => False) → t σ H Q
def eRgL (P : DL.Env → PR (Int × Int)) : EE := fun r => ((P r).up r).bind fun p r1 => .ok (.lst true (rgI p.1 (p.2 - p.1).toNat)) r1
def eRgT (P : DL.Env → PR (Int × Int)) : EE := fun r => ((P r).up r).bind fun p r1 => .ok (.tup (rgI p.1 (p.2 - p.1).toNat)) r1
theorem n_rg1 (hm : X.mg "range" = none) (ha : DP X W a A) (hg : Gl X "range" := by rfl) (na : starEach [a] X.env = (false, eval a X.env) :: starEach [] X.env := by rfl) : DRg X W (.Call (.Name "range" p) [a] [] pos) (pRg1 A) := by
  obtain ⟨t, q, z⟩ := ha
  refine ⟨fun r p e => ?_, _, prg_1 hg hm q na, fun S H r σ F Q x y => z S H r σ F _ x ?_⟩
  · unfold pRg1 at e
    cases eA : A r with
    | ok d => rw [eA] at e; exact rgP_ok e
    | _ => rw [eA] at e; cases e
  unfold pRg1 at y
  cases eA : A r with
  | stk => rw [eA] at y; exact y
  | exc c => rw [eA] at y; exact y
  | ok d =>
    rw [eA] at y
    intro v S1 H1 T1 g1 f1 h1
    have y : (match rgP (.int 0) d with
      | .ok p => ∀ S' H', Go S H [] S' H' [] → Ft S' H' [] → Q p.1 p.2 H'
      | .exc c => ∀ S' H', Go S H [] S' H' [] → Ft S' H' [] → W (clsV X.mg c) none σ H'
      | .stk => False) := y
    cases d with
    | int n =>
      unfold rgP at y
      dsimp only at y
      split at y
      · rename_i p e
        split at e
        · cases e
          exact ⟨n, h1.1, y S1 H1 g1 f1⟩
        · cases e
      · rename_i e; split at e <;> cases e
      · exact y.elim
    | _ => exact y.elim
theorem n_rg2 (hm : X.mg "range" = none) (ha : DP X W a A) (hb : DP X W b B) (hg : Gl X "range" := by rfl) (na : starEach [a, b] X.env = (false, eval a X.env) :: starEach [b] X.env := by rfl) (nb : starEach [b] X.env = (false, eval b X.env) :: starEach [] X.env := by rfl) (hpp : (backTo pos (starEach [b] X.env)).any (·.1) = false := by rfl) : DRg X W (.Call (.Name "range" p) [a, b] [] pos) (pRg2 A B) := by
  obtain ⟨t, q, z⟩ := ha
  obtain ⟨t2, q2, z2⟩ := hb
  refine ⟨fun r p e => ?_, _, prg_2 hg hm q q2 na nb hpp, fun S H r σ F Q x y => z S H r σ F _ x ?_⟩
  · unfold pRg2 at e
    cases eA : A r with
    | ok d =>
      rw [eA] at e
      cases eB : B r with
      | ok d2 => rw [PR.bind, eB] at e; exact rgP_ok e
      | _ => rw [PR.bind, eB] at e; cases e
    | _ => rw [eA] at e; cases e
  unfold pRg2 at y
  cases eA : A r with
  | stk => rw [eA] at y; exact y
  | exc c => rw [eA] at y; exact y
  | ok d =>
    rw [eA] at y
    intro v S1 H1 T1 g1 f1 h1
    refine z2 S1 H1 r σ F _ (x.ext0 g1 f1) ?_
    cases eB : B r with
    | stk => rw [PR.bind, eB] at y; exact y
    | exc c =>
      rw [PR.bind, eB] at y
      exact fun S' H' g f => y S' H' (g1.trans g) f
    | ok d2 =>
      rw [PR.bind, eB] at y
      intro w S2 H2 T2 g2 f2 h2
      have y : (match rgP d d2 with
        | .ok p => ∀ S' H', Go S H [] S' H' [] → Ft S' H' [] → Q p.1 p.2 H'
        | .exc c => ∀ S' H', Go S H [] S' H' [] → Ft S' H' [] → W (clsV X.mg c) none σ H'
        | .stk => False) := y
      cases d with
      | int n =>
        cases d2 with
        | int m =>
          unfold rgP at y
          dsimp only at y
          split at y
          · rename_i p e
            split at e
            · cases e
              exact ⟨n, m, h1.1, h2.1, y S2 H2 (g1.trans g2) f2⟩
            · cases e
          · rename_i e; split at e <;> cases e
          · exact y.elim
        | _ => exact y.elim
      | _ => cases d2 <;> exact y.elim
theorem n_rgL {P : DL.Env → PR (Int × Int)} (hc : X.calm = true) (hm : X.mg "list" = none) (h : DRg X W e P) (hg : Gl X "list" := by rfl) (na : starEach [e] X.env = (false, eval e X.env) :: starEach [] X.env := by rfl) : DE X W (.Call (.Name "list" p) [e] [] pos) (eRgL P) := by
  obtain ⟨hok, t, q, z⟩ := h
  refine ⟨_, pe_listRg hc hg hm q na, fun S H r σ F Q x y => z S H r σ F _ x ?_⟩
  have y : EP1 (Rep X.K) X W S H F σ Q (((P r).up r).bind fun p r1 => .ok (.lst true (rgI p.1 (p.2 - p.1).toNat)) r1) := y
  cases eP : P r with
  | stk => rw [eP] at y; exact y
  | exc c => rw [eP] at y; exact fun S' H' g f => y S' H' F (go_side g F) (x.ext0 g f)
  | ok p =>
    rw [eP] at y
    intro S1 H1 g f
    refine ⟨hok r p eP, fun q0 hq => ?_⟩
    obtain ⟨a1, a2, a3⟩ := own_end (T1 := []) (F1 := F) (by simpa using go_side g F) (x.ext0 g f) (go_new (S := S1) f.sd hq [q0] (fun _ z => by simpa using z) (o := .lst (rgV p.1 p.2))) (ft_newO f.sd hq trivial)
    exact y (.ref q0) S1 _ F [q0] a1 a2 (rep_lst f.sd hq rgV_rep) a3
theorem n_rgT {P : DL.Env → PR (Int × Int)} (hc : X.calm = true) (hm : X.mg "tuple" = none) (h : DRg X W e P) (hg : Gl X "tuple" := by rfl) (na : starEach [e] X.env = (false, eval e X.env) :: starEach [] X.env := by rfl) : DE X W (.Call (.Name "tuple" p) [e] [] pos) (eRgT P) := by
  obtain ⟨hok, t, q, z⟩ := h
  refine ⟨_, pe_tupRg hc hg hm q na, fun S H r σ F Q x y => z S H r σ F _ x ?_⟩
  have y : EP1 (Rep X.K) X W S H F σ Q (((P r).up r).bind fun p r1 => .ok (.tup (rgI p.1 (p.2 - p.1).toNat)) r1) := y
  cases eP : P r with
  | stk => rw [eP] at y; exact y
  | exc c => rw [eP] at y; exact fun S' H' g f => y S' H' F (go_side g F) (x.ext0 g f)
  | ok p =>
    rw [eP] at y
    intro S1 H1 g f
    refine ⟨hok r p eP, fun q0 hq => ?_⟩
    obtain ⟨a1, a2, a3⟩ := own_end (T1 := []) (F1 := F) (by simpa using go_side g F) (x.ext0 g f) (go_new (S := S1) f.sd hq [] (fun _ z => nomatch z) (o := .tup (rgV p.1 p.2))) (Ft.nil (sd_new f.sd))
    exact y (.ref q0) S1 _ F [] a1 a2 (rep_tup f.sd hq rgV_rep) a3
/-- as a value that is read -/
def pRgT (P : DL.Env → PR (Int × Int)) : EP := fun r => (P r).bind fun p => .ok (.tup (rgI p.1 (p.2 - p.1).toNat))
theorem n_prgT {P : DL.Env → PR (Int × Int)} (hc : X.calm = true) (hm : X.mg "tuple" = none) (h : DRg X W e P) (hg : Gl X "tuple" := by rfl) (na : starEach [e] X.env = (false, eval e X.env) :: starEach [] X.env := by rfl) : DP X W (.Call (.Name "tuple" p) [e] [] pos) (pRgT P) := by
  obtain ⟨hok, t, q, z⟩ := h
  refine ⟨_, pe_tupRg hc hg hm q na, fun S H r σ F Q x y => z S H r σ F _ x ?_⟩
  have y : PP1 (Rep X.K) X W S H σ Q ((P r).bind fun p => PR.ok (D.tup (rgI p.1 (p.2 - p.1).toNat))) := y
  cases eP : P r with
  | stk => rw [eP] at y; exact y
  | exc c => rw [eP] at y; exact y
  | ok p =>
    rw [eP] at y
    intro S1 H1 g f
    refine ⟨hok r p eP, fun q0 hq => ?_⟩
    have gn := go_new (S := S1) f.sd hq [] (fun _ z => nomatch z) (o := .tup (rgV p.1 p.2))
    exact y (.ref q0) S1 _ [] (g.trans gn) (Ft.nil (sd_new f.sd)) (rep_tup f.sd hq rgV_rep)
end
end DL

/-! DX27: math.gcd, a module's name for a built-in function. -/
namespace DL
open PySem PySem.Spec PyProof.Rows L2
section
variable {X : Cx} {W : WT} {fx : List Nat} {K : PySem.W.Frag} {S S' S1 : Addr → Prop} {H H' H1 : Hp} {F F' F1 T : Fp}
def dGcd : List D → Option D
  | [.int i, .int j] => some (.int ((Nat.gcd i.natAbs j.natAbs : Nat) : Int))
  | _ => none
theorem vl_gcd : VL K rGcd dGcd := by
  intro S H ds vs T1 Q sd h ⟨d, e, k⟩
  unfold dGcd at e
  split at e
  · rename_i i j
    cases e
    obtain ⟨v, r, F1, F2, e1, e2, h1, v', r', F1', F2', e1', e2', h1', h2, _⟩ := h
    subst h2 e1' e1
    rw [h1.1, h1'.1]
    exact ⟨i, j, rfl, k _ S H [] (.refl _ _ _) ⟨rfl, rfl⟩ (Ft.nil sd)⟩
  · cases e
variable {x : Str} {p pos : Pos} {e : Expr} {es : List Expr} {id : String} {q : List V → Hp → VK → Prop} {g : List D → Option D} {M : Env → Res (List D)} {PM : Env → PR (List D)}
theorem n_ecbF (hc : CallR X (.builtin id) q) (v : VL X.K q g) (hm : X.mg x = some (.builtin id)) (ha : DA X W (e :: es) M) (hg : Gl X x := by rfl) (hdb : (x == ("__debug__" : Str)) = false := by decide)
    (hs : starEach (e :: es) X.env = (false, eval e X.env) :: starEach es X.env := by rfl) (hp : (backTo pos (starEach es X.env)).any (·.1) = false := by rfl) : DE X W (.Call (.Name x p) (e :: es) [] pos) (eCB g M) := by
  obtain ⟨t, h, z⟩ := ha
  exact ⟨_, pe_callBfun hc hg hm h hdb hs hp, RdL.ee v z⟩
theorem n_pcbF (hc : CallR X (.builtin id) q) (v : VL X.K q g) (hm : X.mg x = some (.builtin id)) (ha : DPA X W (e :: es) PM) (hg : Gl X x := by rfl) (hdb : (x == ("__debug__" : Str)) = false := by decide)
    (hs : starEach (e :: es) X.env = (false, eval e X.env) :: starEach es X.env := by rfl) (hp : (backTo pos (starEach es X.env)).any (·.1) = false := by rfl) : DP X W (.Call (.Name x p) (e :: es) [] pos) (pCB g PM) := by
  obtain ⟨t, h, z⟩ := ha
  exact ⟨_, pe_callBfun hc hg hm h hdb hs hp, RdL.pp v z⟩
theorem n_epcbF (hc : CallR X (.builtin id) q) (v : VL X.K q g) (hm : X.mg x = some (.builtin id)) (ha : DPA X W (e :: es) PM) (hg : Gl X x := by rfl) (hdb : (x == ("__debug__" : Str)) = false := by decide)
    (hs : starEach (e :: es) X.env = (false, eval e X.env) :: starEach es X.env := by rfl) (hp : (backTo pos (starEach es X.env)).any (·.1) = false := by rfl) : DE X W (.Call (.Name x p) (e :: es) [] pos) (epCB g PM) := by
  obtain ⟨t, h, z⟩ := ha
  exact ⟨_, pe_callBfun hc hg hm h hdb hs hp, RdL.pe v z⟩
end
end DL

/-! DX28: * and // of great ints. -/
namespace DL
open PySem PySem.Spec PyProof.Rows L2
section
variable {X : Cx} {W : WT} {fx : List Nat} {K : PySem.W.Frag} {S S' S1 : Addr → Prop} {H H' H1 : Hp} {F F' F1 T : Fp}
instance {i j : Int} : Decidable (CMulW i j) := inferInstanceAs (Decidable (_ < _))
instance {i j : Int} : Decidable (CDivW i j) := inferInstanceAs (Decidable (_ ∧ _))
def dMulW : D → D → Option D
  | .int i, .int j => if CMulW i j then some (.int (i * j)) else none
  | _, _ => none
theorem v2_mulW : V2 K (rI CMulW fun i j => .int (i * j)) dMulW := v2_int.imp fun x y d e => by cases x <;> cases y <;> first | exact e | cases e
def dFdivW : D → D → Option D
  | .int i, .int j => if CDivW i j then some (.int (i / j)) else none
  | _, _ => none
theorem v2_fdivW : V2 K (rI CDivW fun i j => .int (i / j)) dFdivW := v2_int.imp fun x y d e => by cases x <;> cases y <;> first | exact e | cases e
def dMulC (x y : D) : Option D := (dMulB x y).or (dMulW x y)
def dFdivC (x y : D) : Option D := (dFdiv x y).or (dFdivW x y)
theorem op_mulC : OpR X (binaryOp .Mult) (fun x y H Q => rMulB X.K x y H Q ∨ rI CMulW (fun i j => .int (i * j)) x y H Q) := op_mulB.or op_mulW
theorem v2_mulC : V2 K (fun x y H Q => rMulB K x y H Q ∨ rI CMulW (fun i j => .int (i * j)) x y H Q) dMulC := v2_mulB.or v2_mulW
theorem op_fdivC : OpR X (binaryOp .FloorDiv) (fun x y H Q => rI CDiv (fun i j => .int (i / j)) x y H Q ∨ rI CDivW (fun i j => .int (i / j)) x y H Q) := op_fdiv.or op_fdivW
theorem v2_fdivC : V2 K (fun x y H Q => rI CDiv (fun i j => .int (i / j)) x y H Q ∨ rI CDivW (fun i j => .int (i / j)) x y H Q) dFdivC := v2_fdiv.or v2_fdivW
theorem dMulC_int {i j : Int} (h : CMul i j ∨ CMulW i j) : dMulC (.int i) (.int j) = some (.int (i * j)) := by
  unfold dMulC
  have e : dMulB (.int i) (.int j) = if CMul i j then some (.int (i * j)) else none := rfl
  rw [e]
  split
  · rfl
  · rename_i hn
    exact if_pos (h.resolve_left hn)
theorem dMulC_of {x y d : D} (h : dMulB x y = some d) : dMulC x y = some d := by unfold dMulC; rw [h]; rfl
theorem dFdivC_int {i j : Int} (h : CDiv i j ∨ CDivW i j) : dFdivC (.int i) (.int j) = some (.int (i / j)) := by
  unfold dFdivC
  have e : dFdiv (.int i) (.int j) = if CDiv i j then some (.int (i / j)) else none := rfl
  rw [e]
  split
  · rfl
  · rename_i hn
    exact if_pos (h.resolve_left hn)
end
end DL

/-! DX29: sorted of a tuple of ints. -/
namespace SrtO
open PySem PyProof.Rows Srt
section
variable {prog : Program} {w : World} {A : Around} {E : Value → Shared → Prop} {s : Shared}
/-- what a tuple's items are collected into -/
abbrev colHeap (h : Heap) (items : Array Value) : Heap := (h.push { cls := .type "list", data := .seq ([] : List Value).toArray }).update h.objs.size (Obj.mapSeq (· ++ items))
theorem collect_tup {Q : List Value → Shared → Prop} (it : Addr) {o : Obj} {items : Array Value} {n : Nat} (ho : s.heap.get? it = some o) (hc : o.cls = .type "tuple") (hd : o.data = .seq items n)
    (hQ : Q items.toList { s with heap := colHeap s.heap items }) (hsz : items.size ≤ sizeLine) : wpAny (model prog w) A (collect (.ref it)) Q E s := by
  unfold collect
  refine wpAny_bind (wpAny_runValue (codeAny_builtin PySem.F.entry_proto_collect ?_))
  rw [Around.under_plainId PySem.F.plain_proto_collect _]
  show wpAny _ A.in1 (newList [] >>= fun l => again (.builtin "list.__iadd__" ⟨[l, .ref it], []⟩)) _ _ s
  refine wpAny_bind (wpAny_newObj_type ?_)
  refine wpAny_pure ⟨plainId_quiet PySem.F.plain_list_iadd _, codeAny_builtin PySem.F.entry_list_iadd ?_⟩
  rw [Around.under_plainId PySem.F.plain_list_iadd _]
  show wpAny _ A.in1 (Builtin.List.listExtendWith (.ref s.heap.objs.size) (.ref it) (.ref s.heap.objs.size)) _ _ _
  have hS : (s.heap.push { cls := .type "list", data := .seq ([] : List Value).toArray }).get? s.heap.objs.size = some { cls := .type "list", data := .seq #[] 0 } := Heap.get?_push_size _ rfl
  have hS₂ := Heap.get?_update_self (Obj.mapSeq (· ++ items)) hS rfl
  have fin' : wpAny (model prog w) A (match Value.ref s.heap.objs.size with
      | Value.ref a => do
        match (← load a).data with
          | Data.seq xs _ => pure xs.toList
          | _ => unsupported "internal:collect"
      | _ => unsupported "internal:collect") Q E { s with heap := colHeap s.heap items } := by
    show wpAny _ A (load s.heap.objs.size >>= _) _ _ _
    refine wpAny_bind (wpAny_load hS₂ ?_)
    refine wpAny_pure ?_
    have e : ((#[] : Array Value) ++ items).toList = items.toList := by simp
    show Q ((#[] : Array Value) ++ items).toList _
    rw [e]
    exact hQ
  refine wpAny_mono (wpAny_extend_seq (hsz := hsz) (A := A) (R := fun r s' => r = .ok (.ret (.ref s.heap.objs.size)) ∧ s' = { s with heap := colHeap s.heap items })
    (s := { s with heap := s.heap.push { cls := .type "list", data := .seq ([] : List Value).toArray } }) _ it _ 0 (.inr rfl) hS (Heap.get?_push_of_some _ ho) hc hd ⟨rfl, rfl⟩) (fun fin s' h => ?_) (fun e s' h => ?_)
  · cases fin with
    | done f =>
      obtain ⟨e, rfl⟩ := h
      cases e
      exact fin'
    | again c' => exact ⟨h.1, codeAny_mono h.2 fun r s'' hr => by obtain ⟨rfl, rfl⟩ := hr; exact fin'⟩
  · exact absurd h.1 (by simp)
theorem col_old {h : Heap} {items : Array Value} {b : Addr} {o : Obj} (hb : h.get? b = some o) : (colHeap h items).get? b = some o :=
  (Heap.get?_update_other _ _ (Nat.ne_of_gt (Heap.lt_size hb))).trans (Heap.get?_push_of_some _ hb)
theorem col_size {h : Heap} {items : Array Value} : (colHeap h items).objs.size = h.objs.size + 1 := by
  unfold colHeap; rw [Heap.size_update, size_push']
theorem sorted_ordT {l : Addr} {o : Obj} {n : Nat} {vs : List Value} {ltv : Value → Value → Bool} {Q : Value → Shared → Prop} (O : Swo ltv) (ho : s.heap.get? l = some o) (hc : o.cls = .type "tuple") (hd : o.data = .seq vs.toArray n) (hz : vs.length ≤ sizeLine)
    (hS : 2 ≤ vs.length → ∀ (h₁ : Heap) (a : Addr), SortableO prog w A.in1.in1 { s with heap := h₁ } a vs ltv)
    (h : ∀ (h' : Heap) (a : Addr) (e : Nat) (out : List Value), (∀ b o, s.heap.get? b = some o → h'.get? b = some o) → s.heap.objs.size ≤ a → h'.get? a = some (seqObj "list" out.toArray e) → Srtd ltv out → Stb ltv out vs → Q (.ref a) { s with heap := h' }) :
    wpAny (model prog w) A (call (.builtin "sorted") [.ref l]) Q E s := by
  refine Calls.call_function_entry kind_sorted plain_sorted entry_sorted (args_sorted1 _) ?_
  unfold Builtin.«sorted»
  refine wpAny_bind (m := checkCount "sorted" 1 1 _) (wpAny_pure ?_)
  refine wpAny_bind (collect_tup l ho hc hd ?_ (by simpa using hz))
  rw [List.toList_toArray]
  have k1 : ∀ b o, s.heap.get? b = some o → (colHeap s.heap vs.toArray).get? b = some o := fun b o => col_old
  have hlt : s.heap.objs.size ≤ (colHeap s.heap vs.toArray).objs.size := by rw [col_size]; exact Nat.le_succ _
  generalize colHeap s.heap vs.toArray = h1 at k1 hlt ⊢
  refine wpAny_bind (wpAny_newList ?_ hz)
  have hoL : (h1.push (seqObj "list" vs.toArray 0)).get? h1.objs.size = some (seqObj "list" vs.toArray 0) := Heap.get?_push_size _ rfl
  refine wpAny_bind (wpAny_holding (wpAny_call_entry slot_list_sort ⟨_, hoL, rfl⟩ entry_list_sort (list_sort_ord O hoL hz (fun h2 => hS h2 _ _) fun out hs hb => ⟨_, rfl, ?_⟩) (args_list_sort _)))
  obtain ⟨e, he⟩ := sortedHeap_at (h := h1.push (seqObj "list" vs.toArray 0)) (a := h1.objs.size) (vs := vs) (out := out.toArray) (n := 0) hoL
  refine wpAny_pure ⟨_, rfl, h _ _ e out (fun b u hb => ?_) hlt he hs hb⟩
  have hb1 := Heap.lt_size (k1 b u hb)
  rw [sortedHeap_old (Nat.ne_of_lt hb1) (by rw [size_push']; exact Nat.lt_succ_of_lt hb1), Heap.get?_push_ne _ _ _ (Nat.ne_of_lt hb1)]
  exact k1 b u hb
end
end SrtO
namespace DL
open PySem PySem.Spec PyProof.Rows L2
def rSortedTI (K : PySem.W.Frag) : List V → Hp → VK → Prop := fun vs H Q => ∃ (a : Addr) (ns : List Int), vs = [V.ref a] ∧ SqT K H a (ns.map V.int) ∧
  ∀ (ns' : List Int) (p : Addr), ns'.Perm ns → ns'.Pairwise (· ≤ ·) → H p = none → Q (.ref p) (upd H p (.lst (ns'.map V.int)))
section
variable {X : Cx} {W : WT} {fx : List Nat} {K : PySem.W.Frag} {S S' S1 : Addr → Prop} {H H' H1 : Hp} {F F' F1 T : Fp}
theorem cr_sortedTI : CallR X (.builtin "sorted") (rSortedTI X.K) := by
  intro pins s σ H vs us Q I r h
  obtain ⟨a, ns, rfl, hs, q⟩ := h
  obtain ⟨its, rv, ⟨o, ho, hc, n, hd⟩, hz⟩ := I.tuple hs
  rw [Vals.ref1 r]
  have hi := rv.ints
  refine SrtO.sorted_ordT SrtO.swo_int ho hc hd (by rw [← rv.length]; exact hz) (fun h2 h₁ a' => SrtO.ints_sortable hi h2) fun h' p e out k hp hat h1 h2 => ?_
  obtain ⟨k1, k2, k3⟩ := SrtO.ints_out hi h1 h2
  have hlen : ((out.map SrtO.iv).map V.int).length ≤ sizeLine := by
    rw [List.length_map, k2.length_eq]
    rw [List.length_map] at hz
    exact hz
  exact ⟨.ref _, upd H p (.lst ((out.map SrtO.iv).map V.int)), I.laid (t' := s.toks) k hp ⟨hlen, out, e, vals_of_ints k1, hat⟩, rfl, q _ _ k2 k3 (I.hok.fresh hp)⟩
def dSortedT : List D → Option D
  | [.tup ds] => (intsOf ds).map fun ns => .lst true ((srt ns).map .int)
  | _ => none
theorem vl_sortedT : VL K (rSortedTI K) dSortedT := by
  intro S H ds vs T1 Q sd h ⟨d, e, k⟩
  unfold dSortedT at e
  split at e
  · rename_i ds
    obtain ⟨v, t, A1, B1, rfl, rfl, h1, rfl, rfl⟩ := h
    cases q : intsOf ds with
    | none => rw [q] at e; cases e
    | some ns =>
      rw [q] at e
      cases e
      obtain ⟨a, ws, rfl, h2, r2⟩ := h1
      rw [(RepL.ints_of q r2).1] at h2
      refine ⟨a, ns, rfl, .inl (.inl h2), fun ns' p hp hs hn => ?_⟩
      rw [sorted_eq (hp.trans (srt_perm ns).symm) hs (srt_le ns)]
      exact k _ S _ [p] (go_new sd hn [p] (fun _ z => by simpa using z)) (rep_lst sd hn RepL.of_ints) (ft_new sd hn)
  · cases e
def dSortB (ds : List D) : Option D := (dSortA ds).or (dSortedT ds)
theorem cr_sortedB (hu : X.A.units + 64 < cLine) : CallR X (.builtin "sorted") (fun vs H Q => (rSortedI X.K vs H Q ∨ rSortedD X.K vs H Q) ∨ rSortedTI X.K vs H Q) := (cr_sortedA hu).or cr_sortedTI
theorem vl_sortB : VL K (fun vs H Q => (rSortedI K vs H Q ∨ rSortedD K vs H Q) ∨ rSortedTI K vs H Q) dSortB := vl_sortA.or' vl_sortedT
theorem dSortB_of {ds : List D} {d : D} (h : dSortA ds = some d) : dSortB ds = some d := by unfold dSortB; rw [h]; rfl
end
end DL

/-! DX30: comprehensions over a name's own list, which stays the name's. -/
namespace DL
open PySem PySem.Spec PyProof.Rows L2
section
variable {X : Cx} {W : WT} {K : PySem.W.Frag} {e a b c tg : Expr} {es : List Expr} {S S' S1 S2 : Addr → Prop} {H H' H1 H2 : Hp} {F F' F1 F2 T : Fp} {σ : L2.St} {r : Env} {pos p p2 : Pos} {x : Str}
/-- what is walked while the name's list is lent -/
def IB1 (X : Cx) (W : WT) (i : Nat) (S : Addr → Prop) (H : Hp) (F : Fp) (σ : L2.St) (R : It → Hp → Prop) (ds0 ds : List D) (r : Env) : Prop :=
  ∀ J S' H' F' T a, Go S H F S' H' (T ++ F') → At X.K W.tb S' H' (r.set i none) σ F' → Ft S' H' (T ++ F') → ItOk X.K J (fun S H => Rep X.K S H (.lst true ds0) (.ref a) T) ds → Rep X.K S' H' (.lst true ds0) (.ref a) T → σ[i]? = some (some (V.ref a)) → R J H'
def DIB (X : Cx) (W : WT) (i : Nat) (tg iter : Expr) (f : List D → List D) : Prop := ∃ wi, PI X tg iter wi ∧ ∀ S H r σ F R ds0, At X.K W.tb S H r σ F → r[i]? = some (some (.lst true ds0)) → D.shL ds0 = true → IB1 X W i S H F σ R ds0 (f ds0) r → wi σ H R
def isNn : Option (Option D) → Bool
  | some none => true
  | _ => false
theorem isNn_iff {o : Option (Option D)} : isNn o = true ↔ o = some none := by
  cases o with
  | none => simp [isNn]
  | some o => cases o <;> simp [isNn]
def lcE (i : Nat) (ds0 : List D) (r1 : Env) (vs : List Nat) (acc : List D) (r2 : Env) : Res D := if isNn (resE r1 r2 vs)[i]? = true then .ok (.lst true acc) ((resE r1 r2 vs).set i (some (.lst true ds0))) else .stk
def eLcB (i : Nat) (f : List D → List D) (G : D → Env → Option Env) (T : BE) (E : EE) (vs : List Nat) : EE := fun r => match r[i]? with
  | some (some (.lst true ds0)) => if D.shL ds0 = true then (lcL G T E vs (f ds0) [] (wipeE (r.set i none) vs)).bind (lcE i ds0 (r.set i none) vs) else .stk
  | _ => .stk
theorem At.lend {K : PySem.W.Frag} {tb : List Addr} (x : At K tb S H r σ F) {i : Nat} {ds0 : List D} (e : r[i]? = some (some (.lst true ds0))) : ∃ a T F', σ[i]? = some (some (V.ref a)) ∧ Rep K S H (.lst true ds0) (.ref a) T ∧ At K tb S H (r.set i none) σ F' ∧ Ft S H (T ++ F') ∧ ∀ b, b ∈ T ++ F' ↔ b ∈ F := by
  obtain ⟨v, T, F', h1, h2, h3, h4, h5⟩ := x.take e
  obtain ⟨a, vs, G, rfl, _⟩ := id h2
  exact ⟨a, T, F', h1, h2, h3, h4, h5⟩
theorem dib_sq (i : Nat) (hN : X.N[i]? = some x := by rfl) (hv : Vis X.env.scope x := by first | exact Or.inl rfl | exact Or.inr (Or.inl rfl) | exact Or.inr (Or.inr rfl)) (hd : (x == ("__debug__" : Str)) = false := by decide)
    (hcd : (x == ("__classdict__" : Str)) = false := by decide) : DIB X W i tg (.Name x pos) (fun ds => ds) := by
  refine ⟨_, pi_seq (pe_var hN hv hd hcd), fun S H r σ F R ds0 x er hsh y => ?_⟩
  obtain ⟨a, T, F', h1, h2, h3, h4, h5⟩ := x.lend er
  obtain ⟨b, vs, e1, hq, rl⟩ := h2.lst_at hsh
  cases e1
  exact ⟨.ref a, h1, a, rfl, .inl ⟨⟨vs, .inl (.inl hq)⟩, y _ S H F' T a ((Go.refl S H F).sub fun c z => (h5 c).mp z) h3 h4 (itok_lst hsh) h2 h1⟩⟩
theorem dib_enu (i : Nat) {elts : List Expr} {kk : Nat} {tpos np : Pos} (hm : X.mg "enumerate" = none) (hg : Gl X "enumerate" := by rfl) (hN : X.N[i]? = some x := by rfl) (hv : Vis X.env.scope x := by first | exact Or.inl rfl | exact Or.inr (Or.inl rfl) | exact Or.inr (Or.inr rfl)) (hd : (x == ("__debug__" : Str)) = false := by decide)
    (hcd : (x == ("__classdict__" : Str)) = false := by decide) (hs : starEach [.Name x np] X.env = [(false, eval (.Name x np) X.env)] := by rfl) : DIB X W i (.Tuple elts kk tpos) (.Call (.Name "enumerate" p) [.Name x np] [] pos) (enuF 0) := by
  refine ⟨_, pi_enumA hg hm (pa_cons (pe_var hN hv hd hcd) pa_nil) hs, fun S H r σ F R ds0 x er hsh y => ?_⟩
  obtain ⟨a, T, F', h1, h2, h3, h4, h5⟩ := x.lend er
  obtain ⟨b, vs, e1, hq, rl⟩ := h2.lst_at hsh
  cases e1
  exact ⟨.ref a, h1, a, vs, rfl, .inl ⟨.inl (.inl hq), y _ S H F' T a ((Go.refl S H F).sub fun c z => (h5 c).mp z) h3 h4 (itok_enuL hsh) h2 h1⟩⟩
theorem rd_lcB {i0 : Nat} {f : List D → List D} {vs ws : List Nat} {wi : TI} {G : D → Env → Option Env} {Tt : Env → Res Bool} {E : Env → Res D} (zi : ∀ S H r σ F R ds0, At X.K W.tb S H r σ F → r[i0]? = some (some (.lst true ds0)) → D.shL ds0 = true → IB1 X W i0 S H F σ R ds0 (f ds0) r → wi σ H R) (hws : ∀ j ∈ ws, j ∈ vs) :
    RdE X W (tLc wi (tG X ws G) (tT X (W0 W.tb) Tt) (tE X (W0 W.tb) E) vs) (eLcB i0 f G Tt E vs) := by
  intro S H r σ F Q x y
  unfold eLcB at y
  split at y
  · rename_i ds0 er
    split at y
    · rename_i hsh
      refine zi S H r σ F _ ds0 x er hsh ?_
      generalize f ds0 = ds at y ⊢
      generalize hr1 : r.set i0 none = r1 at y
      intro J S1 H1 F1 T1 a g1 x1 f1 it p0 e0 D0 hD0
      have hi0 : i0 < r.length := (List.getElem?_eq_some_iff.mp er).1
      rw [hr1] at x1
      obtain ⟨P, hP⟩ : ∃ P : (Addr → Prop) → Hp → Prop, P = fun S H => Rep X.K S H (.lst true ds0) (.ref a) T1 := ⟨_, rfl⟩
      have st : ∀ S1 H1 F1 S2 H2 F2, P S1 H1 → Ft S1 H1 (T1 ++ F1) → Go S1 H1 F1 S2 H2 F2 → P S2 H2 := by
        subst hP
        exact fun S2 H2 F2 S3 H3 F3 p f g => Rep.go g f.right _ _ T1 f.apart p
      have it : ItOk X.K J P ds := by rw [hP]; exact it
      have p0 : P S1 H1 := by rw [hP]; exact p0
      have hlen : ds.length = ds.length := rfl
      refine ⟨fun i m H' => m = ds.length - i ∧ i ≤ ds.length ∧ ∃ S' r' F' acc ns G', Bd X.K P T1 D0 S' H' acc ns G' F' ∧ At X.K W.tb S' H' (wipeE r' vs) (L2.wipe σ vs) F' ∧ Go S1 H1 (T1 ++ F1) S' H' ((D0 :: G') ++ (T1 ++ F')) ∧
        EP1 (Rep X.K) X W S H F σ Q ((lcL G Tt E vs (ds.drop i) acc (wipeE r' vs)).bind (lcE i0 ds0 r1 vs)), ⟨ds.length, by simp, Nat.zero_le _, ?_⟩, ?_⟩
      · obtain ⟨F1', q1, s1⟩ := x1.wiped vs
        have gn : Go S1 H1 [] S1 (upd H1 D0 (.lst [])) [D0] := go_new x1.ft.sd hD0 [D0] (fun _ z => by simpa using z)
        have fn : Ft S1 (upd H1 D0 (.lst [])) [D0] := ft_new x1.ft.sd hD0
        have f2 : Ft S1 H1 (T1 ++ F1') := f1.narrow q1.ft s1
        have f3 : Ft S1 (upd H1 D0 (.lst [])) ((T1 ++ F1') ++ [D0]) := Ft.frame (T := T1 ++ F1') (F := []) (by simpa using f2) gn fn
        refine ⟨S1, r1, F1', [], [], [], ⟨upd_same, ⟨rfl, rfl⟩, f3.comm, ?_⟩, q1.ext gn fn, ?_, y⟩
        · refine st S1 H1 [] S1 _ [D0] p0 (by simpa using f1.left) gn
        · have g2 : Go S1 H1 (T1 ++ F1) S1 (upd H1 D0 (.lst [])) ((T1 ++ F1) ++ [D0]) := by simpa using gn.frame (T1 ++ F1)
          refine g2.sub fun b z => ?_
          simp only [List.mem_append, List.mem_cons, List.mem_singleton] at z ⊢
          rcases z with (rfl | z) | z | z
          · exact .inr (.inl rfl)
          · exact absurd z (by simp)
          · exact .inl (.inl z)
          · exact .inl (.inr (s1 b z))
      · rintro i m H3 ⟨rfl, hi, S3, r3, F3, acc, ns, G3, bd, x3, g3, y3⟩
        by_cases hlt : i < ds.length
        · have ed : ds[i]? = some ds[i] := List.getElem?_eq_getElem hlt
          obtain ⟨hgo, hyl⟩ := it.item i ds[i] S3 H3 ed bd.p bd.ft.sd
          refine .inr ⟨hgo, fun H' => i + 1 ≤ ds.length ∧ ∃ S' r' F' acc ns G', Bd X.K P T1 D0 S' H' acc ns G' F' ∧ At X.K W.tb S' H' (wipeE r' vs) (L2.wipe σ vs) F' ∧ Go S1 H1 (T1 ++ F1) S' H' ((D0 :: G') ++ (T1 ++ F')) ∧
            EP1 (Rep X.K) X W S H F σ Q ((lcL G Tt E vs (ds.drop (i + 1)) acc (wipeE r' vs)).bind (lcE i0 ds0 r1 vs)), fun H' nx => ⟨ds.length - (i + 1), by omega, rfl, nx.1, nx.2⟩, fun v H4 yl => ?_⟩
          obtain ⟨g4, sd4, rd4⟩ := hyl v H4 yl
          have fn4 : Ft S3 H4 [] := Ft.nil sd4
          have x4 := x3.ext0 g4 fn4
          have bd4 : Bd X.K P T1 D0 S3 H4 acc ns G3 F3 := bd.step st (go_side g4 F3) x4.ft
          have g34 : Go S1 H1 (T1 ++ F1) S3 H4 ((D0 :: G3) ++ (T1 ++ F3)) := g3.trans (go_side g4 _)
          have y4 := y3
          rw [show ds.drop i = ds[i] :: ds.drop (i + 1) from List.drop_eq_getElem_cons hlt] at y4
          unfold lcL at y4
          cases eG : G ds[i] (wipeE r3 vs) with
          | none => rw [eG] at y4; exact y4.elim
          | some r5 =>
            rw [eG] at y4
            have y4 : EP1 (Rep X.K) X W S H F σ Q (((Tt r5).bindS fun k r2 => if k = true then (E r2).bindS fun x r3 => if acc.length < sizeLine then lcL G Tt E vs (ds.drop (i + 1)) (acc ++ [x]) (wipeE r3 vs) else .stk else lcL G Tt E vs (ds.drop (i + 1)) acc (wipeE r2 vs)).bind (lcE i0 ds0 r1 vs)) := y4
            refine ⟨W.tb, S3, wipeE r3 vs, F3, ds[i], [], x4, rd4, x4.ft, r5, eG, fun σ5 F5 q5 s5 o5 l5 => ?_⟩
            have s5 : ∀ b ∈ F5, b ∈ F3 := fun b z => by simpa using s5 b z
            have hw : L2.wipe σ5 vs = L2.wipe σ vs := (wipe_eq (fun j hj => o5 j (fun z => hj (hws j z))) l5).trans (wipe_idem σ vs)
            have bd5 := bd4.narrow q5.ft s5
            have g35 : Go S1 H1 (T1 ++ F1) S3 H4 ((D0 :: G3) ++ (T1 ++ F5)) := g34.sub fun b z => by
              simp only [List.mem_append, List.mem_cons] at z ⊢
              rcases z with z | z | z
              · exact .inl z
              · exact .inr (.inl z)
              · exact .inr (.inr (s5 b z))
            refine ⟨hw, S3, r5, F5, q5, EP1.bindS y4 fun k r6 k' S6 H6 F6 T6 e6 g6 q6 h6 f6 y6 => ?_⟩
            obtain ⟨rfl, rfl⟩ := h6
            have bd6 : Bd X.K P T1 D0 S6 H6 acc ns G3 F6 := bd5.step st g6 f6
            have fr : ∀ {S7 : Addr → Prop} {H7 : Hp} {Z Y : Fp}, Go S3 H4 Z S7 H7 Y → Go S1 H1 (T1 ++ F1) S3 H4 ((D0 :: G3) ++ (T1 ++ Z)) → Go S1 H1 (T1 ++ F1) S7 H7 ((D0 :: G3) ++ (T1 ++ Y)) := fun {S7 H7 Z Y} g g' => by
              have := g.frame ((D0 :: G3) ++ T1)
              rw [List.append_assoc, List.append_assoc] at this
              exact g'.trans this
            have g36 : Go S1 H1 (T1 ++ F1) S6 H6 ((D0 :: G3) ++ (T1 ++ F6)) := fr g6 g35
            cases k with
            | false =>
              have y6 : EP1 (Rep X.K) X W S H F σ Q ((lcL G Tt E vs (ds.drop (i + 1)) acc (wipeE r6 vs)).bind (lcE i0 ds0 r1 vs)) := y6
              obtain ⟨F7, q7, s7⟩ := q6.wiped vs
              rw [hw] at q7
              rw [if_neg Bool.false_ne_true]
              refine ⟨hlt, S6, r6, F7, acc, ns, G3, bd6.narrow q7.ft s7, q7, g36.sub fun b z => ?_, y6⟩
              simp only [List.mem_append, List.mem_cons] at z ⊢
              rcases z with z | z | z
              · exact .inl z
              · exact .inr (.inl z)
              · exact .inr (.inr (s7 b z))
            | true =>
              have y6 : EP1 (Rep X.K) X W S H F σ Q (((E r6).bindS fun x r3 => if acc.length < sizeLine then lcL G Tt E vs (ds.drop (i + 1)) (acc ++ [x]) (wipeE r3 vs) else .stk).bind (lcE i0 ds0 r1 vs)) := y6
              rw [if_pos rfl]
              refine ⟨S6, r6, F6, q6, EP1.bindS y6 fun d7 r7 w7 S7 H7 F7 T7 e7 g7 q7 h7 f7 y7 => ?_⟩
              have bd7 : Bd X.K P T1 D0 S7 H7 acc ns G3 (T7 ++ F7) := bd6.step st g7 f7
              have g37 : Go S1 H1 (T1 ++ F1) S7 H7 ((D0 :: G3) ++ (T1 ++ (T7 ++ F7))) := by
                have := g7.frame ((D0 :: G3) ++ T1)
                rw [List.append_assoc, List.append_assoc] at this
                exact g36.trans this
              by_cases hz : acc.length < sizeLine
              · rw [if_pos hz] at y7
                obtain ⟨F8, q8, s8⟩ := q7.wiped vs
                rw [hw] at q8
                obtain ⟨b1, b2, b3⟩ := Bd.add bd7 st h7
                have q9 := b3 _ _ q7
                refine ⟨ns, bd7.hD, by rw [← bd7.rl.len]; exact hz, hlt, S7, r7, F8, acc ++ [d7], ns ++ [w7], G3 ++ T7, ?_, ?_, ?_, y7⟩
                · obtain ⟨F9, q10, s10⟩ := q9.wiped vs
                  exact b1.narrow (show Ft S7 _ F8 from ⟨q8.ft.nd, q8.ft.dj, fun b z => b1.ft.mu b (by simp [s8 b z]), b1.ft.sd⟩) s8
                · exact q8.go (upd_go q7.ft.sd bd7.hD) (show Ft S7 H7 [D0] from ⟨by simp, fun b z => bd7.ft.dj b (by simp at z; simp [z]), fun b z => bd7.ft.mu b (by simp at z; simp [z]), q7.ft.sd⟩)
                    (fun b z y => by
                      have e : b = D0 := by simpa using y
                      subst e
                      have nd := (List.nodup_cons.mp (show (b :: (G3 ++ (T1 ++ (T7 ++ F7)))).Nodup from bd7.ft.nd)).1
                      exact nd (by simp [s8 b z])) (show Ft S7 _ F8 from ⟨q8.ft.nd, q8.ft.dj, fun b z => b1.ft.mu b (by simp [s8 b z]), b1.ft.sd⟩)
                · refine (g37.trans b2).sub fun b z => ?_
                  simp only [List.mem_append, List.mem_cons] at z ⊢
                  rcases z with z | z | z
                  · exact .inl z
                  · exact .inr (.inl z)
                  · exact .inr (.inr (s8 b z))
              · rw [if_neg hz] at y7
                exact y7.elim
        · have e : i = ds.length := by omega
          subst e
          refine .inl ⟨it.stop S3 H3 bd.p, ?_⟩
          rw [List.drop_length] at y3
          have ft : Ft S3 H3 ((D0 :: G3) ++ F3) := by
            have h1 : Ft S3 H3 ((D0 :: G3) ++ (T1 ++ F3)) := bd.ft
            exact h1.narrow x3.ft (fun b z => List.mem_append_right _ z)
          obtain ⟨F9, q9, s9⟩ := x3.unwipe.restore (vs := vs) x1 g3 f1
          have y3 : EP1 (Rep X.K) X W S H F σ Q (lcE i0 ds0 r1 vs acc (wipeE r3 vs)) := y3
          unfold lcE at y3
          split at y3
          · rename_i hn
            have hn := isNn_iff.mp hn
            have hl9 : i0 < (resE r1 (wipeE r3 vs) vs).length := (List.getElem?_eq_some_iff.mp hn).1
            have hp := bd.p
            rw [hP] at hp
            have ftT : Ft S3 H3 (T1 ++ F9) := (bd.ft.right).narrow q9.ft s9
            obtain ⟨F10, q10, s10⟩ := q9.back hl9 e0 hp ftT
            have sub : ∀ b ∈ F10, b ∈ T1 ++ F3 := fun b z => by
              rcases List.mem_append.mp (s10 b z) with z | z
              · exact List.mem_append_left _ z
              · exact List.mem_append_right _ (s9 b z)
            exact y3 (.ref D0) S3 H3 F10 (D0 :: G3) ((g1.trans g3).sub fun b z => by
              rcases List.mem_append.mp z with z | z
              · exact List.mem_append_left _ z
              · exact List.mem_append_right _ (sub b z)) q10 ⟨D0, ns, G3, rfl, bd.hD, rfl, bd.rl⟩ (bd.ft.narrow q10.ft sub)
          · exact y3.elim
    · exact y.elim
  · exact y.elim
theorem n_lcB {i0 : Nat} {f : List D → List D} {elt iter : Expr} {ifs : List Expr} {scope : Scope} (own : List (Str × Nat)) {ws : List Nat} {Gt : D → Env → Option Env} {Tt : BE} {Et : EE} (hc : X.calm = true) (hN : X.N.Nodup) (hi : DIB X W i0 tg iter f)
    (ok : BlkOk X.N X.env.scope scope own) (hg : ∀ (s : Shared) (H : Hp) (C : Addr) (cl : List (Str × Addr)) (fp : List Addr), DG (X.blk s H scope (compEnvC scope cl C X.env) fp) ws tg Gt)
    (ht : ∀ (s : Shared) (H : Hp) (C : Addr) (cl : List (Str × Addr)) (fp : List Addr), DTs (X.blk s H scope (compEnvC scope cl C X.env) fp) (W0 W.tb) ifs Tt)
    (he : ∀ (s : Shared) (H : Hp) (C : Addr) (cl : List (Str × Addr)) (fp : List Addr), DE (X.blk s H scope (compEnvC scope cl C X.env) fp) (W0 W.tb) elt Et) (hws : ∀ j ∈ ws, j ∈ own.map (·.2) := by decide) (hs : ∀ x, foldedSetIterable iter X.env x = pure x := by intro _; rfl) :
    DE X W (.ListComp elt [⟨tg, iter, ifs, 0⟩] scope pos) (eLcB i0 f Gt Tt Et (own.map (·.2))) := by
  obtain ⟨wi, qi, zi⟩ := hi
  exact ⟨_, pe_lc hc hN qi ok (fun s H C cl fp => (hg s H C cl fp).pg) (fun s H C cl fp => (ht s H C cl fp).pts) (fun s H C cl fp => (he s H C cl fp).pe) hs, rd_lcB (X := X) (W := W) zi hws⟩
theorem n_setLcB (i : Nat) {i0 : Nat} {f : List D → List D} {fx : List Nat} {elt iter : Expr} {ifs : List Expr} {scope : Scope} (own : List (Str × Nat)) {ws : List Nat} {Gt : D → Env → Option Env} {Tt : BE} {Et : EE} (hc : X.calm = true) (hN : X.N.Nodup)
    (hsw : swapsWith (.ListComp elt [⟨tg, iter, ifs, 0⟩] scope p2) (some (.Name x p)) pos.line X.env = pure true) (hit : DIB X W i0 tg iter f) (ok : BlkOk X.N X.env.scope scope own)
    (hg : ∀ (s : Shared) (H : Hp) (C : Addr) (cl : List (Str × Addr)) (fp : List Addr), DG (X.blk s H scope (compEnvC scope cl C X.env) fp) ws tg Gt)
    (ht : ∀ (s : Shared) (H : Hp) (C : Addr) (cl : List (Str × Addr)) (fp : List Addr), DTs (X.blk s H scope (compEnvC scope cl C X.env) fp) (W0 W.tb) ifs Tt)
    (he : ∀ (s : Shared) (H : Hp) (C : Addr) (cl : List (Str × Addr)) (fp : List Addr), DE (X.blk s H scope (compEnvC scope cl C X.env) fp) (W0 W.tb) elt Et) (hi : X.N[i]? = some x := by rfl) (hx : X.env.scope.names.lookup x = some .local := by rfl)
    (hws : ∀ j ∈ ws, j ∈ own.map (·.2) := by decide) (hfx : i ∉ fx := by decide) (hs : ∀ x, foldedSetIterable iter X.env x = pure x := by intro _; rfl) :
    DS X W fx (.Assign [.Name x p] (.ListComp elt [⟨tg, iter, ifs, 0⟩] scope p2) pos) (sSet i (eLcB i0 f Gt Tt Et (own.map (·.2)))) := by
  obtain ⟨wi, qi, zi⟩ := hit
  refine ⟨_, ps_setLc (te := tE X (W0 W.tb) Et) (tt := tT X (W0 W.tb) Tt) (g := tG X ws Gt) hc hN hi hx hsw qi ok (fun s H C cl fp => (hg s H C cl fp).pg) (fun s H C cl fp => (ht s H C cl fp).pts) (fun s H C cl fp => (he s H C cl fp).pe) hs, fun S H r σ F D0 x y => ?_⟩
  exact rd_lcB (X := X) (W := W) (Tt := Tt) (E := Et) zi hws S H r σ F _ x (SP1.thn y fun d r1 v S1 H1 F1 T1 g1 x1 h1 f1 y1 => setS_end hfx g1 x1 h1 f1 y1)
end
end DL

/-! DX31: xs[::-1] of a tuple or a list. -/
namespace HT
open PySem PySem.Spec PyProof.Rows
section
variable {prog : Program} {w : World} {A : Around} {E : Value → Shared → Prop} {s : Shared}
theorem sliceApplied_back {sl : Addr} {t : Tok} {n : Nat} {Q : Int × Int × Nat → Shared → Prop} (hs : s.heap.IsSliceOf sl .none .none (.int (-1) t))
    (h : Q ((n : Int) - 1, -1, n) s) : wpAny (model prog w) A (Builtin.Slice.sliceApplied (.ref sl) (pure (n : Int))) Q E s := by
  obtain ⟨os, hos, hcs, hds⟩ := id hs
  unfold Builtin.Slice.sliceApplied Builtin.Slice.sliceFields
  refine wpAny_bind (wpAny_bind (wpAny_field hos hds (x := .none) rfl (wpAny_bind (wpAny_field hos hds (x := .none) rfl (wpAny_bind (wpAny_field hos hds (x := .int (-1) t) rfl (wpAny_pure ?_)))))))
  refine wpAny_bind (slicePart_int ?_)
  show wpAny _ _ (if ((-1 : Int) == 0) = true then _ else _) _ _ s
  rw [if_neg (by decide)]
  refine wpAny_bind (slicePart_none (wpAny_bind (slicePart_none (wpAny_bind (wpAny_pure ?_)))))
  show wpAny _ _ (pure ((n : Int) - 1, (-1 : Int), Builtin.Slice.slicePlaces ((n : Int) - 1) (-1) (-1))) _ _ s
  have e : Builtin.Slice.slicePlaces ((n : Int) - 1) (-1) (-1) = n := by
    unfold Builtin.Slice.slicePlaces
    have h1 : ¬ ((-1 : Int) > 0) := by omega
    have e2 : (- (-1 : Int)) = 1 := rfl
    simp only [h1, if_false, e2, Int.ediv_one]
    split <;> omega
  rw [e]
  exact wpAny_pure h
theorem pick_back {α : Type} : ∀ (xs : List α), (List.range xs.length).filterMap (fun (m : Nat) => xs[((xs.length : Int) - 1 + (m : Int) * (-1)).toNat]?) = xs.reverse := by
  intro xs
  have key : ∀ (l : List Nat), (∀ m ∈ l, m < xs.length) → l.filterMap (fun (m : Nat) => xs[((xs.length : Int) - 1 + (m : Int) * (-1)).toNat]?) = l.filterMap (fun m => xs.reverse[m]?) := by
    intro l hl
    induction l with
    | nil => rfl
    | cons m l ih =>
      have hm := hl m (by simp)
      have e : ((xs.length : Int) - 1 + (m : Int) * (-1)).toNat = xs.length - 1 - m := by omega
      rw [List.filterMap_cons, List.filterMap_cons, e, List.getElem?_reverse hm, ih fun k hk => hl k (by simp [hk])]
  rw [key _ fun m hm => by simpa using hm]
  have := pick_run xs.reverse.toArray 0 xs.length
  rw [List.filterMap_map] at this
  simp only [List.drop_zero] at this
  have e3 : ((fun x => xs.reverse.toArray[x]?) ∘ fun x => 0 + x) = fun m => xs.reverse[m]? := by
    funext m
    simp
  rw [e3] at this
  rw [this, List.take_of_length_le (by simp)]
theorem getItem_tuple_back {t sl : Addr} {u : Tok} {items : Array Value} {Q : Value → Shared → Prop} (ht : IsTup s.heap t items) (hs : s.heap.IsSliceOf sl .none .none (.int (-1) u))
    (h : Q (.ref s.heap.objs.size) { s with heap := s.heap.push { cls := .type "tuple", data := .seq items.toList.reverse.toArray } })
    (hsz : items.size ≤ sizeLine) : wpAny (model prog w) A (getItem (.ref t) (.ref sl)) Q E s := by
  have htake : sizeOk (.seq items.toList.reverse.toArray) := by
    show items.toList.reverse.toArray.size ≤ sizeLine
    rw [List.size_toArray, List.length_reverse, Array.length_toList]
    exact hsz
  obtain ⟨os, hos, hcs, hds⟩ := id hs
  have hTs : s.TypeIs (.ref sl) "slice" := ⟨os, hos, hcs⟩
  unfold getItem
  try with_reducible refine wpAny_holding ?_
  first | refine wpAny_bind (wpAny_pure ?_) | skip
  refine wpAny_bind (wpAny_sequenceKey ht.typeIs (by decide) ?_)
  refine wpAny_bind (wpAny_callSpecial?_slot (name := Str.ofString "__getitem__") ht.typeIs PyProof.Rows.slot_tuple_getitem
    (wpAny_call_entry PyProof.Rows.slot_tuple_getitem ht.typeIs entry_tuple_getitem ?_ (args_tuple_getitem _ _)))
  show wpAny _ _ (Builtin.Tuple.tupleItemsOf (.ref t) >>= _) _ _ s
  refine wpAny_bind (tupleItemsOf_ ht ?_)
  refine wpAny_bind (wpAny_typeOf hTs ?_)
  rw [if_pos (by decide)]
  refine wpAny_bind (sliceApplied_back hs ?_)
  have hno : ¬ ((((items.size : Int) - 1) == 0 && (-1 : Int) == 1 && items.size == items.size) = true) := by
    intro q
    rw [Bool.and_eq_true, Bool.and_eq_true] at q
    exact absurd q.1.2 (by decide)
  show wpAny _ _ (if ((((items.size : Int) - 1) == 0 && (-1 : Int) == 1 && items.size == items.size) = true) then _ else _) _ _ s
  rw [if_neg hno]
  have ep : ((List.range items.size).filterMap fun (m : Nat) => items[((items.size : Int) - 1 + (m : Int) * (-1)).toNat]?).toArray = items.toList.reverse.toArray := by
    have := pick_back items.toList
    simp only [Array.length_toList, Array.getElem?_toList] at this
    rw [this]
  rw [ep]
  first
    | exact wpAny_bind (m := Builtin.Tuple.tupleExact _) (wpAny_newObj_type (wpAny_pure ⟨_, rfl, wpAny_pure h⟩) htake)
    | exact wpAny_bind (m := Builtin.Tuple.tupleExact _) (wpAny_newObj_type (wpAny_bind (wpAny_pure (wpAny_pure ⟨_, rfl, wpAny_pure h⟩))) htake)
    | exact wpAny_bind (wpAny_bind (m := Builtin.Tuple.tupleExact _) (wpAny_newObj_type (wpAny_pure (wpAny_pure ⟨_, rfl, wpAny_pure h⟩)) htake))
    | exact wpAny_bind (wpAny_bind (m := Builtin.Tuple.tupleExact _) (wpAny_newObj_type (wpAny_pure ⟨_, rfl, wpAny_pure h⟩) htake))
theorem slicePick_back (its : List Value) : slicePick its.toArray none none (some (-1)) = its.reverse.toArray := by
  unfold slicePick sliceBounds
  simp only [Option.getD_some, show ¬ ((-1 : Int) > 0) by decide, if_false, List.size_toArray]
  unfold sliceRange
  simp only [show ¬ ((-1 : Int) > 0) by decide, if_false, List.filterMap_map]
  have e : (if ((its.length : Int) - 1 > -1) then ((its.length : Int) - 1 - -1 - -1 - 1) / (- -1) else 0).toNat = its.length := by
    have e2 : (- (-1 : Int)) = 1 := rfl
    rw [e2, Int.ediv_one]
    split <;> omega
  rw [e]
  have := pick_back its
  have e4 : ((fun x => its.toArray[x]?) ∘ fun (k : Nat) => ((its.length : Int) - 1 + -1 * (k : Int)).toNat) = fun (m : Nat) => its[((its.length : Int) - 1 + (m : Int) * (-1)).toNat]? := by
    funext m
    simp only [Function.comp, List.getElem?_toArray]
    rw [Int.mul_comm]
  rw [e4, this]
end
end HT
namespace L2
open PySem PySem.Spec PyProof.Rows
section
variable {X : Cx} {e : Expr} {te : TE} {st : Expr} {tl : TO} {pos p2 : Pos}
/-- a tuple's items from the last to the first, a new tuple -/
def rBkA (K : PySem.W.Frag) : V → Hp → VK → Prop := fun x H Q => ∃ a xs, x = .ref a ∧ ((SqT K H a xs ∧ ∀ p, H p = none → Q (.ref p) (upd H p (.tup xs.reverse))) ∨ (SqL K H a xs ∧ ∀ p, H p = none → Q (.ref p) (upd H p (.lst xs.reverse))))
def tBk (K : PySem.W.Frag) (te : TE) (tl : TO) : TE := fun σ H Q => te σ H fun x H1 => tl σ H1 fun o H2 => o = some (-1) ∧ rBkA K x H2 Q
theorem getItem_back {pins : List (Addr × Obj)} {s : Shared} {σ : St} {H : Hp} {x : V} {v : Value} {sl : Addr} {u : Tok} {Q : VK} (I : Inv X pins σ H s) (rx : RelV x v) (hs : s.heap.IsSliceOf sl .none .none (.int (-1) u)) (h : rBkA X.K x H Q) :
    ∃ T id, typeLookup (.type T) "__getitem__" = pure (some (.builtin id)) ∧ s.TypeIs v T ∧ wpAny (model X.prog X.w) X.A (getItem v (.ref sl)) (EP X pins σ Q) X.xe s := by
  obtain ⟨a, xs, rfl, h⟩ := h
  cases rx
  rcases h with ⟨hx, q⟩ | ⟨hx, q⟩
  · obtain ⟨its, r, ht, hz⟩ := I.tuple hx
    have hlen : its.toArray.size = xs.length := by rw [List.size_toArray]; exact r.length.symm
    refine ⟨"tuple", _, PyProof.Rows.slot_tuple_getitem.lookup, ht.typeIs, ?_⟩
    refine HT.getItem_tuple_back ht hs ?_ (by rw [hlen]; exact hz)
    refine ⟨.ref s.heap.objs.size, _, I.laid (t' := s.toks) (o := .tup xs.reverse) (fun b ob q => Heap.get?_push_of_some _ q) (Nat.le_refl _) ?_, rfl, q _ (I.hok.fresh (Nat.le_refl _))⟩
    exact ⟨by rw [List.length_reverse]; exact hz, _, r.reverse, IsTup.new _ _⟩
  · obtain ⟨its, r, ht, hz⟩ := I.list hx
    have hlen := r.length
    refine ⟨"list", _, slot_list_getitem.lookup, ht.isList.typeIs, ?_⟩
    refine wpAny_getItem_list_slice ht.isList hs .none .none (.int (-1) u) (by simp) ?_ (by rw [List.size_toArray] <;> omega)
    rw [HT.slicePick_back]
    refine ⟨.ref s.heap.objs.size, _, I.laid (t' := s.toks) (o := .lst xs.reverse) (fun b ob q => Heap.get?_push_of_some _ q) (Nat.le_refl _) ?_, rfl, q _ (I.hok.fresh (Nat.le_refl _))⟩
    exact ⟨by rw [List.length_reverse]; exact hz, _, 0, r.reverse, Heap.get?_push_size _ rfl⟩
/-- a[::-1] -/
theorem pe_back (he : PE X e te) (hl : PO X (some st) tl) : PE X (.Subscript e (.Slice none none (some st) p2) pos) (tBk X.K te tl) := by
  refine ⟨fun pins s σ H Q I h => ?_⟩
  refine Subscript_ (thn (he.run pins s σ H _ I h) fun v s1 ⟨x, H1, I1, r1, q1⟩ => ?_)
  refine wpAny_Slice ?_
  rw [evalPart_none]
  refine wpAny_pure (wpAny_pure (thn (hl.run pins s1 σ H1 _ I1 q1) fun vl s2 ⟨l, H2, I2, pl, q2⟩ => ?_))
  obtain ⟨rfl, q3⟩ := q2
  obtain ⟨u, rfl⟩ : ∃ u, vl = .int (-1) u := by cases pl; exact ⟨_, rfl⟩
  have I4 : Inv X pins σ H2 { s2 with heap := s2.heap.push { cls := .type "slice", data := .fields #[.none, .none, .int (-1) u] } } := I2.kept (t' := s2.toks) fun b ob q => Heap.get?_push_of_some _ q
  obtain ⟨T, id, hT, ht, hg⟩ := getItem_back (sl := s2.heap.objs.size) I4 r1 (Heap.IsSliceOf.new ..) q3
  show wpAny (model X.prog X.w) X.A (subscriptTail e (.Slice none none (some st) p2) v (.ref s2.heap.objs.size)) (EP X pins σ Q) X.xe { s2 with heap := s2.heap.push { cls := .type "slice", data := .fields #[.none, .none, .int (-1) u] } }
  exact tail_any (ops := [v, .ref s2.heap.objs.size]) ht hT hg (by with_unfolding_all rfl)
end
end L2
namespace DL
open PySem PySem.Spec PyProof.Rows L2
section
variable {X : Cx} {W : WT} {K : PySem.W.Frag} {e a b c : Expr} {st : Expr} {S S' S1 : Addr → Prop} {H H' H1 : Hp} {F F' F1 T : Fp} {σ : L2.St} {r : DL.Env} {pos p p2 : Pos} {x : Str}
def dBk : D → Option D
  | .tup ds => if D.shL ds = true then some (.tup ds.reverse) else none
  | .lst _ ds => if D.shL ds = true then some (.lst true ds.reverse) else none
  | _ => none
def bkO (o : Option Int) (x : D) : Option D := if o = some (-1) then dBk x else none
def pBk (A : EP) (L : DL.Env → PR (Option Int)) : EP := fun r => (A r).bind fun x => (L r).bind fun l => opP (bkO l) x
def eBk (E : EE) (L : DL.Env → PR (Option Int)) : EE := fun r => (E r).bind fun x r1 => if x.sh = true then ((L r1).up r1).bind fun l r2 => opE (bkO l) x r2 else .stk
@[simp] theorem eBk_ap {E : EE} {L : DL.Env → PR (Option Int)} : eBk E L r = (E r).bind fun x r1 => if x.sh = true then ((L r1).up r1).bind fun l r2 => opE (bkO l) x r2 else .stk := (rfl)
theorem n_pbk {A : EP} {L : DL.Env → PR (Option Int)} (ha : DP X W e A) (hl : DPO X W (some st) L) : DP X W (.Subscript e (.Slice none none (some st) p2) pos) (pBk A L) := by
  obtain ⟨t, p, q⟩ := ha; obtain ⟨t1, p1, q1⟩ := hl
  refine ⟨_, pe_back p p1, fun S H r σ F Q x y => q S H r σ F _ x (PP1.bind (Go.refl _ _ _) y fun d v S1 H1 T1 g1 f1 h1 y1 => ?_)⟩
  have x1 := x.ext0 g1 f1
  refine q1 S1 H1 r σ F _ x1 (PP1.bind g1 y1 fun l l' S2 H2 T2 g2 f2 h2 y2 => ?_)
  obtain ⟨rfl, rfl⟩ := h2
  have x2 := x1.ext0 g2 f2
  have h1' := Rep.go g2 f1 d v T1 (fun _ _ z => nomatch z) h1
  have g12 := g1.trans g2
  obtain ⟨d', e', y4⟩ := opP_some y2
  unfold bkO at e'
  split at e'
  case isFalse => cases e'
  case isTrue hm =>
  refine ⟨hm, ?_⟩
  unfold dBk at e'
  split at e'
  · rename_i ds
    split at e'
    · rename_i hs
      cases e'
      obtain ⟨a, vs, rfl, hq, rl⟩ := h1'.tup_at hs
      refine ⟨a, vs, rfl, .inl ⟨hq, fun pp hp => ?_⟩⟩
      exact y4 (.ref pp) S2 _ [] (g12.trans (go_new f2.sd hp [] (fun _ z => nomatch z))) (Ft.nil (sd_new f2.sd)) (rep_tup f2.sd hp rl.rev)
    · cases e'
  · rename_i o ds
    split at e'
    · rename_i hs
      cases e'
      obtain ⟨a, vs, rfl, hq, rl⟩ := h1'.lst_at hs
      refine ⟨a, vs, rfl, .inr ⟨.inl (.inl hq), fun pp hp => ?_⟩⟩
      exact y4 (.ref pp) S2 _ [pp] (g12.trans ((go_new f2.sd hp [pp] (fun _ z => by simpa using z)).sub fun _ z => nomatch z)) (Ft.nil (sd_new f2.sd)) (rep_lst f2.sd hp rl.rev)
    · cases e'
  · cases e'
theorem n_ebk {E : EE} {L : DL.Env → PR (Option Int)} (ha : DE X W e E) (hl : DPO X W (some st) L) : DE X W (.Subscript e (.Slice none none (some st) p2) pos) (eBk E L) := by
  obtain ⟨t, p, q⟩ := ha; obtain ⟨t1, p1, q1⟩ := hl
  refine ⟨_, pe_back p p1, fun S H r σ F Q x y => q S H r σ F _ x (EP1.bind (Go.refl _ _ _) y fun d r1 v S1 H1 F1 T1 g1 x1 h1 f1 y1 => ?_)⟩
  split at y1
  case isFalse => exact y1.elim
  case isTrue hsh =>
  have eT : T1 = [] := Rep.sh d v T1 hsh h1
  subst eT
  have g1 : Go S H F S1 H1 F1 := g1.sub fun b z => by simpa using z
  refine q1 S1 H1 r1 σ F1 _ x1 (EP1.bindP g1 x1 y1 fun l l' S2 H2 T2 g2 f2 h2 y2 => ?_)
  obtain ⟨rfl, rfl⟩ := h2
  have x3 := x1.ext0 g2 f2
  have h1' := Rep.go g2 (Ft.nil x1.ft.sd) d v [] (fun _ z => nomatch z) h1
  have g13 : Go S H F S2 H2 F1 := g1.trans (go_side g2 F1)
  obtain ⟨d', e', y4⟩ := opE_some y2
  unfold bkO at e'
  split at e'
  case isFalse => cases e'
  case isTrue hm =>
  refine ⟨hm, ?_⟩
  unfold dBk at e'
  split at e'
  · rename_i ds
    split at e'
    · rename_i hs
      cases e'
      obtain ⟨a, vs, rfl, hq, rl⟩ := h1'.tup_at hs
      refine ⟨a, vs, rfl, .inl ⟨hq, fun pp hp => ?_⟩⟩
      have gn := go_new (S := S2) x3.ft.sd hp [] (fun _ z => nomatch z) (o := .tup vs.reverse)
      have x4 := x3.ext0 gn (Ft.nil (sd_new x3.ft.sd))
      exact y4 (.ref pp) S2 _ F1 [] (by simpa using g13.trans (go_side gn F1)) x4 (rep_tup x3.ft.sd hp rl.rev) (by simpa using x4.ft)
    · cases e'
  · rename_i o ds
    split at e'
    · rename_i hs
      cases e'
      obtain ⟨a, vs, rfl, hq, rl⟩ := h1'.lst_at hs
      refine ⟨a, vs, rfl, .inr ⟨.inl (.inl hq), fun pp hp => ?_⟩⟩
      have g0 := go_new (S := S2) x3.ft.sd hp [pp] (fun _ z => by simpa using z) (o := .lst vs.reverse)
      have rp : Rep X.K S2 (upd H2 pp (.lst vs.reverse)) (.lst true ds.reverse) (.ref pp) [pp] := rep_lst x3.ft.sd hp rl.rev
      have f5 : Ft S2 (upd H2 pp (.lst vs.reverse)) [pp] := ⟨by simp, fun b z hS => by
        have eb : b = pp := by simpa using z
        subst eb
        exact x3.ft.sd _ hS hp, fun b z => by
        have eb : b = pp := by simpa using z
        subst eb
        rw [upd_same]; trivial, sd_new x3.ft.sd⟩
      obtain ⟨a1, a2, a3⟩ := own_end (T1 := []) (by simpa using g13) x3 g0 f5
      exact y4 (.ref pp) S2 _ F1 [pp] a1 a2 rp a3
    · cases e'
  · cases e'
end
end DL

/-! DX32: f(e, .., *t), shared values. -/
namespace L2
open PySem PySem.Spec PyProof.Rows
section
variable {X : Cx} {CX : CXT} {k : Nat} {f : Addr} {fd : FuncData} {ps : List Str} {sp : Sp} {E : St → XK} {x : Str} {p pos : Pos} {e : Expr} {es : List Expr} {t : TA}
theorem pe_callSt (F : FnOk X.prog X.w X.K X.mg X.base CX k f fd ps sp) (hr : Room k X.A) (hg : Gl X x) (hm : X.mg x = some (.ref f)) (hk : PySem.W.keepIn X.K (.ref f) = true) (hb : Binds X.K fd ps []) (hx : ∀ σ, PassesAt CX X σ (E σ))
    (ha : PA X (e :: es) t) (hdb : (x == ("__debug__" : Str)) = false := by decide) (he : starEach (e :: es) X.env = (false, eval e X.env) :: starEach es X.env := by rfl) (hst : (backTo pos (starEach es X.env)).any (·.1) = true := by rfl) :
    PE X (.Call (.Name x p) (e :: es) [] pos) (tCallS sp E t) := by
  refine ⟨fun pins s σ H Q I h => ?_⟩
  refine wpAny_Call_Name_kw (ld_glob I hg hm ?_ hdb)
  refine PySem.W.callWith_S2 (h₀ := X.base) I.ok.mod.kin hk (thn (ha.run pos pins s σ H _ I h) fun us s1 ⟨vs, H1, I1, r, q⟩ => ⟨I1.kIn, ?_⟩) he hst
  exact run_fnS F hr hb (hx σ) I1 r q
end
end L2
namespace DL
open PySem PySem.Spec PyProof.Rows L2
section
variable {X : Cx} {W : WT} {k : Nat} {f : Addr} {fd : FuncData} {ps : List Str} {x : Str} {p pos : Pos} {e : Expr} {es : List Expr} {A : EP} {PM : DL.Env → PR (List D)}
theorem n_pcallSt {m : List D → PR D} (tk : L2N.Takes X W) (Gf : FnD X.prog X.w X.K X.mg X.base W.tb k f fd ps m) (hr : Room k X.A) (hm : X.mg x = some (.ref f)) (hk : PySem.W.keepIn X.K (.ref f) = true) (hb : Binds X.K fd ps []) (ha : DPA X W (e :: es) PM) (hg : Gl X x := by rfl)
    (hdb : (x == ("__debug__" : Str)) = false := by decide) (he : starEach (e :: es) X.env = (false, eval e X.env) :: starEach es X.env := by rfl) (hst : (backTo pos (starEach es X.env)).any (·.1) = true := by rfl) : DP X W (.Call (.Name x p) (e :: es) [] pos) (pCall ps.length m PM) := by
  obtain ⟨t, h, z⟩ := ha
  exact ⟨_, pe_callSt Gf hr hg hm hk hb (fun σ => L2N.passAt tk σ) h hdb he hst, RdC.pp (fun _ _ _ _ h => h) z⟩
theorem n_epcallSt {m : List D → PR D} (tk : L2N.Takes X W) (Gf : FnD X.prog X.w X.K X.mg X.base W.tb k f fd ps m) (hr : Room k X.A) (hm : X.mg x = some (.ref f)) (hk : PySem.W.keepIn X.K (.ref f) = true) (hb : Binds X.K fd ps []) (ha : DPA X W (e :: es) PM) (hg : Gl X x := by rfl)
    (hdb : (x == ("__debug__" : Str)) = false := by decide) (he : starEach (e :: es) X.env = (false, eval e X.env) :: starEach es X.env := by rfl) (hst : (backTo pos (starEach es X.env)).any (·.1) = true := by rfl) : DE X W (.Call (.Name x p) (e :: es) [] pos) (eUp (pCall ps.length m PM)) := by
  obtain ⟨t, h, z⟩ := ha
  exact ⟨_, pe_callSt Gf hr hg hm hk hb (fun σ => L2N.passAt tk σ) h hdb he hst, RdC.pe (fun _ _ _ _ h => h) z⟩
end
end DL

/-! DX33: [f, g, ..][w](e, ..): one of some defs is called, shared values. -/
namespace L2
open PySem PySem.Spec PyProof.Rows
section
variable {X : Cx} {CX : CXT} {E : St → XK} {pos : Pos} {fe e : Expr} {es : List Expr} {tf : TE} {t : TA}
def tCallF (X : Cx) (CX : CXT) (E : St → XK) (tf : TE) (t : TA) : TE := fun σ H Q => tf σ H fun y H1 => ∃ (k : Nat) (f : Addr) (fd : FuncData) (ps : List Str) (sp : Sp),
  y = V.ref f ∧ FnOk X.prog X.w X.K X.mg X.base CX k f fd ps sp ∧ Room k X.A ∧ Binds X.K fd ps [] ∧ PySem.W.keepIn X.K (.ref f) = true ∧ t σ H1 fun vs H2 => sp vs H2 Q (E σ)
theorem pe_callF (hf : PE X fe tf) (hx : ∀ σ, PassesAt CX X σ (E σ)) (ha : PA X (e :: es) t)
    (ht : eval (.Call fe (e :: es) [] pos) X.env = (do callWith pos (← eval fe X.env) [] (backTo pos (starEach (e :: es) X.env)) (backToKw pos (keywordEach [] X.env))) := by rfl)
    (he : starEach (e :: es) X.env = (false, eval e X.env) :: starEach es X.env := by rfl) (hpl : (backTo pos (starEach es X.env)).any (·.1) = false := by rfl) : PE X (.Call fe (e :: es) [] pos) (tCallF X CX E tf t) := by
  refine ⟨fun pins s σ H Q I h => ?_⟩
  refine Call_ (thn (hf.run pins s σ H _ I h) fun u s1 ⟨y, H1, I1, ry, k, f, fd, ps, sp, ey, F, hr, hb, hk, q⟩ => ?_) ht
  subst ey
  obtain rfl : u = Value.ref f := ry
  refine PySem.W.callWith_K (h₀ := X.base) I1.ok.mod.kin hk (thn (ha.run pos pins s1 σ H1 _ I1 q) fun us s2 ⟨vs, H2, I2, r, q2⟩ => ⟨I2.kIn, ?_⟩) he hpl
  exact run_fnS F hr hb (hx σ) I2 r q2
/-- defs, named -/
def tFs (as : List Addr) : TA := fun _ H Q => Q (as.map V.ref) H
end
end L2
namespace DL
open PySem PySem.Spec PyProof.Rows L2
def selM (ms : List (List D → PR D)) : D → Option (List D → PR D)
  | .int i => if 0 ≤ i then ms[i.toNat]? else none
  | _ => none
def selP (n : Nat) (A : PR (List D)) : Option (List D → PR D) → PR D
  | some m => A.bind (callP n m)
  | none => .stk
def pSel (n : Nat) (ms : List (List D → PR D)) (W : EP) (A : DL.Env → PR (List D)) : EP := fun r => (W r).bind fun w => selP n (A r) (selM ms w)
@[simp] theorem pSel_ap {n : Nat} {ms : List (List D → PR D)} {W : EP} {A : DL.Env → PR (List D)} {r : DL.Env} : pSel n ms W A r = (W r).bind fun w => selP n (A r) (selM ms w) := (rfl)
@[simp] theorem selP_some {n : Nat} {A : PR (List D)} {m : List D → PR D} : selP n A (some m) = A.bind (callP n m) := (rfl)
@[simp] theorem selM_int {ms : List (List D → PR D)} {i : Int} : selM ms (.int i) = if 0 ≤ i then ms[i.toNat]? else none := (rfl)
section
variable {X : Cx} {W : WT} {k n : Nat} {f : Addr} {fd : FuncData} {ps : List Str} {x : Str} {p pos p1 p2 : Pos} {e we : Expr} {es fes : List Expr} {A : DL.Env → PR (List D)} {WP : EP} {m : List D → PR D} {as : List Addr} {ms : List (List D → PR D)}
/-- defs that a display names -/
structure FnL (X : Cx) (W : WT) (n : Nat) (es : List Expr) (as : List Addr) (ms : List (List D → PR D)) : Prop where
  pa : PA X es (tFs as)
  ok : ∀ (i : Nat) (m : List D → PR D), ms[i]? = some m → ∃ (k : Nat) (f : Addr) (fd : FuncData) (ps : List Str), as[i]? = some f ∧ ps.length = n ∧ FnD X.prog X.w X.K X.mg X.base W.tb k f fd ps m ∧ Room k X.A ∧ Binds X.K fd ps [] ∧ PySem.W.keepIn X.K (.ref f) = true
  len : as.length ≤ sizeLine
theorem n_fnil : FnL X W n [] [] [] := ⟨pa_nil, (by intro i m h; simp at h), by simp⟩
theorem n_fcons (Gf : FnD X.prog X.w X.K X.mg X.base W.tb k f fd ps m) (hr : Room k X.A) (hm : X.mg x = some (.ref f)) (hk : PySem.W.keepIn X.K (.ref f) = true) (hb : Binds X.K fd ps []) (hl : ps.length = n) (r : FnL X W n es as ms) (hz : as.length < 100) (hg : Gl X x := by rfl)
    (hdb : (x == ("__debug__" : Str)) = false := by decide) (hs : starEach (.Name x p :: es) X.env = (false, eval (.Name x p) X.env) :: starEach es X.env := by rfl) : FnL X W n (.Name x p :: es) (f :: as) (m :: ms) := by
  refine ⟨?_, fun i m' h => ?_, by rw [List.length_cons]; show _ ≤ 16777216; omega⟩
  · exact pa_cons (pe_glob hg hm (show RelV (.ref f) (.ref f) from rfl) hdb) r.pa hs
  · cases i with
    | zero => cases h; exact ⟨k, f, fd, ps, rfl, hl, Gf, hr, hb, hk⟩
    | succ i => exact r.ok i m' h
theorem n_epcallSel (tk : L2N.Takes X W) (hw : DP X W we WP) (fl : FnL X W n fes as ms) (ha : DPA X W (e :: es) A) (hs : PlainIx we := by intro _ _; rfl)
    (ht : eval (.Call (.Subscript (.List fes p1) we p2) (e :: es) [] pos) X.env = (do callWith pos (← eval (.Subscript (.List fes p1) we p2) X.env) [] (backTo pos (starEach (e :: es) X.env)) (backToKw pos (keywordEach [] X.env))) := by rfl)
    (he : starEach (e :: es) X.env = (false, eval e X.env) :: starEach es X.env := by rfl) (hpl : (backTo pos (starEach es X.env)).any (·.1) = false := by rfl) :
    DE X W (.Call (.Subscript (.List fes p1) we p2) (e :: es) [] pos) (eUp (pSel n ms WP A)) := by
  obtain ⟨tw, pw, qw⟩ := hw
  obtain ⟨t, h, z⟩ := ha
  refine ⟨_, pe_callF (pe_ix ix_list (pe_lst fl.pa) pw hs) (fun σ => L2N.passAt tk σ) h ht he hpl, fun S H r σ F Q x y => ?_⟩
  have y : EP1 (Rep X.K) X W S H F σ Q ((pSel n ms WP A r).up r) := y
  refine ⟨by rw [List.length_map]; exact fl.len, fun q hq => ?_⟩
  have g1 : Go S H [] S (upd H q (.lst (as.map V.ref))) [] := go_new x.ft.sd hq [] (fun _ z => nomatch z)
  have f1 : Ft S (upd H q (.lst (as.map V.ref))) [] := Ft.nil (sd_new x.ft.sd)
  have x1 := x.ext0 g1 f1
  refine qw S _ r σ F _ x1 ?_
  unfold pSel at y
  cases eW : WP r with
  | stk => rw [eW] at y; exact y
  | exc c => rw [eW] at y; exact fun S' H' g f => y S' H' F (go_side (g1.trans g) F) (x1.ext0 g f)
  | ok w =>
    rw [eW] at y
    intro wv S2 H2 T2 g2 f2 h2
    have y : EP1 (Rep X.K) X W S H F σ Q ((selP n (A r) (selM ms w)).up r) := y
    cases w with
    | int i =>
      have y : EP1 (Rep X.K) X W S H F σ Q ((selP n (A r) (if 0 ≤ i then ms[i.toNat]? else none)).up r) := y
      by_cases c : 0 ≤ i
      · rw [if_pos c] at y
        cases em : ms[i.toNat]? with
        | none => rw [em] at y; exact y.elim
        | some m =>
          rw [em] at y
          have y : EP1 (Rep X.K) X W S H F σ Q (((A r).bind (callP n m)).up r) := y
          obtain ⟨k, f, fd, ps, ea, hl, G, hr, hb, hk⟩ := fl.ok _ _ em
          obtain ⟨rfl, rfl⟩ := h2
          subst hl
          have hq2 : H2 q = some (.lst (as.map V.ref)) := g2.fr q _ upd_same (fun z => nomatch z) trivial
          refine ⟨q, as.map V.ref, i, .ref f, rfl, rfl, .inl (.of hq2), ?_, k, f, fd, ps, _, rfl, G, hr, hb, hk, ?_⟩
          · exact atI_nat c (by rw [List.getElem?_map, ea]; rfl)
          · have x2 := x1.ext0 g2 f2
            exact RdC.pe (fun _ _ _ _ h => h) z S2 H2 r σ F Q x2 (EP1.step (go_side (g1.trans g2) F) y)
      · rw [if_neg c] at y
        exact y.elim
    | _ => exact y.elim
end
end DL

/-! DX34: a def of four that changes its last two arguments, names' own. -/
namespace DL
open PySem PySem.Spec PyProof.Rows L2
inductive MR2 where
  | ok (d o1 o2 : D)
  | stk
def spM2 (K : PySem.W.Frag) (tb : List Addr) (m : List D → MR2) : Sp := fun vs H Q _ => vs.length = 4 ∧ ∃ S ds T, RepL K S H ds vs T ∧ Ft S H T ∧ (∀ P ∈ tb, TabG H P) ∧ match m ds with
  | .ok d o1 o2 => ∀ v S' H' T1 T2 T3, Go S H T S' H' (T1 ++ (T2 ++ T3)) → Rep K S' H' d v T1 → Rep K S' H' o1 (vs.getD 2 .non) T2 → Rep K S' H' o2 (vs.getD 3 .non) T3 → Ft S' H' (T1 ++ (T2 ++ T3)) → Q v H'
  | .stk => False
abbrev FnM2 (P : Program) (w : World) (K : PySem.W.Frag) (mg : Str → Option Value) (base : Heap) (tb : List Addr) (k : Nat) (f : Addr) (fd : FuncData) (ps : List Str) (m : List D → MR2) : Prop := FnOk P w K mg base (L2N.CX P w) k f fd ps (spM2 K tb m)
def slotI (r : Env) (i : Nat) : Option D := match r[i]? with
  | some (some o) => some o
  | _ => none
theorem slotI_some {r : Env} {i : Nat} {o : D} (h : slotI r i = some o) : r[i]? = some (some o) := by
  unfold slotI at h
  split at h
  · rename_i e; cases h; exact e
  · cases h
def out2 (d : D) (r : Env) : MR2 := match slotI r 2, slotI r 3 with
  | some a, some b => .ok d a b
  | _, _ => .stk
def outM2 : SR → MR2
  | .nx r => out2 .non r
  | .rt d r => out2 d r
  | _ => .stk
section
variable {tb : List Addr} {P : Program} {w : World} {K : PySem.W.Frag} {mg : Str → Option Value} {base : Heap} {x qual : Str} {st : Stmt} {f : Addr} {fd : FuncData} {N ps : List Str} {k : Nat}
theorem fnM2_of {m : List D → MR2} {B : Env → SR} (F : Fun K x qual st f fd) (Sc : FnScope N ps (defScope st)) (h4 : ps.length = 4)
    (hb : ∀ (cdv : Value) (A : Around) (outer : List PySem.Env) (s : Shared) (H : Hp) (E : XK), fd.code = cdv → Room k (A.deeper (envOfC qual (defScope st) s.heap.objs.size f cdv)) → DSs (cxOf (L2N.CX P w) P w K mg base N qual (defScope st) f cdv A outer s H E) (wE tb E) [2, 3] (defBody st) B)
    (hm : ∀ ds : List D, ds.length = ps.length → m ds = outM2 (B (startE N.length ds))) : FnM2 P w K mg base tb (k + 1) f fd ps m := by
  refine fun_okC F Sc (fun vs H Q E h => h.1.trans h4.symm) (fun cdv A outer s H vs Q E hcd hr h => ?_)
  obtain ⟨t, q, z⟩ := hb cdv A outer s H E hcd hr
  obtain ⟨hl, S, ds, T, rl, ft, tb0, h⟩ := h
  refine ⟨t, q, z S H (startE N.length ds) (L2.start N vs) T _ ⟨ft, ?_, tb0⟩ ?_⟩
  · unfold startE L2.start
    rw [rl.len]
    exact repE_start rl
  · have hlen : ds.length = ps.length := by rw [rl.len, h4]; exact hl
    rw [hm ds hlen] at h
    obtain ⟨v0, v1, v2, v3, ev⟩ : ∃ v0 v1 v2 v3, vs = [v0, v1, v2, v3] := by
      match vs, hl with
      | [a, b, c, d], _ => exact ⟨a, b, c, d, rfl⟩
    subst ev
    have s2 : (L2.start N [v0, v1, v2, v3])[2]? = some (some v2) := rfl
    have s3 : (L2.start N [v0, v1, v2, v3])[3]? = some (some v3) := rfl
    have last : ∀ {r : Env} {a b : D} {σ' : L2.St} {S' : Addr → Prop} {H' : Hp} {F' : Fp}, r[2]? = some (some a) → r[3]? = some (some b) → At K tb S' H' r σ' F' → Fix [2, 3] (L2.start N [v0, v1, v2, v3]) σ' → ∃ T2 T3, Rep K S' H' a v2 T2 ∧ Rep K S' H' b v3 T3 ∧ (∀ c ∈ T2 ++ T3, c ∈ F') ∧ Ft S' H' (T2 ++ T3) := fun {r a b σ' S' H' F'} ea eb x' fi => by
      obtain ⟨v, T2, F2, a1, a2, a3, a4, a5⟩ := x'.take ea
      have := fi.at_ 2 (by simp)
      rw [s2, a1] at this
      cases this
      have e' : (r.set 2 none)[3]? = some (some b) := by rw [List.getElem?_set_ne (by decide)]; exact eb
      obtain ⟨w, T3, F3, b1, b2, b3, b4, b5⟩ := a3.take e'
      have := fi.at_ 3 (by simp)
      rw [s3, b1] at this
      cases this
      refine ⟨T2, T3, a2, b2, fun c hc => ?_, a4.narrow b4.left fun c hc => (b5 c).mp (List.mem_append_left _ hc)⟩
      rcases List.mem_append.mp hc with hc | hc
      · exact (a5 c).mp (List.mem_append_left _ hc)
      · exact (a5 c).mp (List.mem_append_right _ ((b5 c).mp (List.mem_append_left _ hc)))
    have h : match outM2 (B (startE N.length ds)) with
      | .ok d o1 o2 => ∀ v S' H' T1 T2 T3, Go S H T S' H' (T1 ++ (T2 ++ T3)) → Rep K S' H' d v T1 → Rep K S' H' o1 v2 T2 → Rep K S' H' o2 v3 T3 → Ft S' H' (T1 ++ (T2 ++ T3)) → Q v H'
      | .stk => False := h
    cases eB : B (startE N.length ds) with
    | nx r =>
      rw [eB] at h
      intro σ' S' H' F' g x' fi
      cases e2 : slotI r 2 with
      | none => rw [show outM2 (.nx r) = .stk from by show out2 .non r = _; unfold out2; rw [e2]] at h; exact h.elim
      | some a =>
        cases e3 : slotI r 3 with
        | none => rw [show outM2 (.nx r) = .stk from by show out2 .non r = _; unfold out2; rw [e2, e3]] at h; exact h.elim
        | some b =>
          rw [show outM2 (.nx r) = .ok .non a b from by show out2 .non r = _; unfold out2; rw [e2, e3]] at h
          obtain ⟨T2, T3, a1, a2, a3, a4⟩ := last (slotI_some e2) (slotI_some e3) x' fi
          exact h .non S' H' [] T2 T3 (g.sub (by simpa using a3)) ⟨rfl, rfl⟩ a1 a2 (by simpa using a4)
    | rt d r =>
      rw [eB] at h
      intro v σ' S' H' F' T' g x' hv f' fi
      cases e2 : slotI r 2 with
      | none => rw [show outM2 (.rt d r) = .stk from by show out2 d r = _; unfold out2; rw [e2]] at h; exact h.elim
      | some a =>
        cases e3 : slotI r 3 with
        | none => rw [show outM2 (.rt d r) = .stk from by show out2 d r = _; unfold out2; rw [e2, e3]] at h; exact h.elim
        | some b =>
          rw [show outM2 (.rt d r) = .ok d a b from by show out2 d r = _; unfold out2; rw [e2, e3]] at h
          obtain ⟨T2, T3, a1, a2, a3, a4⟩ := last (slotI_some e2) (slotI_some e3) x' fi
          refine h v S' H' T' T2 T3 (g.sub fun b z => ?_) hv a1 a2 (f'.narrow a4 a3)
          rcases List.mem_append.mp z with z | z
          · exact List.mem_append_left _ z
          · exact List.mem_append_right _ (a3 b z)
    | exc c r => rw [eB] at h; exact h.elim
    | bk r => rw [eB] at h; exact h.elim
    | ct r => rw [eB] at h; exact h.elim
    | stk => rw [eB] at h; exact h.elim
theorem fnM2_stk {m : List D → MR2} (h4 : ps.length = 4) (h : ∀ ds, m ds = .stk) : FnM2 P w K mg base tb k f fd ps m := by
  refine ⟨fun vs H Q E hs => hs.1.trans h4.symm, fun A outer s H args us vs Q E hr I rl hb hs => ?_⟩
  obtain ⟨_, S, ds, T, _, _, _, z⟩ := hs
  rw [h ds] at z
  exact z.elim
end
/-! ### the call -/
def call22 (m : List D → MR2) (i j : Nat) (a b : D) (r : Env) : Res D := match r[i]?, r[j]? with
  | some (some d1), some (some d2) => if a.sh = true ∧ b.sh = true then match m [a, b, d1, d2] with
    | .ok d o1 o2 => .ok d ((r.set i (some o1)).set j (some o2))
    | .stk => .stk
    else .stk
  | _, _ => .stk
def eCall22 (m : List D → MR2) (i j : Nat) (A B : EP) : EE := fun r => ((A r).up r).bind fun a r1 => ((B r1).up r1).bind fun b r2 => call22 m i j a b r2
section
variable {X : Cx} {W : WT} {k : Nat} {f : Addr} {fd : FuncData} {ps : List Str} {x y1 y2 : Str} {p pos p1 p2 : Pos} {e e2 : Expr} {A B : EP}
theorem n_call22 (i j : Nat) {m : List D → MR2} (tk : L2N.Takes X W) (G : FnM2 X.prog X.w X.K X.mg X.base W.tb k f fd ps m) (hr : Room k X.A) (hm : X.mg x = some (.ref f)) (hk : PySem.W.keepIn X.K (.ref f) = true) (hb : Binds X.K fd ps []) (ha : DP X W e A) (hbb : DP X W e2 B) (hg : Gl X x := by rfl) (hij : i ≠ j := by decide)
    (hN1 : X.N[i]? = some y1 := by rfl) (hv1 : Vis X.env.scope y1 := by first | exact Or.inl rfl | exact Or.inr (Or.inl rfl) | exact Or.inr (Or.inr rfl)) (hd1 : (y1 == ("__debug__" : Str)) = false := by decide) (hc1 : (y1 == ("__classdict__" : Str)) = false := by decide)
    (hN2 : X.N[j]? = some y2 := by rfl) (hv2 : Vis X.env.scope y2 := by first | exact Or.inl rfl | exact Or.inr (Or.inl rfl) | exact Or.inr (Or.inr rfl)) (hd2 : (y2 == ("__debug__" : Str)) = false := by decide) (hc2 : (y2 == ("__classdict__" : Str)) = false := by decide)
    (hdb : (x == ("__debug__" : Str)) = false := by decide) (he1 : starEach [e, e2, .Name y1 p1, .Name y2 p2] X.env = (false, eval e X.env) :: starEach [e2, .Name y1 p1, .Name y2 p2] X.env := by rfl) (he2 : starEach [e2, .Name y1 p1, .Name y2 p2] X.env = (false, eval e2 X.env) :: starEach [.Name y1 p1, .Name y2 p2] X.env := by rfl)
    (hpl : (backTo pos (starEach [e2, .Name y1 p1, .Name y2 p2] X.env)).any (·.1) = false := by rfl) :
    DE X W (.Call (.Name x p) [e, e2, .Name y1 p1, .Name y2 p2] [] pos) (eCall22 m i j A B) := by
  obtain ⟨tA, pA, qA⟩ := ha
  obtain ⟨tB, pB, qB⟩ := hbb
  refine ⟨_, pe_callS G hr hg hm hk hb (fun σ => L2N.passAt tk σ) (pa_cons pA (pa_cons pB (pa_cons (pe_var hN1 hv1 hd1 hc1) (pa_cons (pe_var hN2 hv2 hd2 hc2) pa_nil))  he2) he1) hdb he1 hpl, fun S H r σ F Q q w => ?_⟩
  have w : EP1 (Rep X.K) X W S H F σ Q (((A r).up r).bind fun a r1 => ((B r1).up r1).bind fun b r2 => call22 m i j a b r2) := w
  refine qA S H r σ F _ q (EP1.bindP (f := fun a r1 => ((B r1).up r1).bind fun b r2 => call22 m i j a b r2) (Go.refl _ _ _) q w fun a va S1 H1 T1 g1 f1 h1 w1 => ?_)
  have x1 := q.ext0 g1 f1
  refine qB S1 H1 r σ F _ x1 (EP1.bindP (f := fun b r2 => call22 m i j a b r2) (go_side g1 F) x1 w1 fun b vb S2 H2 T2 g2 f2 h2 w2 => ?_)
  have x2 := x1.ext0 g2 f2
  have g12 : Go S H F S2 H2 F := (go_side g1 F).trans (go_side g2 F)
  have w2 : EP1 (Rep X.K) X W S H F σ Q (call22 m i j a b r) := w2
  unfold call22 at w2
  split at w2
  · rename_i d1 d2 e1 e2'
    split at w2
    · rename_i hsh
      have t1 : T1 = [] := Rep.sh a va T1 hsh.1 h1
      have t2 : T2 = [] := Rep.sh b vb T2 hsh.2 h2
      subst t1 t2
      have h1' := Rep.go g2 f1 a va [] (fun _ _ z => nomatch z) h1
      obtain ⟨v1, G1, F1, s1, r1, z1, ft1, m1⟩ := x2.take e1
      have e2'' : (r.set i none)[j]? = some (some d2) := by rw [List.getElem?_set_ne hij]; exact e2'
      obtain ⟨v2, G2, F2, s2, r2, z2, ft2, m2⟩ := z1.take e2''
      have li : i < r.length := (List.getElem?_eq_some_iff.mp e1).1
      have lj : j < r.length := (List.getElem?_eq_some_iff.mp e2').1
      have fA : Ft S2 H2 ((G1 ++ G2) ++ F2) := by
        have := ft1.narrow ft2 fun c hc => (m2 c).mp hc
        rw [← List.append_assoc] at this
        exact this
      have mF : ∀ c, c ∈ (G1 ++ G2) ++ F2 → c ∈ F := fun c hc => by
        rw [List.append_assoc] at hc
        rcases List.mem_append.mp hc with hc | hc
        · exact (m1 c).mp (List.mem_append_left _ hc)
        · exact (m1 c).mp (List.mem_append_right _ ((m2 c).mp hc))
      refine ⟨v1, s1, v2, s2, rfl, S2, [a, b, d1, d2], G1 ++ G2, ⟨va, _, [], G1 ++ G2, rfl, rfl, h1', vb, _, [], G1 ++ G2, rfl, rfl, h2, v1, _, G1, G2, rfl, rfl, r1, v2, [], G2, [], rfl, by simp, r2, rfl, rfl⟩, fA.left, x2.tab, ?_⟩
      cases em : m [a, b, d1, d2] with
      | stk => rw [em] at w2; exact w2.elim
      | ok d o1 o2 =>
        rw [em] at w2
        intro u S3 H3 T1 T2 T3 g3 hu ho1 ho2 f3
        have f4 : Ft S3 H3 (F2 ++ (T1 ++ (T2 ++ T3))) := Ft.frame (T := F2) (F := G1 ++ G2) fA.comm g3 f3
        have x3 : At X.K W.tb S3 H3 ((r.set i none).set j none) σ F2 := z2.go g3 fA.left (fun c hc hd => fA.apart c hd hc) f4.left
        have f5 : Ft S3 H3 (T1 ++ (T2 ++ (T3 ++ F2))) := f4.perm (by
          rw [show T1 ++ (T2 ++ (T3 ++ F2)) = (T1 ++ (T2 ++ T3)) ++ F2 by simp]
          exact List.perm_append_comm)
        obtain ⟨Fa, b1, b2⟩ := x3.back (i := j) (by simpa using lj) s2 ho2 f5.right.right
        rw [List.set_set] at b1
        obtain ⟨Fb, c1, c2⟩ := b1.back (i := i) (by simpa using li) s1 ho1 (f5.right.narrow b1.ft b2)
        have ee : ((r.set i none).set j (some o2)).set i (some o1) = (r.set i (some o1)).set j (some o2) := by
          rw [List.set_comm _ _ hij.symm, List.set_set]
        rw [ee] at c1
        have mb : ∀ c ∈ Fb, c ∈ T2 ++ (T3 ++ F2) := fun c hc => by
          rcases List.mem_append.mp (c2 c hc) with hc | hc
          · exact List.mem_append_left _ hc
          · exact List.mem_append_right _ (b2 c hc)
        refine w2 u S3 H3 Fb T1 ((g12.trans (((g3.frameR F2).wide mF).sub fun c hc => ?_))) c1 hu (f5.narrow c1.ft mb)
        rcases List.mem_append.mp hc with hc | hc
        · simp [hc]
        · have := mb c hc
          simp only [List.mem_append] at this ⊢
          rcases this with z | z | z <;> simp [z]
    · exact w2.elim
  · exact w2.elim
end
section
variable {r : DL.Env} {x : SR} {d o1 o2 a b d1 d2 : D} {m : List D → MR2} {i j : Nat} {A B : EP}
@[simp] theorem eCall22_ap : eCall22 m i j A B r = ((A r).up r).bind fun a r1 => ((B r1).up r1).bind fun b r2 => call22 m i j a b r2 := (rfl)
theorem call22_ok (h1 : r[i]? = some (some d1)) (h2 : r[j]? = some (some d2)) (ha : a.sh = true) (hb : b.sh = true) (hm : m [a, b, d1, d2] = .ok d o1 o2) : call22 m i j a b r = .ok d ((r.set i (some o1)).set j (some o2)) := by
  unfold call22
  rw [h1, h2]
  dsimp only
  rw [if_pos ⟨ha, hb⟩, hm]
theorem outM2_ok (h : x.sat (.ans fun d' r => d' = d ∧ slotI r 2 = some o1 ∧ slotI r 3 = some o2)) : outM2 x = .ok d o1 o2 := by
  cases x with
  | nx r =>
    obtain ⟨e, e1, e2⟩ : D.non = d ∧ slotI r 2 = some o1 ∧ slotI r 3 = some o2 := h.out
    subst e
    show out2 .non r = _
    unfold out2; rw [e1, e2]
  | rt d' r =>
    obtain ⟨e, e1, e2⟩ : d' = d ∧ slotI r 2 = some o1 ∧ slotI r 3 = some o2 := h.out
    subst e
    show out2 d' r = _
    unfold out2; rw [e1, e2]
  | _ => exact h.out.elim
end
end DL

/-! DX35: a slice of what is read, made anew. -/
namespace DL
open PySem PySem.Spec PyProof.Rows L2
section
variable {X : Cx} {W : WT} {e : Expr} {lo hi : Option Expr} {S S' S1 : Addr → Prop} {H H' H1 : Hp} {F F' F1 T : Fp} {σ : L2.St} {r : DL.Env} {pos p2 : Pos}
def eSlP (A : EP) (L U : DL.Env → PR (Option Int)) : EE := fun r => ((A r).up r).bind fun x r1 => ((L r1).up r1).bind fun l r2 => ((U r2).up r2).bind fun u r3 => opE (dSl l u) x r3
@[simp] theorem eSlP_ap {A : EP} {L U : DL.Env → PR (Option Int)} : eSlP A L U r = ((A r).up r).bind fun x r1 => ((L r1).up r1).bind fun l r2 => ((U r2).up r2).bind fun u r3 => opE (dSl l u) x r3 := (rfl)
theorem n_eslp {A : EP} {L U : DL.Env → PR (Option Int)} (ha : DP X W e A) (hl : DPO X W lo L) (hu : DPO X W hi U) : DE X W (.Subscript e (.Slice lo hi none p2) pos) (eSlP A L U) := by
  obtain ⟨t, p, q⟩ := ha; obtain ⟨t1, p1, q1⟩ := hl; obtain ⟨t2, p2, q2⟩ := hu
  refine ⟨_, pe_slice (sl_tupA.or sl_list) p p1 p2, fun S H r σ F Q x y => ?_⟩
  have y : EP1 (Rep X.K) X W S H F σ Q (((A r).up r).bind fun x r1 => ((L r1).up r1).bind fun l r2 => ((U r2).up r2).bind fun u r3 => opE (dSl l u) x r3) := y
  refine q S H r σ F _ x (EP1.bindP (f := fun x r1 => ((L r1).up r1).bind fun l r2 => ((U r2).up r2).bind fun u r3 => opE (dSl l u) x r3) (Go.refl _ _ _) x y fun d v S1 H1 T1 g1 f1 h1 y1 => ?_)
  have x1 := x.ext0 g1 f1
  refine q1 S1 H1 r σ F _ x1 (EP1.bindP (f := fun l r2 => ((U r2).up r2).bind fun u r3 => opE (dSl l u) d r3) (go_side g1 F) x1 y1 fun l l' S2 H2 T2 g2 f2 h2 y2 => ?_)
  obtain ⟨rfl, rfl⟩ := h2
  have x2 := x1.ext0 g2 f2
  have h1' := Rep.go g2 f1 d v T1 (fun _ _ z => nomatch z) h1
  refine q2 S2 H2 r σ F _ x2 (EP1.bindP (f := fun u r3 => opE (dSl l u) d r3) ((go_side g1 F).trans (go_side g2 F)) x2 y2 fun u u' S3 H3 T3 g3 f3 h3 y3 => ?_)
  obtain ⟨rfl, rfl⟩ := h3
  have x3 := x2.ext0 g3 f3
  have h1'' := Rep.go g3 f2 d v T1 (fun _ _ z => nomatch z) h1'
  have g13 : Go S H F S3 H3 F := ((go_side g1 F).trans (go_side g2 F)).trans (go_side g3 F)
  obtain ⟨d', e', y4⟩ := opE_some y3
  unfold dSl at e'
  split at e'
  · rename_i ds
    split at e'
    · rename_i hs
      cases e'
      obtain ⟨a, vs, rfl, hq, rl⟩ := h1''.tup_at hs
      refine .inl ⟨a, vs, rfl, hq, fun hw => ?_, fun hw pp hp => ?_⟩
      · have eq : cutL ds l u = ds := by
          unfold cutL
          rw [rl.len, hw.1, hw.2, ← rl.len]
          simp
        rw [eq] at y4
        exact y4 (.ref a) S3 H3 F [] (by simpa using g13) x3 ⟨a, vs, rfl, hq, rl⟩ (by simpa using x3.ft)
      · have gn := go_new (S := S3) x3.ft.sd hp [] (fun _ z => nomatch z) (o := .tup (cutV vs l u))
        have x4 := x3.ext0 gn (Ft.nil (sd_new x3.ft.sd))
        exact y4 (.ref pp) S3 _ F [] (by simpa using g13.trans (go_side gn F)) x4 (rep_tup x3.ft.sd hp rl.cut) (by simpa using x4.ft)
    · cases e'
  · rename_i o ds
    split at e'
    · rename_i hs
      cases e'
      obtain ⟨a, vs, rfl, hq, rl⟩ := h1''.lst_at hs
      refine .inr ⟨a, vs, rfl, .inl (.inl hq), fun pp hp => ?_⟩
      have g0 := go_new (S := S3) x3.ft.sd hp [pp] (fun _ z => by simpa using z) (o := .lst (cutV vs l u))
      have rp : Rep X.K S3 (upd H3 pp (.lst (cutV vs l u))) (.lst true (cutL ds l u)) (.ref pp) [pp] := rep_lst x3.ft.sd hp rl.cut
      have f5 : Ft S3 (upd H3 pp (.lst (cutV vs l u))) [pp] := ⟨by simp, fun b z hS => by
        have eb : b = pp := by simpa using z
        subst eb
        exact x3.ft.sd _ hS hp, fun b z => by
        have eb : b = pp := by simpa using z
        subst eb
        rw [upd_same]; trivial, sd_new x3.ft.sd⟩
      obtain ⟨a1, a2, a3⟩ := own_end (T1 := []) (by simpa using g13) x3 g0 f5
      exact y4 (.ref pp) S3 _ F [pp] a1 a2 rp a3
    · cases e'
  · cases e'
end
end DL

/-! DX36: a tuple taken apart, its items may be own. -/
namespace DL
open PySem PySem.Spec PyProof.Rows L2
section
variable {X : Cx} {W : WT} {K : PySem.W.Frag} {S S' S1 : Addr → Prop} {H H' H1 : Hp} {F F' F1 T : Fp} {σ : L2.St} {r : DL.Env} {pos p p2 : Pos} {x : Str}
def DGsO (X : Cx) (ws : List Nat) (ts : List Expr) (G : List D → DL.Env → Option DL.Env) : Prop := ∃ g, PGs X ts g ∧ ∀ tb S H r σ F ds vs T Q, At X.K tb S H r σ F → RepL X.K S H ds vs T → Ft S H (T ++ F) →
  (∃ r', G ds r = some r' ∧ ∀ σ' F', At X.K tb S H r' σ' F' → (∀ b ∈ F', b ∈ T ++ F) → (∀ j, j ∉ ws → σ'[j]? = σ[j]?) → σ'.length = σ.length → Q σ' H) → g vs σ H Q
theorem dgsO_nil : DGsO X [] [] nilG := by
  refine ⟨_, pgs_nil, fun tb S H r σ F ds vs T Q q h f ⟨r', e, k⟩ => ?_⟩
  unfold nilG at e
  split at e
  · rename_i l
    cases e
    exact ⟨List.eq_nil_of_length_eq_zero (by rw [← h.len]; exact l), k σ F q (fun _ z => List.mem_append_right _ z) (fun _ _ => rfl) rfl⟩
  · cases e
theorem dgsO_cons {w1 w2 : List Nat} {t : Expr} {ts : List Expr} {G : D → DL.Env → Option DL.Env} {G' : List D → DL.Env → Option DL.Env} (h1 : DG X w1 t G) (h2 : DGsO X w2 ts G')
    (hs : (assignEach (t :: ts) X.env).map (·.2) = assign t X.env :: (assignEach ts X.env).map (·.2) := by rfl) : DGsO X (w1 ++ w2) (t :: ts) (consG G G') := by
  obtain ⟨g, q1, z1⟩ := h1; obtain ⟨g', q2, z2⟩ := h2
  refine ⟨_, pgs_cons q1 q2 hs, fun tb S H r σ F ds vs T Q q h f ⟨r', e, k⟩ => ?_⟩
  cases ds with
  | nil => cases e
  | cons d ds =>
    obtain ⟨v, t, F1, F2, e1, e2, h1, h2⟩ := h
    subst e1 e2
    have e : (G d r).bind (fun r1 => G' ds r1) = some r' := e
    have f' : Ft S H (F1 ++ (F2 ++ F)) := by rw [← List.append_assoc]; exact f
    have fa : Ft S H (F1 ++ F) := f'.narrow q.ft fun b z => List.mem_append_right _ z
    cases eg : G d r with
    | none => rw [eg] at e; cases e
    | some r1 =>
      rw [eg] at e
      refine ⟨v, t, rfl, z1 tb S H r σ F d v F1 _ q h1 fa ⟨r1, eg, fun σ1 Fa a1 a2 a3 a4 => ?_⟩⟩
      have fb : Ft S H (F2 ++ Fa) := by
        have fc : Ft S H (F2 ++ (F1 ++ F)) := f'.perm (List.perm_append_comm_assoc F1 F2 F)
        exact fc.narrow a1.ft a2
      refine z2 tb S H r1 σ1 Fa ds t F2 Q a1 h2 fb ⟨r', e, fun σ2 Fb b1 b2 b3 b4 => ?_⟩
      refine k σ2 Fb b1 (fun b z => ?_) (fun j hj => by rw [b3 j (fun z => hj (by simp [z])), a3 j (fun z => hj (by simp [z]))]) (b4.trans a4)
      rcases List.mem_append.mp (b2 b z) with z | z
      · simp [z]
      · have := a2 b z
        simp only [List.mem_append] at this ⊢
        rcases this with z | z <;> simp [z]
def tupGO (n : Nat) (G : List D → DL.Env → Option DL.Env) (d : D) (r : DL.Env) : Option DL.Env := match d with
  | .tup ds => if ds.length = n then G ds r else none
  | _ => none
@[simp] theorem tupGO_tup {n : Nat} {G : List D → DL.Env → Option DL.Env} {ds : List D} {r : DL.Env} : tupGO n G (.tup ds) r = if ds.length = n then G ds r else none := (rfl)
theorem dg_tupO {ws : List Nat} {ts : List Expr} {kt n : Nat} {G : List D → DL.Env → Option DL.Env} (hc : X.calm = true) (h : DGsO X ws ts G) (hn : (assignEach ts X.env).length = n := by rfl) (hst : (assignEach ts X.env).findIdx? (·.1) = none := by rfl) :
    DG X ws (.Tuple ts kt pos) (tupGO n G) := by
  obtain ⟨g, q1, z1⟩ := h
  refine ⟨_, pg_tup hc q1 hn hst, fun tb S H r σ F d v T Q q h f ⟨r', e, k⟩ => ?_⟩
  cases d with
  | tup ds =>
    have e : (if ds.length = n then G ds r else none) = some r' := e
    split at e
    · rename_i l
      obtain ⟨a, vs, rfl, hq, rl⟩ := h
      exact ⟨a, vs, rfl, hq, by rw [← rl.len]; exact l, z1 tb S H r σ F ds vs T Q q rl f ⟨r', e, k⟩⟩
    · cases e
  | _ => cases e
end
end DL

/-! DX37: min, max of a tuple. -/
namespace DL
open PySem PySem.Spec PyProof.Rows L2
section
variable {X : Cx} {W : WT} {K : PySem.W.Frag} {S S' S1 : Addr → Prop} {H H' H1 : Hp} {F F' F1 T : Fp} {σ : L2.St} {r : DL.Env}
def rBestT (K : PySem.W.Frag) (f : PyData → PyData → Bool) : List V → Hp → VK → Prop := fun vs H Q => ∃ (a : Addr) (xs : List V) (p : PyData) (ps : List PyData), vs = [V.ref a] ∧ SqT K H a xs ∧ DpAll K H xs (p :: ps) ∧ PySem.W.AlikeAll (p :: ps) ∧ PyData.depthAll (p :: ps) ≤ 60 ∧
  ∀ v, xs[argBest (fun i j => f ((p :: ps).getD i .none) ((p :: ps).getD j .none)) ps.length]? = some v → Q v H
theorem cr_minT (hc : X.calm = true) (hu : X.A.units + 64 < cLine) : CallR X (.builtin "min") (rBestT X.K PySem.W.dataLt) := by
  intro pins s σ H vs us Q I r h
  obtain ⟨a, xs, p, ps, rfl, hs, hd, ha, hz, q⟩ := h
  obtain ⟨its, rv, hl, _⟩ := I.tuple hs
  obtain ⟨as, ra⟩ := Dp.readsAll I _ _ _ hd rv
  rw [Vals.ref1 r]
  have hn : its.toArray.size = ps.length + 1 := by
    have := PySem.W.readsAll_len (vs := its.toArray) (xs := p :: ps) (by simpa using ra)
    simpa using this
  refine call_min_walkH (PySem.W.iter_tupleW (A := X.A.in1) (I.ok.hd hc) hl fun s₂ e W st hfp hw hk => ?_)
  refine ⟨_, _, _, _, _, _, _, s.heap, _, rfl, W, st, hfp, by omega, hw, hk, PySem.W.cmpIn_lt (A := X.A.in1) (by simpa using ra) ha (by show X.A.units + 1 + _ < _; omega), fun v s' hP m => ?_⟩
  obtain ⟨h', tk, rfl, hk'⟩ := PySem.W.moved_old e rfl m
  rw [show its.toArray.size - 1 = ps.length by omega] at hP
  cases ex : xs[argBest (fun i j => PySem.W.dataLt ((p :: ps).getD i .none) ((p :: ps).getD j .none)) ps.length]? with
  | none => rw [List.getElem?_toArray, rv.none_of ex] at hP; cases hP
  | some w =>
    obtain ⟨u, e1, e2⟩ := rv.get ex
    rw [List.getElem?_toArray, e1] at hP
    cases hP
    exact ⟨w, H, I.kept hk', e2, q w ex⟩
theorem cr_maxT (hc : X.calm = true) (hu : X.A.units + 64 < cLine) : CallR X (.builtin "max") (rBestT X.K fun a b => PySem.W.dataLt b a) := by
  intro pins s σ H vs us Q I r h
  obtain ⟨a, xs, p, ps, rfl, hs, hd, ha, hz, q⟩ := h
  obtain ⟨its, rv, hl, _⟩ := I.tuple hs
  obtain ⟨as, ra⟩ := Dp.readsAll I _ _ _ hd rv
  rw [Vals.ref1 r]
  have hn : its.toArray.size = ps.length + 1 := by
    have := PySem.W.readsAll_len (vs := its.toArray) (xs := p :: ps) (by simpa using ra)
    simpa using this
  refine call_max_walkH (PySem.W.iter_tupleW (A := X.A.in1) (I.ok.hd hc) hl fun s₂ e W st hfp hw hk => ?_)
  refine ⟨_, _, _, _, _, _, _, s.heap, _, rfl, W, st, hfp, by omega, hw, hk, PySem.W.cmpIn_gt (A := X.A.in1) (by simpa using ra) ha (by show X.A.units + 1 + _ < _; omega), fun v s' hP m => ?_⟩
  obtain ⟨h', tk, rfl, hk'⟩ := PySem.W.moved_old e rfl m
  rw [show its.toArray.size - 1 = ps.length by omega] at hP
  cases ex : xs[argBest (fun i j => PySem.W.dataLt ((p :: ps).getD j .none) ((p :: ps).getD i .none)) ps.length]? with
  | none => rw [List.getElem?_toArray, rv.none_of ex] at hP; cases hP
  | some w =>
    obtain ⟨u, e1, e2⟩ := rv.get ex
    rw [List.getElem?_toArray, e1] at hP
    cases hP
    exact ⟨w, H, I.kept hk', e2, q w ex⟩
def dBestT (f : D → D → Bool) : List D → Option D
  | [.tup ds] => if D.shL ds = true ∧ D.depL ds ≤ 60 ∧ allOrd ds = true then bestD f ds else none
  | _ => none
theorem vl_bestT {f : PyData → PyData → Bool} {g : D → D → Bool} (hg : ∀ a b, g a b = f a.py b.py) : VL K (rBestT K f) (dBestT g) := by
  intro S H ds vs T1 Q sd h ⟨d, e, k⟩
  unfold dBestT at e
  split at e
  · rename_i ds
    split at e
    · rename_i c
      obtain ⟨v, t, A1, B1, rfl, rfl, h1, rfl, rfl⟩ := h
      cases ds with
      | nil => cases e
      | cons z zs =>
        cases e
        obtain ⟨a, xs, rfl, hq, rl⟩ := h1.tup_at c.1
        have hd : DpAll K H xs (D.pyL (z :: zs)) := RepL.dp (z :: zs) xs [] (by omega) rl
        refine ⟨a, xs, z.py, D.pyL zs, rfl, hq, hd, alikeAll_of (ds := z :: zs) (by omega) c.2.2, ?_, fun v hv => ?_⟩
        · have := D.depL_py (z :: zs) (by omega)
          rw [D.pyL] at this
          omega
        · have e0 : (z.py :: D.pyL zs) = (z :: zs).map D.py := by rw [pyL_map]; rfl
          have e1 : (D.pyL zs).length = zs.length := by rw [pyL_map, List.length_map]
          rw [e0, e1] at hv
          simp only [pyL_getD] at hv
          have ef : (fun i j => f ((z :: zs).getD i D.non).py ((z :: zs).getD j D.non).py) = fun i j => g ((z :: zs).getD i D.non) ((z :: zs).getD j D.non) := by
            funext i j; rw [hg]
          rw [ef] at hv
          obtain ⟨a1, a2⟩ := PySem.W.argBest_fold g D.non z zs zs.length (Nat.le_refl _)
          rw [List.take_length] at a2
          generalize argBest (fun i j => g ((z :: zs).getD i D.non) ((z :: zs).getD j D.non)) zs.length = i at *
          have hi : (z :: zs)[i]? = some (zs.foldl (fun a y => if g y a = true then y else a) z) := by
            rw [← a2, List.getD_eq_getElem?_getD]
            rw [List.getElem?_eq_getElem (by rw [List.length_cons]; omega)]
            rfl
          obtain ⟨w, e2, e3⟩ := RepL.items rl hi
          rw [hv] at e2
          cases e2
          exact k v S H [] (.refl _ _ _) e3 (Ft.nil sd)
    · cases e
  · cases e
def dMinT (ds : List D) : Option D := (dMinA ds).or (dBestT D.ltb ds)
def dMaxT (ds : List D) : Option D := (dMaxA ds).or (dBestT (fun a b => D.ltb b a) ds)
theorem cr_minB (hc : X.calm = true) (hu : X.A.units + 64 < cLine) : CallR X (.builtin "min") (fun vs H Q => (rMin X.K vs H Q ∨ rBestD X.K PySem.W.dataLt vs H Q) ∨ rBestT X.K PySem.W.dataLt vs H Q) := (cr_minA hc hu).or (cr_minT hc hu)
theorem cr_maxB (hc : X.calm = true) (hu : X.A.units + 64 < cLine) : CallR X (.builtin "max") (fun vs H Q => (rMax X.K vs H Q ∨ rBestD X.K (fun a b => PySem.W.dataLt b a) vs H Q) ∨ rBestT X.K (fun a b => PySem.W.dataLt b a) vs H Q) := (cr_maxA hc hu).or (cr_maxT hc hu)
theorem vl_minB : VL K (fun vs H Q => (rMin K vs H Q ∨ rBestD K PySem.W.dataLt vs H Q) ∨ rBestT K PySem.W.dataLt vs H Q) dMinT := vl_minA.or' (vl_bestT fun _ _ => rfl)
theorem vl_maxB : VL K (fun vs H Q => (rMax K vs H Q ∨ rBestD K (fun a b => PySem.W.dataLt b a) vs H Q) ∨ rBestT K (fun a b => PySem.W.dataLt b a) vs H Q) dMaxT := vl_maxA.or' (vl_bestT fun _ _ => rfl)
theorem dMinT_of {ds : List D} {d : D} (h : dMinA ds = some d) : dMinT ds = some d := by unfold dMinT; rw [h]; rfl
theorem dMaxT_of {ds : List D} {d : D} (h : dMaxA ds = some d) : dMaxT ds = some d := by unfold dMaxT; rw [h]; rfl
end
end DL

/-! DX38: sorted({e for x in it if c}), of ints. -/
namespace ScI
open PySem PySem.Spec PyProof.Rows L2 PpSet
section
variable {X : Cx}
theorem addI_ok {pins : List (Addr × Obj)} {σ : L2.St} {H : Hp} {s : Shared} {E : Value → Shared → Prop} {D : Addr} {S : Int → Bool} {n : Nat} {y : Int} {tk : Tok} {Q : Value → Shared → Prop} (I : Inv X pins σ H s) (hD : H D = some (SetO X.w D S n)) (room : n + 1 < scanBound)
    (h : ∀ s', Inv X pins σ (upd H D (SetO X.w D (fun j => S j || decide (j = y)) (if S y = true then n else n + 1))) s' → Q .none s') : wpAny (model X.prog X.w) X.A (call (.builtin "set.add") [.ref D, .int y tk]) Q E s := by
  refine setR_add (setO_get I hD) room fun h' sb new => ?_
  have he : ∃ u, h'.get? D = some u := by
    have ⟨o, _, _, _, ho, _⟩ := new
    exact ⟨o, ho⟩
  exact h _ (I.write (e := D) (t' := s.toks + 1) (by rw [hD]; trivial) (.inl rfl) (fun b u hb hu => (sb.2 b hb).trans hu) he (setO_new new))
/-- a set of ints told by a comprehension: D the new set -/
def tSI (w : World) (wi : TI) (g : TG) (tt : TT) (te : TE) (vs : List Nat) : TE := fun σ H Q => wi σ H fun J H1 => ∀ D, H1 D = none → ∃ V : Nat → Nat → Hp → Prop, (∃ m, V 0 m (upd H1 D (SetO w D (fun _ => false) 0))) ∧ ∀ i m H, V i m H →
  (J.stop i H ∧ Q (.ref D) H) ∨ (J.go i H ∧ ∃ Nx : Hp → Prop, (∀ H', Nx H' → ∃ m', m' < m ∧ V (i + 1) m' H') ∧ ∀ x H', J.yld i H x H' → g x (wipe σ vs) H' fun σ2 H2 => wipe σ2 vs = wipe σ vs ∧ tt σ2 H2 fun b H3 =>
    if b = true then te σ2 H3 fun y H4 => ∃ (c : Int) (S : Int → Bool) (n : Nat), y = .int c ∧ H4 D = some (SetO w D S n) ∧ n + 1 < scanBound ∧ Nx (upd H4 D (SetO w D (fun j => S j || decide (j = c)) (if S c = true then n else n + 1))) else Nx H3)
theorem core {pins : List (Addr × Obj)} {s : Shared} {σ : L2.St} {H : Hp} {Q : VK} {elt tg iter : Expr} {ifs : List Expr} {scope : Scope} {own : List (PySem.Str × Nat)} {pos pos' : Pos} {wi : TI} {g : TG} {tt : TT} {te : TE} {use : Option (Value → Sem Unit)} {Qf : Value → Shared → Prop}
    (hc : X.calm = true) (hN : X.N.Nodup) (I : Inv X pins σ H s) (hi : PI X tg iter wi) (ok : BlkOk X.N X.env.scope scope own)
    (hg : ∀ (s : Shared) (H : Hp) (C : Addr) (cl : List (PySem.Str × Addr)) (fp : List Addr), PG (X.blk s H scope (compEnvC scope cl C X.env) fp) tg g) (ht : ∀ (s : Shared) (H : Hp) (C : Addr) (cl : List (PySem.Str × Addr)) (fp : List Addr), PTs (X.blk s H scope (compEnvC scope cl C X.env) fp) ifs tt)
    (he : ∀ (s : Shared) (H : Hp) (C : Addr) (cl : List (PySem.Str × Addr)) (fp : List Addr), PE (X.blk s H scope (compEnvC scope cl C X.env) fp) elt te) (hs : ∀ x, foldedSetIterable iter X.env x = pure x)
    (h : tSI X.w wi g tt te (own.map (·.2)) σ H Q)
    (hRR : ∀ D C s' m H', Inv X pins σ H' s' → Q (.ref D) H' → s'.heap.Ns C m → FpOk X pins H' C → compPost (model X.prog X.w) X.A X.xe use Qf (.ref D) C (.ok .next) s') :
    wpAny (model X.prog X.w) X.A (comprehension (.SetComp elt [⟨tg, iter, ifs, 0⟩] scope pos) scope X.env pos' (newSet (.type "set")) false (eval iter X.env) use) Qf X.xe s := by
  have hfree : ∀ y ∈ scope.names, y.2 = .free → ∃ c, X.env.cells.lookup y.1 = some c := fun y hy e => (ok.free y hy e).elim (fun k => I.ok.has _ (.inl k)) fun k => I.ok.has _ (.inr k)
  refine wpAny_comprehension_free (use := use) rfl hs (closure_ok hfree) ok.kind (fun y hy e => by rw [ok.uniq y hy, e])
    (thn (hi.run pins s σ H _ I h) fun xv s1 hx => thn hx fun itv s2 h2 => ?_)
  obtain ⟨it, fp, tn, J, H2, e, I2, T, st2, f2, q⟩ := h2
  subst e
  refine newSet_ok (newEnv_comp ?_)
  obtain ⟨D, hD⟩ : ∃ D, s2.heap.objs.size = D := ⟨_, rfl⟩
  obtain ⟨V, ⟨m0, w0⟩, turn⟩ := q D (I2.hok.fresh (Nat.le_of_eq hD))
  rw [hD]
  -- the empty set
  obtain ⟨s3, hs3⟩ : ∃ s3 : Shared, s3 = { s2 with heap := s2.heap.push { cls := .type "set", dict := none, data := .set #[] 0 (.fresh 0 0 (!X.w.params.followText "set-order")) } } := ⟨_, rfl⟩
  obtain ⟨H3, hH3⟩ : ∃ H3, H3 = upd H2 D (SetO X.w D (fun _ => false) 0) := ⟨_, rfl⟩
  have old3 : ∀ b o, s2.heap.get? b = some o → s3.heap.get? b = some o := fun b o e => by rw [hs3]; exact Heap.get?_push_of_some _ e
  have size3 : s3.heap.objs.size = s2.heap.objs.size + 1 := by rw [hs3]; exact Heap.size_push ..
  have I3 : Inv X pins σ H3 s3 := by
    rw [hs3, hH3]
    refine I2.laid (t' := s2.toks) (fun b o e => Heap.get?_push_of_some _ e) (Nat.le_of_eq hD) ?_
    rw [← hD]
    exact setO_new (setR_fresh X.w)
  have f3 : ∀ b ∈ fp, FpOk X pins H3 b ∧ b < s3.heap.objs.size := fun b hb => by
    obtain ⟨o, e, _⟩ := T.obj _ _ st2 b hb
    have hlt := Heap.lt_size e
    refine ⟨⟨?_, (f2 b hb).2⟩, by rw [size3]; exact Nat.lt_succ_of_lt hlt⟩
    rw [hH3, upd_ne (by rw [← hD]; exact Nat.ne_of_lt hlt)]
    exact (f2 b hb).1
  have st3 : tn 0 s3.heap := T.keep _ _ _ st2 fun b _ o e => old3 b o e
  have I4 := block_start I3 ok hN f3
  rw [← hs3]
  rw [← hH3] at w0
  show codeAny _ _ (.compStart (.SetComp elt [⟨tg, iter, ifs, 0⟩] scope pos) 0 (.ref it) (.ref D) (compEnvC scope (cellsFrom (s3.heap.objs.size + 1) scope.names (cloFrom X.env.cells scope.names [])) s3.heap.objs.size X.env)) (compPost (model X.prog X.w) X.A X.xe use Qf (.ref D) s3.heap.objs.size) { s3 with heap := pushCells (s3.heap.push { cls := .type "dict", data := .dict #[] }) scope.names }
  have pg := hg s3 H3 s3.heap.objs.size (cellsFrom (s3.heap.objs.size + 1) scope.names (cloFrom X.env.cells scope.names [])) fp
  have pt := ht s3 H3 s3.heap.objs.size (cellsFrom (s3.heap.objs.size + 1) scope.names (cloFrom X.env.cells scope.names [])) fp
  have pe := he s3 H3 s3.heap.objs.size (cellsFrom (s3.heap.objs.size + 1) scope.names (cloFrom X.env.cells scope.names [])) fp
  generalize hce : compEnvC scope (cellsFrom (s3.heap.objs.size + 1) scope.names (cloFrom X.env.cells scope.names [])) s3.heap.objs.size X.env = ce at I4 pg pt pe ⊢
  have cL : ce.locals = s3.heap.objs.size := by subst hce; rfl
  obtain ⟨s4, hs4⟩ : ∃ s4 : Shared, s4 = { s3 with heap := pushCells (s3.heap.push { cls := .type "dict", data := .dict #[] }) scope.names } := ⟨_, rfl⟩
  rw [← hs4] at I4 ⊢
  have st4 : tn 0 s4.heap := T.keep _ _ _ st3 fun b _ o e => by rw [hs4]; exact pushCells_keeps _ _ _ _ (Heap.get?_push_of_some _ e)
  have own_ok : ∀ {σ' : L2.St} {H' : Hp} {s' : Shared}, Inv (X.blk s3 H3 scope ce fp) [] σ' H' s' → (∀ b ∈ fp, H' b = none) → ∀ b ∈ fp, FpOk (X.blk s3 H3 scope ce fp) [] H' b := fun {σ' H' s'} I' hn b hb =>
    ⟨hn b hb, (I'.ok.exf b hb).1, I'.ok.exfs b hb, .inl hb, fun x c e => (I'.ok.exf b hb).2 x c e, fun p hp => absurd (show p ∈ ([] : List (Addr × Obj)) ++ [] from hp) (by simp)⟩
  have loop : codeAny (model X.prog X.w) X.A (.compLoop (.SetComp elt [⟨tg, iter, ifs, 0⟩] scope pos) 0 (.ref it) (.ref D) ce) (compPost (model X.prog X.w) X.A X.xe use Qf (.ref D) s3.heap.objs.size) s4 := by
    refine compLoopS_any (fun n s' => ∃ i H', Inv (X.blk s3 H3 scope ce fp) [] (wipe σ (own.map (·.2))) H' s' ∧ tn i s'.heap ∧ (∀ b ∈ fp, H' b = none) ∧ V i n H') ?_ m0 ⟨0, H3, I4, st4, fun b hb => (f3 b hb).1.1, w0⟩
    rintro n s5 ⟨i, H5, I5, st5, n5, w5⟩
    rcases turn i n H5 w5 with ⟨stop, qq⟩ | ⟨go, Nx, hNx, step⟩
    · refine thnF (T.done (X.blk s3 H3 scope ce fp) rfl rfl rfl hc i [] s5 _ H5 (fun _ _ => False) I5 (own_ok I5 n5) st5 stop) fun r s6 ⟨hr, I6⟩ => ?_
      subst hr
      have I7 : Inv X pins σ H5 s6 := I3.call' (ch := fp) I6.os I6.base I6.hok I6.bare fun b hb => ⟨(f3 b hb).1.2.2.2.1, (f3 b hb).1.2.1, (f3 b hb).1.2.2.2.2.1, (f3 b hb).1.2.2.2.2.2⟩
      have nC : H5 s3.heap.objs.size = none := by
        have z : H5 ce.locals = none := I6.free
        rw [cL] at z
        exact z
      obtain ⟨m, hn, _⟩ := I6.loc
      have hn : s6.heap.Ns ce.locals m := hn
      rw [cL] at hn
      exact hRR D s3.heap.objs.size s6 m H5 I7 qq hn (I3.fpOk (Nat.le_refl _) nC)
    · refine thnF (T.item (X.blk s3 H3 scope ce fp) rfl rfl rfl hc i [] s5 _ H5 (fun _ _ => False) I5 (own_ok I5 n5) st5 go) fun r s6 ⟨u, hr, h6⟩ => ?_
      subst hr
      refine thnF h6 fun _ s7 ⟨x, H7, I7, r7, y7, st7, n7⟩ => ?_
      have I7' := I7.pinned (own_ok I7 n7) (T.obj _ _ st7)
      refine thnF (pg.run _ s7 _ H7 x u _ I7' r7 (step x H7 y7)) fun _ s8 ⟨σ8, H8, I8, hw8, q8⟩ => ?_
      refine thnF (pt.run _ s8 σ8 H8 _ I8 q8) fun b s9 ⟨H9, I9, q9⟩ => ?_
      have fin : ∀ {s' : Shared} {H' : Hp}, Inv (X.blk s3 H3 scope ce fp) ([] ++ pinsAt fp s7.heap) σ8 H' s' → Nx H' → ∃ m, m < n ∧ ∃ i H', Inv (X.blk s3 H3 scope ce fp) [] (wipe σ (own.map (·.2))) H' s' ∧ tn i s'.heap ∧ (∀ b ∈ fp, H' b = none) ∧ V i m H' := fun {s' H'} I' nx => by
        obtain ⟨m', hm, w'⟩ := hNx H' nx
        have pin' : ∀ b ∈ fp, ∀ o, s7.heap.get? b = some o → s'.heap.get? b = some o ∧ H' b = none := fun b hb o e =>
          have z := I'.pin (b, o) (List.mem_append_right _ (List.mem_append_right _ (mem_pinsAt hb e)))
          ⟨z.1, z.2.1⟩
        refine ⟨m', hm, i + 1, H', (I'.unpinned (pins := [])).weak (by rw [← hw8, wipe_length]) (fun j v e => ?_), T.keep _ _ _ st7 fun b hb o e => (pin' b hb o e).1, fun b hb => ?_, w'⟩
        · rw [← hw8] at e
          exact (wipe_some e).1
        · obtain ⟨o, e, _⟩ := T.obj _ _ st7 b hb
          exact (pin' b hb o e).2
      cases b with
      | false =>
        simp only [Bool.false_eq_true, if_false] at q9 ⊢
        exact fin I9 q9
      | true =>
        simp only [if_true] at q9 ⊢
        refine thnF (pe.run _ s9 σ8 H9 _ I9 q9) fun z s10 ⟨yv, H10, I10, r10, c, S0, n0, ey, hD10, hz10, nx⟩ => ?_
        subst ey
        obtain ⟨tk, rfl⟩ : ∃ tk, z = Value.int c tk := r10
        exact addI_ok (X := X.blk s3 H3 scope ce fp) I10 hD10 hz10 fun s11 I11 => fin I11 nx
  exact codeAny_compStart_set loop (T.self X.A 0 _ _ _ st4 loop)
theorem pe_sI {elt tg iter : Expr} {ifs : List Expr} {scope : Scope} {own : List (PySem.Str × Nat)} {pos : Pos} {wi : TI} {g : TG} {tt : TT} {te : TE} (hc : X.calm = true) (hN : X.N.Nodup) (hi : PI X tg iter wi) (ok : BlkOk X.N X.env.scope scope own)
    (hg : ∀ (s : Shared) (H : Hp) (C : Addr) (cl : List (PySem.Str × Addr)) (fp : List Addr), PG (X.blk s H scope (compEnvC scope cl C X.env) fp) tg g) (ht : ∀ (s : Shared) (H : Hp) (C : Addr) (cl : List (PySem.Str × Addr)) (fp : List Addr), PTs (X.blk s H scope (compEnvC scope cl C X.env) fp) ifs tt)
    (he : ∀ (s : Shared) (H : Hp) (C : Addr) (cl : List (PySem.Str × Addr)) (fp : List Addr), PE (X.blk s H scope (compEnvC scope cl C X.env) fp) elt te) (hs : ∀ x, foldedSetIterable iter X.env x = pure x := by intro _; rfl) :
    PE X (.SetComp elt [⟨tg, iter, ifs, 0⟩] scope pos) (tSI X.w wi g tt te (own.map (·.2))) := by
  refine ⟨fun pins s σ H Q I h => ?_⟩
  rw [eval_SetComp]
  refine core hc hN I hi ok hg ht he hs h fun D C s' m H' I' q hn ⟨f0, f1, f2, f3, f4, f5⟩ => ⟨m, hn, fun h'' sb => ?_⟩
  exact ⟨.ref D, H', I'.turned (t' := s'.toks) (fun b o hb e => (sb.2 b hb).trans e) f0 f1 f3 f4 f5, rfl, q⟩
end
end ScI

/-! DX39: sorted({e for x in it if c}), of fewer than 60 ints: the data. -/
namespace DL
open PySem PySem.Spec PyProof.Rows L2
def insI (ns : List Int) (k : Int) : List Int := if k ∈ ns then ns else ns ++ [k]
theorem mem_insI {ns : List Int} {k j : Int} : j ∈ insI ns k ↔ j ∈ ns ∨ j = k := by
  unfold insI
  split
  · exact ⟨.inl, fun h => h.elim id fun e => e ▸ by assumption⟩
  · simp
theorem insI_nd {ns : List Int} {k : Int} (h : ns.Nodup) : (insI ns k).Nodup := by
  unfold insI
  split
  · exact h
  · rename_i c
    exact List.nodup_append.mpr ⟨h, by simp, fun a ha b hb e => by
      have : b = k := by simpa using hb
      subst e this; exact c ha⟩
theorem insI_len {ns : List Int} {k : Int} : (insI ns k).length = if k ∈ ns then ns.length else ns.length + 1 := by
  unfold insI
  split
  · rfl
  · simp
def addS : D → List Int → Option (List Int)
  | .int c, acc => if acc.length < 60 then some (insI acc c) else none
  | _, _ => none
def lcS (G : D → Env → Option Env) (T : Env → Res Bool) (E : Env → Res D) (vs : List Nat) : List D → List Int → Env → Res (List Int)
  | [], acc, r => .ok acc r
  | d :: ds, acc, r => match G d r with
    | none => .stk
    | some r1 => (T r1).bindS fun k r2 => if k = true then (E r2).bindS fun x r3 => match addS x acc with
        | some acc' => lcS G T E vs ds acc' (wipeE r3 vs)
        | none => .stk
      else lcS G T E vs ds acc (wipeE r2 vs)
def eSrtS (G : D → Env → Option Env) (T : BE) (E : EE) (vs : List Nat) (I : Env → Res (List D)) : EE := fun r => (I r).bind fun ds r1 => (lcS G T E vs ds [] (wipeE r1 vs)).bind fun acc r2 => .ok (.lst true ((srt acc).map .int)) (resE r1 r2 vs)
@[simp] theorem eSrtS_ap {G : D → Env → Option Env} {T : BE} {E : EE} {vs : List Nat} {I : Env → Res (List D)} {r : Env} : eSrtS G T E vs I r = (I r).bind fun ds r1 => (lcS G T E vs ds [] (wipeE r1 vs)).bind fun acc r2 => .ok (.lst true ((srt acc).map .int)) (resE r1 r2 vs) := (rfl)
/-- the set at D0 -/
structure BdS (w : World) (K : PySem.W.Frag) (P : (Addr → Prop) → Hp → Prop) (T1 : Fp) (D0 : Addr) (S : Addr → Prop) (H : Hp) (acc : List Int) (F : Fp) : Prop where
  hD : H D0 = some (SetO w D0 (fun j => decide (j ∈ acc)) acc.length)
  nd : acc.Nodup
  ln : acc.length ≤ 60
  ft : Ft S H (D0 :: (T1 ++ F))
  p : P S H
section
variable {X : Cx} {W : WT} {w : World} {K : PySem.W.Frag} {tb : List Addr} {e a b c tg : Expr} {es : List Expr} {S S' S1 S2 : Addr → Prop} {H H' H1 H2 : Hp} {F F' F1 F2 T : Fp} {σ : L2.St} {r : Env} {pos p p2 : Pos} {x : Str} {P : (Addr → Prop) → Hp → Prop} {T1 : Fp} {D0 : Addr} {acc : List Int}
theorem BdS.step (h : BdS w K P T1 D0 S H acc F) (st : ∀ S1 H1 F1 S2 H2 F2, P S1 H1 → Ft S1 H1 (T1 ++ F1) → Go S1 H1 F1 S2 H2 F2 → P S2 H2) (g : Go S H F S2 H2 F2) (f : Ft S2 H2 F2) : BdS w K P T1 D0 S2 H2 acc F2 := by
  have ft : Ft S H ((D0 :: T1) ++ F) := h.ft
  have ap := ft.apart
  have h2 : Ft S H ([D0] ++ (T1 ++ F)) := h.ft
  exact ⟨g.fr _ _ h.hD (ap D0 (by simp)) trivial, h.nd, h.ln, ft.frame g f, st S H F S2 H2 F2 h.p h2.right g⟩
theorem BdS.narrow (h : BdS w K P T1 D0 S H acc F) (f : Ft S H F') (s : ∀ b ∈ F', b ∈ F) : BdS w K P T1 D0 S H acc F' :=
  ⟨h.hD, h.nd, h.ln, (show Ft S H ((D0 :: T1) ++ F) from h.ft).narrow f s, h.p⟩
theorem setO_ins {c : Int} : SetO w D0 (fun j => decide (j ∈ acc) || decide (j = c)) (if decide (c ∈ acc) = true then acc.length else acc.length + 1) = SetO w D0 (fun j => decide (j ∈ insI acc c)) (insI acc c).length := by
  have e1 : (fun j => decide (j ∈ acc) || decide (j = c)) = fun j => decide (j ∈ insI acc c) := by
    funext j
    rw [Bool.eq_iff_iff, Bool.or_eq_true, decide_eq_true_eq, decide_eq_true_eq, decide_eq_true_eq, mem_insI]
  have e2 : (if decide (c ∈ acc) = true then acc.length else acc.length + 1) = (insI acc c).length := by
    rw [insI_len]
    by_cases h : c ∈ acc <;> simp [h]
  rw [e1, e2]
theorem BdS.add {c : Int} (h : BdS w K P T1 D0 S H acc F) (st : ∀ S1 H1 F1 S2 H2 F2, P S1 H1 → Ft S1 H1 (T1 ++ F1) → Go S1 H1 F1 S2 H2 F2 → P S2 H2) (hl : acc.length < 60) :
    BdS w K P T1 D0 S (upd H D0 (SetO w D0 (fun j => decide (j ∈ insI acc c)) (insI acc c).length)) (insI acc c) F ∧
      Go S H (D0 :: (T1 ++ F)) S (upd H D0 (SetO w D0 (fun j => decide (j ∈ insI acc c)) (insI acc c).length)) (D0 :: (T1 ++ F)) ∧
      (∀ r σ, At K tb S H r σ F → At K tb S (upd H D0 (SetO w D0 (fun j => decide (j ∈ insI acc c)) (insI acc c).length)) r σ F) := by
  have ft : Ft S H ([D0] ++ (T1 ++ F)) := h.ft
  have sd := ft.sd
  have m : Mt (H D0) := by rw [h.hD]; trivial
  have g : Go S H [D0] S (upd H D0 (SetO w D0 (fun j => decide (j ∈ insI acc c)) (insI acc c).length)) [D0] := upd_goM sd m
  have f1 : Ft S (upd H D0 (SetO w D0 (fun j => decide (j ∈ insI acc c)) (insI acc c).length)) [D0] := ⟨by simp, ft.left.dj, fun b z => by
    have : b = D0 := by simpa using z
    subst this; rw [upd_same]; trivial, sd_new sd⟩
  have all := (Ft.frame ft.comm g f1).comm
  have ap : ∀ b ∈ T1 ++ F, b ∉ [D0] := ft.apart'
  refine ⟨⟨upd_same, insI_nd h.nd, ?_, all, ?_⟩, g.frameR (T1 ++ F), fun r σ q => q.go g ft.left (fun b z => ap b (by simp [z])) all.right.right⟩
  · rw [insI_len]
    split <;> omega
  · exact st S H [D0] S _ [D0] h.p (by
      have : Ft S H (([D0] ++ T1) ++ F) := by rw [List.append_assoc]; exact ft
      exact this.left.comm) g
theorem strict_srt {ns acc : List Int} (hs : ns.Pairwise (· < ·)) (hm : ∀ k : Int, k ∈ ns ↔ k ∈ acc) (hn : acc.Nodup) (hl : ns.length = acc.length) : ns = srt acc := by
  have nd : ns.Nodup := hs.imp fun h e => by omega
  have pm : ns.Perm acc := by
    rw [List.perm_iff_count]
    intro k
    by_cases h : k ∈ ns
    · have h2 := (hm k).mp h
      have c1 : ns.count k ≤ 1 := List.nodup_iff_count.mp nd k
      have c2 : acc.count k ≤ 1 := List.nodup_iff_count.mp hn k
      have c3 := List.count_pos_iff.mpr h
      have c4 := List.count_pos_iff.mpr h2
      omega
    · have h2 : k ∉ acc := fun z => h ((hm k).mpr z)
      rw [List.count_eq_zero.mpr h, List.count_eq_zero.mpr h2]
  exact sorted_eq (pm.trans (srt_perm acc).symm) (hs.imp fun h => by omega) (srt_le acc)
theorem rd_sS {vs ws : List Nat} {wi : TI} {I : Env → Res (List D)} {G : D → Env → Option Env} {Tt : Env → Res Bool} {E : Env → Res D} (zi : ∀ S H r σ F R, At X.K W.tb S H r σ F → IP1 X W S H F σ R (I r) → wi σ H R) (hws : ∀ j ∈ ws, j ∈ vs) :
    RdE X W (tCB (rSortedSet X.w) (tCons (ScI.tSI X.w wi (tG X ws G) (tT X (W0 W.tb) Tt) (tE X (W0 W.tb) E) vs) tNil)) (eSrtS G Tt E vs I) := by
  intro S H r σ F Q x y
  refine zi S H r σ F _ x ?_
  have y : EP1 (Rep X.K) X W S H F σ Q ((I r).bind fun ds r1 => (lcS G Tt E vs ds [] (wipeE r1 vs)).bind fun acc r2 => .ok (.lst true ((srt acc).map .int)) (resE r1 r2 vs)) := y
  cases eI : I r with
  | stk => rw [eI] at y; exact y
  | exc c r1 => rw [eI] at y; exact y
  | ok ds r1 =>
    rw [eI] at y
    intro J S1 H1 F1 T1 P g1 x1 f1 it p0 st D0 hD0
    have y : EP1 (Rep X.K) X W S H F σ Q ((lcS G Tt E vs ds [] (wipeE r1 vs)).bind fun acc r2 => .ok (.lst true ((srt acc).map .int)) (resE r1 r2 vs)) := y
    refine ⟨fun i m H' => m = ds.length - i ∧ i ≤ ds.length ∧ ∃ S' r' F' acc, BdS X.w X.K P T1 D0 S' H' acc F' ∧ At X.K W.tb S' H' (wipeE r' vs) (L2.wipe σ vs) F' ∧ Go S1 H1 (T1 ++ F1) S' H' (D0 :: (T1 ++ F')) ∧
      EP1 (Rep X.K) X W S H F σ Q ((lcS G Tt E vs (ds.drop i) acc (wipeE r' vs)).bind fun acc r2 => .ok (.lst true ((srt acc).map .int)) (resE r1 r2 vs)), ⟨ds.length, by simp, Nat.zero_le _, ?_⟩, ?_⟩
    · obtain ⟨F1', q1, s1⟩ := x1.wiped vs
      have e0 : SetO X.w D0 (fun _ => false) 0 = SetO X.w D0 (fun j => decide (j ∈ ([] : List Int))) ([] : List Int).length := by
        congr 1
      rw [e0]
      have gn : Go S1 H1 [] S1 (upd H1 D0 (SetO X.w D0 (fun j => decide (j ∈ ([] : List Int))) ([] : List Int).length)) [D0] := go_new x1.ft.sd hD0 [D0] (fun _ z => by simpa using z)
      have fn : Ft S1 (upd H1 D0 (SetO X.w D0 (fun j => decide (j ∈ ([] : List Int))) ([] : List Int).length)) [D0] := ft_newO x1.ft.sd hD0 trivial
      have f2 : Ft S1 H1 (T1 ++ F1') := f1.narrow q1.ft s1
      have f3 : Ft S1 (upd H1 D0 (SetO X.w D0 (fun j => decide (j ∈ ([] : List Int))) ([] : List Int).length)) ((T1 ++ F1') ++ [D0]) := Ft.frame (T := T1 ++ F1') (F := []) (by simpa using f2) gn fn
      refine ⟨S1, r1, F1', [], ⟨upd_same, .nil, by simp, f3.comm, ?_⟩, q1.ext gn fn, ?_, y⟩
      · refine st S1 H1 [] S1 _ [D0] p0 (by simpa using f1.left) gn
      · have g2 : Go S1 H1 (T1 ++ F1) S1 (upd H1 D0 (SetO X.w D0 (fun j => decide (j ∈ ([] : List Int))) ([] : List Int).length)) ((T1 ++ F1) ++ [D0]) := by simpa using gn.frame (T1 ++ F1)
        refine g2.sub fun b z => ?_
        simp only [List.mem_append, List.mem_cons, List.mem_singleton] at z ⊢
        rcases z with rfl | z | z
        · exact .inr (.inl rfl)
        · exact .inl (.inl z)
        · exact .inl (.inr (s1 b z))
    · rintro i m H3 ⟨rfl, hi, S3, r3, F3, acc, bd, x3, g3, y3⟩
      by_cases hlt : i < ds.length
      · have ed : ds[i]? = some ds[i] := List.getElem?_eq_getElem hlt
        obtain ⟨hgo, hyl⟩ := it.item i ds[i] S3 H3 ed bd.p bd.ft.sd
        refine .inr ⟨hgo, fun H' => i + 1 ≤ ds.length ∧ ∃ S' r' F' acc, BdS X.w X.K P T1 D0 S' H' acc F' ∧ At X.K W.tb S' H' (wipeE r' vs) (L2.wipe σ vs) F' ∧ Go S1 H1 (T1 ++ F1) S' H' (D0 :: (T1 ++ F')) ∧
          EP1 (Rep X.K) X W S H F σ Q ((lcS G Tt E vs (ds.drop (i + 1)) acc (wipeE r' vs)).bind fun acc r2 => .ok (.lst true ((srt acc).map .int)) (resE r1 r2 vs)), fun H' nx => ⟨ds.length - (i + 1), by omega, rfl, nx.1, nx.2⟩, fun v H4 yl => ?_⟩
        obtain ⟨g4, sd4, rd4⟩ := hyl v H4 yl
        have fn4 : Ft S3 H4 [] := Ft.nil sd4
        have x4 := x3.ext0 g4 fn4
        have bd4 : BdS X.w X.K P T1 D0 S3 H4 acc F3 := bd.step st (go_side g4 F3) x4.ft
        have g34 : Go S1 H1 (T1 ++ F1) S3 H4 (D0 :: (T1 ++ F3)) := g3.trans (go_side g4 _)
        have y4 := y3
        rw [show ds.drop i = ds[i] :: ds.drop (i + 1) from List.drop_eq_getElem_cons hlt] at y4
        unfold lcS at y4
        cases eG : G ds[i] (wipeE r3 vs) with
        | none => rw [eG] at y4; exact y4.elim
        | some r5 =>
          rw [eG] at y4
          have y4 : EP1 (Rep X.K) X W S H F σ Q (((Tt r5).bindS fun k r2 => if k = true then (E r2).bindS fun x r3 => match addS x acc with
              | some acc' => lcS G Tt E vs (ds.drop (i + 1)) acc' (wipeE r3 vs)
              | none => .stk
            else lcS G Tt E vs (ds.drop (i + 1)) acc (wipeE r2 vs)).bind fun acc r2 => .ok (.lst true ((srt acc).map .int)) (resE r1 r2 vs)) := y4
          refine ⟨W.tb, S3, wipeE r3 vs, F3, ds[i], [], x4, rd4, x4.ft, r5, eG, fun σ5 F5 q5 s5 o5 l5 => ?_⟩
          have s5 : ∀ b ∈ F5, b ∈ F3 := fun b z => by simpa using s5 b z
          have hw : L2.wipe σ5 vs = L2.wipe σ vs := (wipe_eq (fun j hj => o5 j (fun z => hj (hws j z))) l5).trans (wipe_idem σ vs)
          have bd5 := bd4.narrow q5.ft s5
          have g35 : Go S1 H1 (T1 ++ F1) S3 H4 (D0 :: (T1 ++ F5)) := g34.sub fun b z => by
            simp only [List.mem_append, List.mem_cons] at z ⊢
            rcases z with z | z | z
            · exact .inl z
            · exact .inr (.inl z)
            · exact .inr (.inr (s5 b z))
          refine ⟨hw, S3, r5, F5, q5, EP1.bindS y4 fun k r6 k' S6 H6 F6 T6 e6 g6 q6 h6 f6 y6 => ?_⟩
          obtain ⟨rfl, rfl⟩ := h6
          have bd6 : BdS X.w X.K P T1 D0 S6 H6 acc F6 := bd5.step st g6 f6
          have fr : ∀ {S7 : Addr → Prop} {H7 : Hp} {Z Y : Fp}, Go S3 H4 Z S7 H7 Y → Go S1 H1 (T1 ++ F1) S3 H4 (D0 :: (T1 ++ Z)) → Go S1 H1 (T1 ++ F1) S7 H7 (D0 :: (T1 ++ Y)) := fun {S7 H7 Z Y} g g' => g'.trans (g.frame (D0 :: T1))
          have g36 : Go S1 H1 (T1 ++ F1) S6 H6 (D0 :: (T1 ++ F6)) := fr g6 g35
          cases k with
          | false =>
            have y6 : EP1 (Rep X.K) X W S H F σ Q ((lcS G Tt E vs (ds.drop (i + 1)) acc (wipeE r6 vs)).bind fun acc r2 => .ok (.lst true ((srt acc).map .int)) (resE r1 r2 vs)) := y6
            obtain ⟨F7, q7, s7⟩ := q6.wiped vs
            rw [hw] at q7
            rw [if_neg Bool.false_ne_true]
            refine ⟨hlt, S6, r6, F7, acc, bd6.narrow q7.ft s7, q7, g36.sub fun b z => ?_, y6⟩
            simp only [List.mem_append, List.mem_cons] at z ⊢
            rcases z with z | z | z
            · exact .inl z
            · exact .inr (.inl z)
            · exact .inr (.inr (s7 b z))
          | true =>
            have y6 : EP1 (Rep X.K) X W S H F σ Q (((E r6).bindS fun x r3 => match addS x acc with
                | some acc' => lcS G Tt E vs (ds.drop (i + 1)) acc' (wipeE r3 vs)
                | none => .stk).bind fun acc r2 => .ok (.lst true ((srt acc).map .int)) (resE r1 r2 vs)) := y6
            rw [if_pos rfl]
            refine ⟨S6, r6, F6, q6, EP1.bindS y6 fun d7 r7 w7 S7 H7 F7 T7 e7 g7 q7 h7 f7 y7 => ?_⟩
            cases d7 with
            | int c =>
              obtain ⟨rfl, rfl⟩ := h7
              by_cases hz : acc.length < 60
              · have ea : addS (.int c) acc = some (insI acc c) := if_pos hz
                rw [ea] at y7
                have f7 : Ft S7 H7 F7 := by simpa using f7
                have g7 : Go S6 H6 F6 S7 H7 F7 := g7.sub fun b z => by simpa using z
                have bd7 : BdS X.w X.K P T1 D0 S7 H7 acc F7 := bd6.step st g7 f7
                have g37 : Go S1 H1 (T1 ++ F1) S7 H7 (D0 :: (T1 ++ F7)) := g36.trans (g7.frame (D0 :: T1))
                obtain ⟨b1, b2, b3⟩ := bd7.add (tb := W.tb) (c := c) st hz
                have q9 := b3 _ _ q7
                obtain ⟨F8, q8, s8⟩ := q9.wiped vs
                rw [hw] at q8
                refine ⟨c, fun j => decide (j ∈ acc), acc.length, rfl, bd7.hD, by show _ < 4096; omega, ?_⟩
                rw [setO_ins]
                refine ⟨hlt, S7, r7, F8, insI acc c, b1.narrow q8.ft s8, q8, (g37.trans b2).sub fun b z => ?_, y7⟩
                simp only [List.mem_append, List.mem_cons] at z ⊢
                rcases z with z | z | z
                · exact .inl z
                · exact .inr (.inl z)
                · exact .inr (.inr (s8 b z))
              · have ea : addS (.int c) acc = none := if_neg hz
                rw [ea] at y7
                exact y7.elim
            | _ => exact y7.elim
      · have e : i = ds.length := by omega
        subst e
        refine .inl ⟨it.stop S3 H3 bd.p, ?_⟩
        rw [List.drop_length] at y3
        have y3 : EP1 (Rep X.K) X W S H F σ Q (.ok (.lst true ((srt acc).map .int)) (resE r1 (wipeE r3 vs) vs)) := y3
        obtain ⟨F9, q9, s9⟩ := x3.unwipe.restore (vs := vs) x1 g3 f1
        have g13 : Go S H F S3 H3 F9 := (g1.trans g3).sub fun b z => by
          simp only [List.mem_append, List.mem_cons]
          exact .inr (.inr (s9 b z))
        refine ⟨D0, fun j => decide (j ∈ acc), acc.length, rfl, bd.hD, by have := bd.ln; omega, fun ns pp hs hm hl hp => ?_⟩
        have en : ns = srt acc := strict_srt hs (fun k => (hm k).trans decide_eq_true_iff) bd.nd hl
        rw [en]
        have g0 := go_new (S := S3) q9.ft.sd hp [pp] (fun _ z => by simpa using z) (o := .lst ((srt acc).map V.int))
        obtain ⟨a1, a2, a3⟩ := own_end (T1 := []) (by simpa using g13) q9 g0 (ft_new q9.ft.sd hp)
        exact y3 (.ref pp) S3 _ F9 [pp] a1 a2 (rep_lst q9.ft.sd hp RepL.of_ints) a3
theorem n_srtS {elt iter : Expr} {ifs : List Expr} {scope : Scope} (own : List (Str × Nat)) {ws : List Nat} {I : Env → Res (List D)} {Gt : D → Env → Option Env} {Tt : BE} {Et : EE} (hc : X.calm = true) (hN : X.N.Nodup) (hm : X.mg "sorted" = none) (hi : DI X W tg iter I)
    (ok : BlkOk X.N X.env.scope scope own) (hg : ∀ (s : Shared) (H : Hp) (C : Addr) (cl : List (Str × Addr)) (fp : List Addr), DG (X.blk s H scope (compEnvC scope cl C X.env) fp) ws tg Gt)
    (ht : ∀ (s : Shared) (H : Hp) (C : Addr) (cl : List (Str × Addr)) (fp : List Addr), DTs (X.blk s H scope (compEnvC scope cl C X.env) fp) (W0 W.tb) ifs Tt)
    (he : ∀ (s : Shared) (H : Hp) (C : Addr) (cl : List (Str × Addr)) (fp : List Addr), DE (X.blk s H scope (compEnvC scope cl C X.env) fp) (W0 W.tb) elt Et) (hgs : Gl X "sorted" := by rfl) (hws : ∀ j ∈ ws, j ∈ own.map (·.2) := by decide) (hs : ∀ x, foldedSetIterable iter X.env x = pure x := by intro _; rfl)
    (hst : starEach [.SetComp elt [⟨tg, iter, ifs, 0⟩] scope p2] X.env = (false, eval (.SetComp elt [⟨tg, iter, ifs, 0⟩] scope p2) X.env) :: starEach [] X.env := by rfl) (hpl : (backTo pos (starEach [] X.env)).any (·.1) = false := by rfl) :
    DE X W (.Call (.Name "sorted" p) [.SetComp elt [⟨tg, iter, ifs, 0⟩] scope p2] [] pos) (eSrtS Gt Tt Et (own.map (·.2)) I) := by
  obtain ⟨wi, qi, zi⟩ := hi
  exact ⟨_, pe_callB (cr_sortedSet hc) hgs hm PyProof.Rows.boot_sorted (pa_cons (ScI.pe_sI hc hN qi ok (fun s H C cl fp => (hg s H C cl fp).pg) (fun s H C cl fp => (ht s H C cl fp).pts) (fun s H C cl fp => (he s H C cl fp).pe) hs) pa_nil hst) (by decide) (by decide) hst hpl, rd_sS (X := X) (W := W) zi hws⟩
/-! ### plain use -/
def insAll (acc : List Int) (ms : List Int) : List Int := ms.foldl insI acc
theorem mem_insAll : ∀ {ms acc : List Int} {k : Int}, k ∈ insAll acc ms ↔ k ∈ acc ∨ k ∈ ms
  | [], acc, k => by simp [insAll]
  | m :: ms, acc, k => by
    show k ∈ insAll (insI acc m) ms ↔ _
    rw [mem_insAll, mem_insI, List.mem_cons, or_assoc]
theorem insAll_nd : ∀ {ms acc : List Int}, acc.Nodup → (insAll acc ms).Nodup
  | [], _, h => h
  | m :: ms, acc, h => insAll_nd (ms := ms) (acc := insI acc m) (insI_nd h)
theorem lcS_map {α : Type} {G : D → DL.Env → Option DL.Env} {T : BE} {E : EE} {vs : List Nat} {r : DL.Env} {g : α → D} (q : α → Bool) (f : α → Int) : ∀ (L : List α) (acc : List Int), acc.length + L.length ≤ 60 →
    (∀ a ∈ L, ∃ r1, G (g a) r = some r1 ∧ T r1 = .ok (q a) r1 ∧ (q a = true → E r1 = .ok (.int (f a)) r1) ∧ wipeE r1 vs = r) → lcS G T E vs (L.map g) acc r = .ok (insAll acc ((L.filter q).map f)) r
  | [], acc, _, _ => rfl
  | a :: L, acc, hl, h => by
    obtain ⟨r1, e1, e2, e3, e4⟩ := h a (by simp)
    rw [List.length_cons] at hl
    rw [List.map_cons]
    unfold lcS
    rw [e1]
    dsimp only
    rw [e2, Res.bindS_ok]
    cases hq : q a with
    | false => rw [if_neg (by decide), e4, lcS_map q f L acc (by omega) fun a ha => h a (by simp [ha]), List.filter_cons_of_neg (by simp [hq])]
    | true =>
      have ea : addS (.int (f a)) acc = some (insI acc (f a)) := if_pos (by omega)
      rw [if_pos rfl, e3 hq, Res.bindS_ok, ea]
      dsimp only
      rw [e4, lcS_map q f L (insI acc (f a)) (by rw [insI_len]; split <;> omega) fun a ha => h a (by simp [ha]), List.filter_cons_of_pos hq, List.map_cons]
      rfl
end
end DL

/-! DX40: tuple(reversed(a tuple)). -/
namespace RT2
open PySem PySem.Spec PyProof.Rows L2 RT
theorem nolen_rt : typeLookup (.type "reversed") "__len__" = pure none := by rw [typeLookup_type, builtinLookup_eq_fast]; kernel_rfl
theorem hint_rt : typeLookup (.type "reversed") "__length_hint__" = pure (some (.builtin "reversed.__length_hint__")) := by rw [typeLookup_type, builtinLookup_eq_fast]; kernel_rfl
theorem slot_rt_hint : Slot "reversed" "__length_hint__" "reversed.__length_hint__" :=
  .of (owner := "reversed") (n := "__length_hint__") (by rw [typeLookup_type, builtinLookup_eq_fast]; kernel_rfl) (by decide +kernel) (by decide +kernel) (by decide +kernel)
    (by first | exact .inl (by decide +kernel) | exact .inr (by decide +kernel)) (by rw [isSubtype_type]; kernel_rfl)
theorem entry_rt_hint : entryFor table "reversed.__length_hint__" = some Builtin.«reversed.__length_hint__» := entryFor_of_tree (by kernel_rfl)
theorem args_rt_hint (a : Value) : argsOk "reversed.__length_hint__" ⟨[a], []⟩ := by
  unfold argsOk; rw [signature?_of (id := "reversed.__length_hint__") (n := ['_', '_', 't', 'n', 'i', 'h', '_', 'h', 't', 'g', 'n', 'e', 'l', '_', '_']) (o := ['d', 'e', 's', 'r', 'e', 'v', 'e', 'r']) (by kernel_rfl) owner_rt]; kernel_rfl
theorem bind_hint (self : Value) : bindSpecial (.builtin "reversed.__length_hint__") self = pure (.builtin "reversed.__length_hint__", [self]) := by
  unfold bindSpecial
  first
  | kernel_rfl
  | rfl
section
variable {prog : Program} {w : World} {A : Around} {E : Value → Shared → Prop} {s : Shared}
theorem call_hint {it t : Addr} {i : Int} {items : Array Value} {Q : Value → Shared → Prop} (hit : IsRt s.heap it t i) (ht : IsTup s.heap t items) (hn : items.size ≤ sizeLine) (hi : i + 1 ≤ items.size)
    (h : ∀ tk n, Q (.int (i + 1) n) { s with toks := tk }) : wpAny (model prog w) A (call (.builtin "reversed.__length_hint__") [.ref it]) Q E s := by
  obtain ⟨o, ho, hc, hd⟩ := id hit
  rw [sizeLine_eq] at hn
  refine wpAny_call_entry slot_rt_hint hit.typeIs entry_rt_hint ?_ (args_rt_hint _)
  unfold Builtin.«reversed.__length_hint__»
  refine wpAny_bind (wpAny_of_eq (a := Value.ref it) rfl ?_)
  try dsimp only
  refine wpAny_bind (wpAny_field ho hd (x := .ref t) rfl ?_)
  try dsimp only
  rw [show ((Value.ref t == Value.none) = false) from rfl, if_neg (by decide)]
  try dsimp only
  refine wpAny_bind (len_tuple ht (by omega) ?_)
  refine wpAny_bind (wpAny_of_eq (a := some ((items.size : Nat) : Int)) rfl ?_)
  try dsimp only
  refine wpAny_bind (wpAny_field (s := { s with toks := s.toks + 1 + 1 }) ho hd (x := rawInt i) rfl ?_)
  show wpAny _ _ (if ((items.size : Nat) : Int) < i + 1 then _ else _) _ _ _
  rw [if_neg (by omega)]
  unfold retInt
  refine wpAny_bind (wpAny_mkInt ?_)
  exact wpAny_pure ⟨_, rfl, h _ _⟩
theorem length_hint {it t : Addr} {i : Int} {items : Array Value} {Q : Bool → Shared → Prop} (hit : IsRt s.heap it t i) (ht : IsTup s.heap t items) (hn : items.size ≤ sizeLine) (hi : i + 1 ≤ items.size) (h0 : 0 ≤ i + 1)
    (h : ∀ tk b, Q b { s with toks := tk }) : wpAny (model prog w) A (Builtin.List.listLengthHint (.ref it)) Q E s := by
  unfold Builtin.List.listLengthHint
  have hT := hit.typeIs
  refine wpAny_bind (wpAny_specialOf hT nolen_rt ?_)
  show wpAny _ _ (specialOf (Value.ref it) (Str.ofString "__length_hint__") >>= _) _ _ _
  refine wpAny_bind (wpAny_specialOf hT hint_rt ?_)
  generalize hid : ("reversed.__length_hint__" : String) = id0
  wp_delta
  rw [show splitId id0 = some ("reversed", "__length_hint__") from by subst hid; decide +kernel]
  subst hid
  refine wpAny_bind (wpAny_isInstance (b := true) hT (by rw [isSubtype_type]; kernel_rfl) ?_)
  rw [if_neg (by decide)]
  show wpAny _ _ (ite _ _ _) _ _ _
  rw [if_neg (by decide +kernel)]
  refine wpAny_bind (wpAny_rule ?_)
  rw [bind_hint]
  show wpAny _ _ (Sem.attempt (call (.builtin "reversed.__length_hint__") [.ref it]) >>= _) _ _ _
  refine wpAny_bind (wpAny_attempt (call_hint hit ht hn hi fun tk n => ?_))
  show wpAny _ _ (asInt? (.int (i + 1) n) >>= _) _ _ _
  refine wpAny_bind (wpAny_of_eq (a := some (i + 1)) rfl ?_)
  rw [sizeLine_eq] at hn
  have c1 : (!Builtin.List.listFitsIndex (i + 1)) = false := by
    unfold Builtin.List.listFitsIndex
    have h1 : (-(2 ^ 63 : Int) ≤ i + 1) := by omega
    have h2 : (i + 1 < 2 ^ 63) := by omega
    simp
    omega
  have c2 : ¬ (i + 1 < 0) := by omega
  have c3 : Builtin.List.listTooLong (i + 1).toNat = false := by
    unfold Builtin.List.listTooLong
    rw [sizeLine_eq]
    simp only [decide_eq_false_iff_not]
    omega
  simp only [c1, c2, c3, if_false, Bool.false_eq_true]
  exact wpAny_pure (h _ _)
theorem walksRt {A : Around} (hh : A.handled = none) (I l : Addr) (hne : l ≠ I) (items : Array Value) (hz : items.size ≤ sizeLine) :
    Walks prog w A I [I, l] [I] items.size (fun i v => items[items.size - 1 - i]? = some v) (fun i h => i ≤ items.size ∧ IsRt h I l ((items.size : Int) - 1 - (i : Int)) ∧ IsTup h l items) where
  sub := fun b hb => by simp at hb; simp [hb]
  frame := fun _ _ _ x hk => ⟨x.1, x.2.1.at fun o e => hk I (by simp) o e, by obtain ⟨o, e, r⟩ := x.2.2; exact ⟨o, hk l (by simp) o e, r⟩⟩
  item := fun i s Q E hi x hQ => by
    have e : (items.size : Int) - 1 - (i : Int) = ((items.size - 1 - i : Nat) : Int) := by omega
    have hit := x.2.1
    rw [e] at hit
    have hx : items[items.size - 1 - i]? = some (items[items.size - 1 - i]'(by omega)) := Array.getElem?_eq_getElem (by omega)
    refine next_rt_item hit x.2.2 hx hz fun h' hit' hs' => ?_
    have e2 : ((items.size - 1 - i : Nat) : Int) - 1 = (items.size : Int) - 1 - ((i + 1 : Nat) : Int) := by omega
    rw [e2] at hit'
    refine hQ _ h' (s.toks + 1) hx ⟨hi, hit', ?_⟩ fun b o hb eo => hs'.extBut b o (fun h => hb (by simp [h])) eo
    obtain ⟨o, eo, r⟩ := x.2.2
    exact ⟨o, (hs'.2 l hne).trans eo, r⟩
  done := fun s Q E x hQ => by
    have e : (items.size : Int) - 1 - (items.size : Int) = -1 := by omega
    have hit := x.2.1
    rw [e] at hit
    exact next_rt_end hh hit fun h' he' => hQ h' s.toks fun b o hb eo => he' b o (fun h => hb (by simp [h])) eo
  self := fun _ _ _ _ x hQ => iter_rt x.2.1 hQ
theorem up_tup {h : Heap} {a t : Addr} {items : Array Value} {f : Obj → Obj} (ht : IsTup h t items) (hne : a ≠ t) : IsTup (h.update a f) t items := by
  obtain ⟨o, e, r⟩ := ht
  exact ⟨o, (Heap.get?_update_other _ _ hne).trans e, r⟩
theorem push_tup {h : Heap} {o' : Obj} {t : Addr} {items : Array Value} (ht : IsTup h t items) : IsTup (h.push o') t items := by
  obtain ⟨o, e, r⟩ := ht
  exact ⟨o, Heap.get?_push_of_some _ e, r⟩
theorem collect_rt {it l : Addr} {items : Array Value} {Q : List Value → Shared → Prop} (hh : A.handled = none) (hit : IsRt s.heap it l ((items.size : Int) - 1)) (hl : IsTup s.heap l items) (hne : l ≠ it) (hn : items.size ≤ sizeLine)
    (hQ : ∀ (h' : Heap) (tk : Nat) (acc : Array Value), (∀ b o, b ≠ it → s.heap.get? b = some o → h'.get? b = some o) → ItemsOf (fun i v => items[items.size - 1 - i]? = some v) acc items.size → Q acc.toList { s with heap := h', toks := tk }) :
    wpAny (model prog w) A (collect (.ref it)) Q E s := by
  have W := (walksRt (prog := prog) (w := w) (A := A.in1) hh it l hne items hn).toS
  obtain ⟨oi, hoi, _⟩ := id hit
  obtain ⟨ol, hol, _⟩ := id hl
  have hSi : s.heap.objs.size ≠ it := Nat.ne_of_gt (Heap.lt_size hoi)
  have hSl : s.heap.objs.size ≠ l := Nat.ne_of_gt (Heap.lt_size hol)
  have hSf : s.heap.objs.size ∉ [it, l] := by simp only [List.mem_cons, List.not_mem_nil, or_false, not_or]; exact ⟨hSi, hSl⟩
  unfold collect
  refine wpAny_bind (wpAny_runValue (codeAny_builtin F.entry_proto_collect ?_))
  rw [Around.under_plainId F.plain_proto_collect _]
  show wpAny _ A.in1 (newList [] >>= fun l' => again (.builtin "list.__iadd__" ⟨[l', .ref it], []⟩)) _ _ s
  refine wpAny_bind (wpAny_newObj_type ?_)
  refine wpAny_pure ⟨plainId_quiet F.plain_list_iadd _, codeAny_builtin F.entry_list_iadd ?_⟩
  rw [Around.under_plainId F.plain_list_iadd _]
  have hS₁ : (s.heap.push { cls := .type "list", data := .seq ([] : List Value).toArray }).get? s.heap.objs.size = some { cls := .type "list", data := .seq ([] : List Value).toArray } := Heap.get?_push_size _ rfl
  generalize hHp : s.heap.push { cls := .type "list", data := .seq ([] : List Value).toArray } = Hp1 at hS₁ ⊢
  have old : ∀ b o, s.heap.get? b = some o → Hp1.get? b = some o := fun b o e => by rw [← hHp]; exact Heap.get?_push_of_some _ e
  have hit1 : IsRt Hp1 it l ((items.size : Int) - 1) := hit.at fun o e => old it o e
  have hl1 : IsTup Hp1 l items := by obtain ⟨o, e, r⟩ := hl; exact ⟨o, old l o e, r⟩
  have hT : ({ s with heap := Hp1 } : Shared).TypeIs (.ref it) "reversed" := IsRt.typeIs (s := { s with heap := Hp1 }) hit1
  have h1 : Builtin.List.listSameRef (.ref s.heap.objs.size) (.ref it) = false := by simp [Builtin.List.listSameRef, hSi]
  have e0 : ((items.size : Nat) : Int) - 1 - ((0 : Nat) : Int) = (items.size : Int) - 1 := by omega
  have fin : ∀ (tk : Nat) (H2 : Heap) (c2 : Nat), (∀ b o, b ≠ s.heap.objs.size → Hp1.get? b = some o → H2.get? b = some o) → H2.get? s.heap.objs.size = some { cls := .type "list", dict := none, data := .seq #[] c2, slots := #[] } →
      codeAny (model prog w) A (.builtin "list.extend.loop" ⟨[.ref s.heap.objs.size, .ref it, .ref s.heap.objs.size], []⟩) (fun r s' => match r with
        | .ok (.ret v) => wpAny (model prog w) A (match v with
          | .ref a => do
            match (← load a).data with
              | .seq xs _ => pure xs.toList
              | _ => unsupported "internal:collect"
          | _ => unsupported "internal:collect") Q E s'
        | .ok _ => False
        | .error e => E e s') { s with heap := H2, toks := tk } := fun tk H2 c2 k2 hS2 => by
    refine codeAny_extend_loopS W hn s.heap.objs.size hSf (.ref s.heap.objs.size) items.size 0 { s with heap := H2, toks := tk } #[] c2 rfl (Nat.zero_le _) ⟨Nat.zero_le _, ?_, ?_⟩ hS2 (ItemsOf.nil _) fun s' acc' c' hm hS' hacc => ?_
    · rw [e0]; exact hit1.at fun o e => k2 it o hSi.symm e
    · obtain ⟨o, e, r⟩ := hl1; exact ⟨o, k2 l o hSl.symm e, r⟩
    · show wpAny _ A (load s.heap.objs.size >>= _) _ _ s'
      refine wpAny_bind (wpAny_load hS' ?_)
      refine wpAny_pure ?_
      rw [Moved.eq_with hm]
      refine hQ s'.heap s'.toks acc' (fun b o hb e => hm.heap b o (fun hmem => ?_) (k2 b o (Nat.ne_of_lt (Heap.lt_size e)) (old b o e))) hacc
      rcases List.mem_cons.mp hmem with e' | hmem
      · exact absurd (Heap.lt_size e) (by rw [e']; exact Nat.lt_irrefl _)
      · exact hb (List.mem_singleton.mp hmem)
  show wpAny _ A.in1 (Builtin.List.listExtendWith (.ref s.heap.objs.size) (.ref it) (.ref s.heap.objs.size)) _ _ _
  unfold Builtin.List.listExtendWith
  refine wpAny_bind (wpAny_typeOf hT ?_)
  rw [if_neg (by rw [h1]; decide)]
  refine wpAny_bind (iter_rt (s := { s with heap := Hp1 }) hit1 ?_)
  refine wpAny_bind (wpAny_holding ?_)
  refine length_hint (s := { s with heap := Hp1 }) hit1 hl1 hn (by omega) (by omega) fun tk b => ?_
  cases b with
  | false =>
    rw [if_neg (by decide)]
    refine wpAny_pure ⟨plainId_quiet F.plain_extend_loop _, ?_⟩
    exact fin tk Hp1 _ (fun b o _ e => e) hS₁
  | true =>
    rw [if_pos (by decide)]
    refine wpAny_bind (wpAny_rule ?_)
    unfold Builtin.List.listTouch
    refine wpAny_bind (wpAny_bind ?_)
    show wpAny _ _ (updateSeq s.heap.objs.size (·.push .none)) _ _ _
    refine wpAny_updateSeq hS₁ rfl ?_
    have hS₂ := Heap.get?_update_self (Obj.mapSeq (·.push Value.none)) hS₁ rfl
    show wpAny _ _ (updateSeq s.heap.objs.size (·.pop)) _ _ _
    refine wpAny_updateSeq hS₂ rfl ?_
    have hS₃ := Heap.get?_update_self (Obj.mapSeq (fun x : Array Value => x.pop)) hS₂ rfl
    refine wpAny_pure ⟨plainId_quiet F.plain_extend_loop _, ?_⟩
    exact fin tk _ _ (fun b o hb e => (Heap.get?_update_other _ _ hb.symm).trans ((Heap.get?_update_other _ _ hb.symm).trans e)) hS₃
theorem code_tuple_new_rt {it l : Addr} {items : Array Value} {Q₁ : Value → Shared → Prop} (hh : A.handled = none) (hit : IsRt s.heap it l ((items.size : Int) - 1)) (hl : IsTup s.heap l items) (hne : l ≠ it) (hn : items.size ≤ sizeLine)
    (h : ∀ (h' : Heap) (tk : Nat) (acc : Array Value), (∀ b o, b ≠ it → s.heap.get? b = some o → h'.get? b = some o) → ItemsOf (fun i v => items[items.size - 1 - i]? = some v) acc items.size →
      Q₁ (.ref h'.objs.size) { s with heap := h'.push { cls := .type "tuple", data := .seq acc }, toks := tk }) :
    codeAny (model prog w) A (.call (.builtin "tuple.__new__") ⟨[.type "tuple", .ref it], []⟩) (wants Q₁ E) s := by
  refine codeAny_of_tree ?_
  show wpAny _ A.in1 (do checkBuiltinCall "tuple.__new__" ⟨[.type "tuple", .ref it], []⟩; again (.builtin "tuple.__new__" ⟨[.type "tuple", .ref it], []⟩)) _ _ s
  refine wpAny_bind (wpAny_of_eq (F.newCall_tuple_1 _) (wpAny_pure ⟨plainId_quiet F.plain_tuple_new _, codeAny_builtin F.entry_tuple_new ?_⟩))
  rw [Around.under_plainId F.plain_tuple_new _]
  have hsub := sub_tuple_self
  have hinit := init_tuple_lookup
  have hmh := madeHere_tuple
  have hTI : s.TypeIs (.ref it) "reversed" := hit.typeIs
  have hh1 : A.in1.handled = none := hh
  wp_walk using wpAny_typeOf hTI, collect_rt (A := A.in1) hh1 hit hl hne hn
  intro h' tk acc hk hacc
  show wpAny _ _ (Builtin.Tuple.tupleExact acc.toList.toArray >>= fun v => ret v) _ _ _
  unfold Builtin.Tuple.tupleExact
  refine wpAny_bind (wpAny_newObj_type ?_ (by show acc.toList.toArray.size ≤ sizeLine; simp only [Array.toArray_toList]; rw [hacc.1]; exact hn))
  refine wpAny_pure ?_
  have e : acc.toList.toArray = acc := by simp
  rw [e]
  exact h h' tk acc hk hacc
theorem call_tuple_rt {it l : Addr} {items : Array Value} {Q : Value → Shared → Prop} (hh : A.handled = none) (hit : IsRt s.heap it l ((items.size : Int) - 1)) (hl : IsTup s.heap l items) (hne : l ≠ it) (hn : items.size ≤ sizeLine)
    (hQ : ∀ (h' : Heap) (tk : Nat) (acc : Array Value), (∀ b o, b ≠ it → s.heap.get? b = some o → h'.get? b = some o) → ItemsOf (fun i v => items[items.size - 1 - i]? = some v) acc items.size →
      Q (.ref h'.objs.size) { s with heap := h'.push { cls := .type "tuple", data := .seq acc }, toks := tk }) :
    wpAny (model prog w) A (call (.type "tuple") [.ref it]) Q E s := by
  refine callType_codes (Q₁ := fun obj s₁ => s₁.TypeIs obj "tuple" ∧ Q obj s₁) F.called_tuple (F.typeCall_tuple_1 _) F.entry_object_init
    (code_tuple_new_rt (A := A.in1) hh hit hl hne hn fun h' tk acc hk hacc => ⟨⟨_, Heap.get?_push_size _ rfl, rfl⟩, hQ h' tk acc hk hacc⟩) fun obj s₁ h₁ => ?_
  exact ⟨h₁.1, F.args_object_init_2 obj _, object_init_meets F.called_tuple.init.lookup F.called_tuple.made (by decide) prog w A.in1 _ s₁ ⟨h₁.1, rfl, h₁.2⟩⟩
end
/-- tuple(reversed(x)), x a tuple: a new tuple -/
def tTupRevT (K : PySem.W.Frag) (te : TE) : TE := fun σ H Q => te σ H fun v H1 => ∃ (a : Addr) (xs : List V), v = .ref a ∧ SqT K H1 a xs ∧ ∀ q, H1 q = none → Q (.ref q) (upd H1 q (.tup xs.reverse))
section
variable {X : Cx}
theorem pe_tupRevT {e : Expr} {te : TE} {p p2 pos pos2 : Pos} (hc : X.calm = true) (hg : Gl X "tuple") (hm : X.mg "tuple" = none) (hg2 : Gl X "reversed") (hm2 : X.mg "reversed" = none) (he : PE X e te)
    (hs : starEach [e] X.env = (false, eval e X.env) :: starEach [] X.env := by rfl)
    (hs2 : starEach [.Call (.Name "reversed" p2) [e] [] pos2] X.env = (false, eval (.Call (.Name "reversed" p2) [e] [] pos2) X.env) :: starEach [] X.env := by rfl) :
    PE X (.Call (.Name "tuple" p) [.Call (.Name "reversed" p2) [e] [] pos2] [] pos) (tTupRevT X.K te) := by
  refine ⟨fun pins s σ H Q I h => ?_⟩
  refine Call_ (ld_blt I hg hm boot_tuple (PyProof.Rows.callWith_type1 (args_cons (Call_ (ld_blt I hg2 hm2 PyProof.Rows.boot_reversed (PyProof.Rows.callWith_type1 (args_cons (thn (he.run pins s σ H _ I h) fun u s1 ⟨v, H1, I1, r1, q1⟩ => args_nil ?_) hs) hs rfl))) hs2) hs2 rfl))
  obtain ⟨a, xs, ev, hq, q⟩ := q1
  subst ev
  obtain rfl : u = Value.ref a := r1
  obtain ⟨its, rv, p', hz⟩ := I1.tuple hq
  have hn63 := line63
  have hlz := rv.length
  refine call_reversed_tup p' (fun A E Q k => len_tuple p' (by simp only [List.size_toArray] <;> omega) k) (args_nil ?_)
  have k0 : ∀ b o, s1.heap.get? b = some o → (s1.heap.push (rtObj a ((its.toArray.size : Int) - 1))).get? b = some o := fun b o e => Heap.get?_push_of_some _ e
  have I2 : Inv X pins σ H1 { s1 with heap := s1.heap.push (rtObj a ((its.toArray.size : Int) - 1)), toks := s1.toks + 1 + 1 } := I1.kept (t' := s1.toks + 1 + 1) k0
  obtain ⟨f0, f1, f2, f3, f4, f5⟩ := I1.fpOk (H' := H1) (b := s1.heap.objs.size) (Nat.le_refl _) (I1.hok.fresh (Nat.le_refl _))
  obtain ⟨ol, hol, rol⟩ := id p'
  have hne : a ≠ s1.heap.objs.size := Nat.ne_of_lt (Heap.lt_size hol)
  have hn : its.toArray.size ≤ sizeLine := by rw [List.size_toArray, ← rv.length]; exact hz
  refine call_tuple_rt (s := { s1 with heap := s1.heap.push (rtObj a ((its.toArray.size : Int) - 1)), toks := s1.toks + 1 + 1 }) (I1.ok.hd hc) ⟨_, Heap.get?_push_size _ rfl, rfl, rfl⟩ ⟨ol, k0 _ _ hol, rol⟩ hne hn fun h' tk acc hk hi => ?_
  have I3 : Inv X pins σ H1 { s1 with heap := h', toks := tk } := I2.turned (t' := tk) (fun b o hb e => hk b o hb e) f0 f1 f3 f4 f5
  refine ⟨.ref h'.objs.size, upd H1 h'.objs.size (.tup xs.reverse), I3.laid (t' := tk) (fun c o e => Heap.get?_push_of_some _ e) (Nat.le_refl _) (show ObjOk X.prog X.w _ _ _ (.tup xs.reverse) from ⟨by rw [List.length_reverse]; exact hz, acc.toList, RT.vals_rev rv hi, ?_⟩), rfl, q _ (I3.hok.fresh (Nat.le_refl _))⟩
  rw [Array.toArray_toList]
  exact IsTup.new _ _
end
end RT2
namespace DL
open PySem PySem.Spec PyProof.Rows L2
section
variable {X : Cx} {W : WT} {e : Expr} {S S1 S2 : Addr → Prop} {H H1 H2 : Hp} {F F1 T T1 : Fp} {σ : L2.St} {r : Env} {pos p p2 pos2 : Pos}
def dRevT : D → Option D
  | .tup ds => if D.shL ds = true then some (.tup ds.reverse) else none
  | _ => none
def pRevT (A : EP) : EP := fun r => (A r).bind fun x => opP dRevT x
@[simp] theorem pRevT_ap {A : EP} : pRevT A r = (A r).bind fun x => opP dRevT x := (rfl)
theorem n_prevT {A : EP} (hc : X.calm = true) (hm : X.mg "tuple" = none) (hm2 : X.mg "reversed" = none) (ha : DP X W e A) (hg : Gl X "tuple" := by rfl) (hg2 : Gl X "reversed" := by rfl)
    (hs : starEach [e] X.env = (false, eval e X.env) :: starEach [] X.env := by rfl)
    (hs2 : starEach [.Call (.Name "reversed" p2) [e] [] pos2] X.env = (false, eval (.Call (.Name "reversed" p2) [e] [] pos2) X.env) :: starEach [] X.env := by rfl) :
    DP X W (.Call (.Name "tuple" p) [.Call (.Name "reversed" p2) [e] [] pos2] [] pos) (pRevT A) := by
  obtain ⟨t, q0, q⟩ := ha
  refine ⟨_, RT2.pe_tupRevT hc hg hm hg2 hm2 q0 hs hs2, fun S H r σ F Q x y => q S H r σ F _ x (PP1.bind (Go.refl _ _ _) y fun d v S1 H1 T1 g1 f1 h1 y1 => ?_)⟩
  obtain ⟨d', e', y4⟩ := opP_some y1
  unfold dRevT at e'
  split at e'
  · rename_i ds
    split at e'
    · rename_i hs
      cases e'
      obtain ⟨a, vs, rfl, hq, rl⟩ := h1.tup_at hs
      refine ⟨a, vs, rfl, hq, fun pp hp => ?_⟩
      exact y4 (.ref pp) S1 _ [] (g1.trans (go_new f1.sd hp [] (fun _ z => nomatch z))) (Ft.nil (sd_new f1.sd)) (rep_tup f1.sd hp rl.rev)
    · cases e'
  · cases e'
def eRevT (E : EE) : EE := fun r => (E r).bind fun x r1 => if x.sh = true then opE dRevT x r1 else .stk
@[simp] theorem eRevT_ap {E : EE} : eRevT E r = (E r).bind fun x r1 => if x.sh = true then opE dRevT x r1 else .stk := (rfl)
theorem n_erevT {E : EE} (hc : X.calm = true) (hm : X.mg "tuple" = none) (hm2 : X.mg "reversed" = none) (ha : DE X W e E) (hg : Gl X "tuple" := by rfl) (hg2 : Gl X "reversed" := by rfl)
    (hs : starEach [e] X.env = (false, eval e X.env) :: starEach [] X.env := by rfl)
    (hs2 : starEach [.Call (.Name "reversed" p2) [e] [] pos2] X.env = (false, eval (.Call (.Name "reversed" p2) [e] [] pos2) X.env) :: starEach [] X.env := by rfl) :
    DE X W (.Call (.Name "tuple" p) [.Call (.Name "reversed" p2) [e] [] pos2] [] pos) (eRevT E) := by
  obtain ⟨t, q0, q⟩ := ha
  refine ⟨_, RT2.pe_tupRevT hc hg hm hg2 hm2 q0 hs hs2, fun S H r σ F Q x y => q S H r σ F _ x (EP1.bind (Go.refl _ _ _) y fun d r1 v S1 H1 F1 T1 g1 x1 h1 f1 y1 => ?_)⟩
  split at y1
  case isFalse => exact y1.elim
  case isTrue hsh =>
  have eT : T1 = [] := Rep.sh d v T1 hsh h1
  subst eT
  have g1 : Go S H F S1 H1 F1 := g1.sub fun b z => by simpa using z
  obtain ⟨d', e', y4⟩ := opE_some y1
  unfold dRevT at e'
  split at e'
  · rename_i ds
    split at e'
    · rename_i hs
      cases e'
      obtain ⟨a, vs, rfl, hq, rl⟩ := h1.tup_at hs
      refine ⟨a, vs, rfl, hq, fun pp hp => ?_⟩
      have gn := go_new (S := S1) x1.ft.sd hp [] (fun _ z => nomatch z) (o := .tup vs.reverse)
      have x4 := x1.ext0 gn (Ft.nil (sd_new x1.ft.sd))
      exact y4 (.ref pp) S1 _ F1 [] (by simpa using g1.trans (go_side gn F1)) x4 (rep_tup x1.ft.sd hp rl.rev) (by simpa using x4.ft)
    · cases e'
  · cases e'
end
end DL

/-! DX41: len of a dict with tuple keys; a dict beside an empty one. -/
namespace DicE
open PySem PySem.Spec PyProof.Rows PySem.W
section
variable {prog : Program} {w : World} {A : Around} {E : Value → Shared → Prop} {s : Shared}
theorem same_empty {nm : String} {a b : Addr} {oa ob : Obj} {es : Array DictEntry} {ep ep' : Nat} {Q : Bool → Shared → Prop} (ha : (a == sysModules) = false) (hb : (b == sysModules) = false)
    (hoa : s.heap.get? a = some oa) (hda : oa.data = .dict es ep) (hob : s.heap.get? b = some ob) (hdb : ob.data = .dict #[] ep') (h : Q (decide (es.size = 0)) s) :
    wpAny (model prog w) A (Builtin.Dict.samePairs nm a b) Q E s := by
  unfold Builtin.Dict.samePairs Builtin.Dict.showsAll
  rw [if_neg (show ¬ (a == sysModules) = true by rw [ha]; exact Bool.false_ne_true), if_neg (show ¬ (b == sysModules) = true by rw [hb]; exact Bool.false_ne_true)]
  refine wpAny_bind (wpAny_pure (wpAny_bind (wpAny_pure ?_)))
  refine wpAny_bind (wpAny_dictEntries hoa hda ?_)
  dsimp only
  refine wpAny_bind (wpAny_dictEntries hob hdb ?_)
  by_cases hsz : es.size = 0
  · rw [if_neg (by rw [hsz]; decide)]
    rw [show decide (es.size = 0) = true from by simp [hsz]] at h
    refine wpAny_bind (wpAny_dictEpoch hoa hda ?_)
    refine wpAny_bind ?_
    rw [hsz, Std.Legacy.Range.forIn_eq_forIn_range']
    rw [show List.range' 0 (Std.Legacy.Range.size { stop := 0, step_pos := by decide }) 1 = [] from rfl]
    exact wpAny_pure (wpAny_pure h)
  · rw [if_pos (by simpa using hsz)]
    rw [show decide (es.size = 0) = false from by simp [hsz]] at h
    exact wpAny_bind (wpAny_rule (wpAny_pure h))
theorem ne_empty {a b : Addr} {oa ob : Obj} {es : Array DictEntry} {ep ep' : Nat} {Q : Value → Shared → Prop} (ha : (a == sysModules) = false) (hb : (b == sysModules) = false)
    (hoa : s.heap.get? a = some oa) (hxa : oa.ExactDict) (hda : oa.data = .dict es ep) (hob : s.heap.get? b = some ob) (hxb : ob.ExactDict) (hdb : ob.data = .dict #[] ep') (hu : A.units < cLine) (h : Q (.bool (!decide (es.size = 0))) s) :
    wpAny (model prog w) A (richCompare .NotEq (.ref a) (.ref b)) Q E s := by
  have ta : s.TypeIs (.ref a) "dict" := ⟨_, hoa, hxa.1⟩
  have tb : s.TypeIs (.ref b) "dict" := ⟨_, hob, hxb.1⟩
  refine wpAny_richCompare_same_room (op := .NotEq) ta tb PySem.F.slot_dict_ne (wpAny_call_entry PySem.F.slot_dict_ne ta PySem.F.entry_dict_ne ?_ (PySem.F.args_dict_ne_2 _ _)) hu
  show wpAny _ _ (Builtin.Dict.dictSlotArgs "__ne__" ⟨[.ref a, .ref b], []⟩ >>= _) _ _ s
  refine wpAny_bind ?_
  unfold Builtin.Dict.dictSlotArgs
  refine wpAny_bind (wpAny_notOrdered_dict ta ?_)
  show wpAny _ _ (pure (Value.ref a, Value.ref b)) _ _ s
  refine wpAny_pure ?_
  refine wpAny_bind (wpAny_isInstance (T := "dict") tb PySem.F.sub_dict_dict ?_)
  simp only [Bool.not_true, Bool.false_eq_true, if_false]
  refine wpAny_bind (wpAny_pure (wpAny_bind (wpAny_pure ?_)))
  refine wpAny_bind (same_empty ha hb hoa hda hob hdb ?_)
  refine wpAny_pure ⟨_, rfl, ?_, ?_⟩
  · exact fun x => nomatch x
  · cases hd : decide (es.size = 0) <;> rw [hd] at h <;> exact h
end
end DicE
namespace DL
open PySem PySem.Spec PyProof.Rows L2
section
variable {X : Cx} {W : WT} {K : PySem.W.Frag} {e : Expr} {S S1 S2 : Addr → Prop} {H H1 H2 : Hp} {F F1 T T1 : Fp} {σ : L2.St} {r : Env} {pos p p2 : Pos}
/-! ### len -/
def rLenT2 : List V → Hp → VK → Prop := fun xs H Q => ∃ (a : Addr) (kvs : List (List Key × V)), xs = [V.ref a] ∧ Rd H a (.dT kvs) ∧ Q (.int ((kvs.length : Nat) : Int)) H
theorem cr_lenT2 : CallR X (.builtin "len") rLenT2 := by
  intro pins s σ H xs us Q I r h
  obtain ⟨a, kvs, rfl, e, q⟩ := h
  obtain ⟨u, rfl, rx⟩ := vals1 r
  obtain rfl : u = Value.ref a := rx
  obtain ⟨z, hd, ys, rel, dd⟩ := dt_rd I.hok e
  have hl : kvs.length = ys.length := Paired.length rel
  refine call_len_dictH hd dd (by rw [← hl]; rw [sizeLine_eq] at z; omega) ?_
  rw [← hl]
  exact ⟨.int kvs.length, H, I.tok _, ⟨_, rfl⟩, q⟩
def dLenT0 : List D → Option D
  | [.dic _ true ks _] => some (.int ks.length)
  | _ => none
theorem vl_lenT0 : VL K rLenT2 dLenT0 := by
  intro S H ds vs T1 Q sd h ⟨d, e, k⟩
  unfold dLenT0 at e
  split at e
  · rename_i o ks vs'
    cases e
    obtain ⟨v, r, F1, F2, rfl, e2, h1, h2⟩ := h
    obtain ⟨a, ws, G, rfl, hr, rl, hG, hl, hk⟩ := h1.dic_at
    rw [h2.1]
    refine ⟨a, _, rfl, hr, ?_⟩
    rw [show ((ks.zip ws).length) = ks.length by rw [List.length_zip, ← rl.len, ← hl, Nat.min_self]]
    exact k _ S H [] (.refl _ _ _) ⟨rfl, rfl⟩ (Ft.nil sd)
  · cases e
def dLenC (ds : List D) : Option D := (dLenD ds).or (dLenT0 ds)
theorem cr_lenC : CallR X (.builtin "len") (fun xs H Q => ((∃ x n, xs = [x] ∧ LenV X.K x H n ∧ Q (.int n) H) ∨ rLenD xs H Q) ∨ rLenT2 xs H Q) := cr_lenA.or cr_lenT2
theorem vl_lenC : VL K (fun xs H Q => ((∃ x n, xs = [x] ∧ LenV K x H n ∧ Q (.int n) H) ∨ rLenD xs H Q) ∨ rLenT2 xs H Q) dLenC := vl_lenA.or' vl_lenT0
/-! ### beside an empty one -/
def rNeDic : R2 := fun x y H Q => ∃ a b t ks vs t', x = .ref a ∧ y = .ref b ∧ Rd H a (dicO t ks vs) ∧ ks.length = vs.length ∧ Rd H b (dicO t' [] []) ∧ Q (.bl (!ks.isEmpty)) H
theorem dic_ent {pins : List (Addr × Obj)} {s : Shared} {a : Addr} {t : Bool} {ks : List DKey} {vs : List V} (I : Inv X pins σ H s) (h : Rd H a (dicO t ks vs)) (hl : ks.length = vs.length) :
    (a == sysModules) = false ∧ ∃ o es ep, s.heap.get? a = some o ∧ o.ExactDict ∧ o.data = .dict es ep ∧ es.size = ks.length := by
  cases t with
  | false =>
    obtain ⟨z, hd, xs, rel, o, es, ep, h1, h2, h3, _, h5, _⟩ := dk_rd I.hok h
    refine ⟨hd, o, es, ep, h1, h2, h3, ?_⟩
    have e1 := h5.length
    rw [Array.length_toList] at e1
    have e2 := rel.length
    rw [List.length_zip, List.length_map, ← hl, Nat.min_self] at e2
    omega
  | true =>
    obtain ⟨z, hd, xs, rel, o, es, ep, h1, h2, h3, h4, _, _⟩ := dt_rd I.hok h
    refine ⟨hd, o, es, ep, h1, h2, h3, ?_⟩
    have e1 := congrArg List.length h4
    rw [Array.length_toList, List.length_map] at e1
    have e2 := Paired.length rel
    rw [List.length_zip, ← hl, Nat.min_self] at e2
    omega
theorem op_neDic (hu : X.A.units < cLine) : OpR X (compareOp .NotEq) rNeDic := by
  intro pins s σ H x y v u Q I rx ry h
  obtain ⟨a, b, t, ks, vs, t', rfl, rfl, ha, hl, hb, q⟩ := h
  obtain rfl : v = Value.ref a := rx
  obtain rfl : u = Value.ref b := ry
  obtain ⟨na, oa, es, ep, a1, a2, a3, a4⟩ := dic_ent I ha hl
  obtain ⟨nb, ob, es', ep', b1, b2, b3, b4⟩ := dic_ent I hb rfl
  obtain rfl : es' = #[] := Array.eq_empty_of_size_eq_zero b4
  refine DicE.ne_empty na nb a1 a2 a3 b1 b2 b3 hu ?_
  refine ⟨.bl (!ks.isEmpty), H, I, ?_, q⟩
  show Value.bool _ = Value.bool _
  rw [a4]
  cases ks <;> simp
def dNeC (x y : D) : Option D := match x, y with
  | .dic _ _ ks _, .dic _ _ [] _ => some (.bl (!ks.isEmpty))
  | x, y => dNe x y
theorem op_neC (hu : X.A.units + 64 < cLine) : OpR X (compareOp .NotEq) (fun x y H Q => rNeA X.K x y H Q ∨ rNeDic x y H Q) := (op_neA hu).or (op_neDic (by omega))
theorem v2_neC : V2 K (fun x y H Q => rNeA K x y H Q ∨ rNeDic x y H Q) dNeC := by
  intro S H d1 d2 v1 v2 T1 T2 Q sd h1 h2 ⟨d, e, k⟩
  unfold dNeC at e
  split at e
  · rename_i o t ks ds o' t' ds'
    cases e
    obtain ⟨a, ws, G, rfl, hr, rl, hG, hl, hk⟩ := h1.dic_at
    obtain ⟨b, ws', G', rfl, hr', rl', hG', hl', hk'⟩ := h2.dic_at
    have e0 : ds' = [] := List.length_eq_zero_iff.mp hl'.symm
    subst e0
    obtain ⟨rfl, _⟩ := rl'
    exact .inr ⟨a, b, t, ks, ws, t', rfl, rfl, hr, hl.trans rl.len, hr', k _ S H [] (.refl _ _ _) ⟨rfl, rfl⟩ (Ft.nil sd)⟩
  · exact .inl (v2_ne S H d1 d2 v1 v2 T1 T2 Q sd h1 h2 ⟨d, e, k⟩)
def pDic (t : Bool) : EP := fun _ => .ok (.dic true t [] [])
theorem n_pdicK : DP X W (.Dict [] [] pos) (pDic false) := by
  refine ⟨_, pe_dnewK, fun S H r σ F Q q y pp hp => ?_⟩
  exact y (.ref pp) S _ [pp] (go_new (o := .dK []) q.ft.sd hp [] (fun _ z => nomatch z)) (Ft.nil (sd_new q.ft.sd)) (rep_dic0 (t := false) q.ft.sd hp)
end
end DL

/-! DX42: comprehensions over the keys of a name's own dict, which stays the name's. -/
namespace DL
open PySem PySem.Spec PyProof.Rows L2
/-! ### unlocking -/
section
variable {K : PySem.W.Frag} {S : Addr → Prop} {H : Hp} {F : Fp} {a : Addr} {od : Obj} {t : Bool} {ks : List DKey} {vs : List V}
theorem ul_ne {o : HO} {b : Addr} (h : H a = some (.frz od (dicO t ks vs))) (e : H b = some o) (n : o ≠ .frz od (dicO t ks vs)) : upd H a (dicO t ks vs) b = some o := by
  rw [upd_ne (fun z => by rw [z, h] at e; cases e; exact n rfl)]; exact e
theorem dicO_lst {t : Bool} {ks : List DKey} {vs ws : List V} : HO.lst ws ≠ dicO t ks vs := by cases t <;> exact fun z => nomatch z
theorem dicO_frz {t t' : Bool} {ks ks' : List DKey} {vs vs' : List V} {od : Obj} : dicO t ks vs ≠ .frz od (dicO t' ks' vs') := by cases t <;> exact fun z => nomatch z
mutual
theorem Rep.unl (h : H a = some (.frz od (dicO t ks vs))) (nS : ¬ S a) : ∀ (d : D) (v : V) (T : Fp), Rep K S H d v T → Rep K S (upd H a (dicO t ks vs)) d v T
  | .non, v, T, h0 => h0
  | .bl _, v, T, h0 => h0
  | .int _, v, T, h0 => h0
  | .str _, v, T, h0 => h0
  | .tup ds, v, T, h0 => by
    obtain ⟨b, ws, e, q, r⟩ := h0
    exact ⟨b, ws, e, ul_ne h q (fun z => nomatch z), RepL.unl h nS ds ws T r⟩
  | .lst true ds, v, T, h0 => by
    obtain ⟨b, ws, G, e, q, e2, r⟩ := h0
    exact ⟨b, ws, G, e, ul_ne h q (fun z => nomatch z), e2, RepL.unl h nS ds ws G r⟩
  | .lst false ds, v, T, h0 => by
    obtain ⟨e0, b, ws, e, q, r⟩ := h0
    exact ⟨e0, b, ws, e, ⟨ul_ne h q.1 (fun z => nomatch z), q.2⟩, RepL.unl h nS ds ws [] r⟩
  | .scr ns, v, T, h0 => by
    obtain ⟨e0, b, e, q⟩ := h0
    refine ⟨e0, b, e, ?_⟩
    rcases q with (⟨o, q⟩ | q) | q
    · exact .inl (.inl ⟨o, ul_ne h q (fun z => by injection z with _ z; exact dicO_lst z)⟩)
    · exact .inl (.inr ⟨ul_ne h q.1 (fun z => nomatch z), q.2⟩)
    · exact .inr q
  | .exc _, v, T, h0 => h0
  | .dic true t' ks' ds, v, T, h0 => by
    obtain ⟨hl, hk, b, ws, G, e, q, e2, r⟩ := h0
    exact ⟨hl, hk, b, ws, G, e, ul_ne h q dicO_frz, e2, RepL.unl h nS ds ws G r⟩
  | .dic false t' ks' ds, v, T, h0 => by
    obtain ⟨e0, hl, hk, b, ws, e, ⟨⟨o, q⟩, s⟩, r⟩ := h0
    exact ⟨e0, hl, hk, b, ws, e, ⟨⟨o, by rw [upd_ne (fun z => nS (by rw [← z]; exact s))]; exact q⟩, s⟩, RepL.unl h nS ds ws [] r⟩
theorem RepL.unl (h : H a = some (.frz od (dicO t ks vs))) (nS : ¬ S a) : ∀ (ds : List D) (ws : List V) (T : Fp), RepL K S H ds ws T → RepL K S (upd H a (dicO t ks vs)) ds ws T
  | [], ws, T, h0 => h0
  | d :: ds, ws, T, h0 => by
    obtain ⟨v, r, F1, F2, e1, e2, h1, h2⟩ := h0
    exact ⟨v, r, F1, F2, e1, e2, Rep.unl h nS d v F1 h1, RepL.unl h nS ds r F2 h2⟩
end
theorem RepE.unl (h : H a = some (.frz od (dicO t ks vs))) (nS : ¬ S a) : ∀ {r : Env} {σ : L2.St} {T : Fp}, RepE K S H r σ T → RepE K S (upd H a (dicO t ks vs)) r σ T
  | [], _, _, h0 => h0
  | none :: r, σ, T, h0 => by obtain ⟨x, u, e, h1⟩ := h0; exact ⟨x, u, e, RepE.unl h nS h1⟩
  | some d :: r, σ, T, h0 => by
    obtain ⟨v, u, F1, F2, e, e2, h1, h2⟩ := h0
    exact ⟨v, u, F1, F2, e, e2, Rep.unl h nS d v F1 h1, RepE.unl h nS h2⟩
theorem frz_nm {b : Addr} (h : H a = some (.frz od (dicO t ks vs))) (m : Mt (H b)) : b ≠ a := fun z => by rw [z, h] at m; exact m
theorem Ft.unl (h : H a = some (.frz od (dicO t ks vs))) (f : Ft S H F) : Ft S (upd H a (dicO t ks vs)) F := by
  refine ⟨f.nd, f.dj, fun b z => ?_, fun b z => ?_⟩
  · rw [upd_ne (frz_nm h (f.mu b z))]; exact f.mu b z
  · by_cases e : b = a
    · subst e; rw [upd_same]; exact fun z => nomatch z
    · rw [upd_ne e]; exact f.sd b z
theorem Ft.unlC (h : H a = some (.frz od (dicO t ks vs))) (nS : ¬ S a) (f : Ft S H F) : Ft S (upd H a (dicO t ks vs)) (a :: F) := by
  have f2 := f.unl h
  refine ⟨List.nodup_cons.mpr ⟨fun z => frz_nm h (f.mu a z) rfl, f.nd⟩, fun b z => ?_, fun b z => ?_, f2.sd⟩
  · rcases List.mem_cons.mp z with z | z
    · subst z; exact nS
    · exact f.dj b z
  · rcases List.mem_cons.mp z with z | z
    · subst z; rw [upd_same]; exact mt_dic
    · exact f2.mu b z
theorem At.unl {tb : List Addr} {r : Env} {σ : L2.St} (h : H a = some (.frz od (dicO t ks vs))) (nS : ¬ S a) (x : At K tb S H r σ F) : At K tb S (L2.upd H a (dicO t ks vs)) r σ F :=
  ⟨x.ft.unl h, RepE.unl h nS x.env, fun P hP => by
    obtain ⟨ps, e, q⟩ := x.tab P hP
    exact ⟨ps, ul_ne h e (fun z => nomatch z), q⟩⟩
theorem mt_mutD : Mut (some (dicO t ks vs)) := by cases t <;> trivial
end
def lcEd (i : Nat) (t : Bool) (ks : List DKey) (ds0 : List D) (r1 : Env) (vs : List Nat) (acc : List D) (r2 : Env) : Res D := if isNn (resE r1 r2 vs)[i]? = true then .ok (.lst true acc) ((resE r1 r2 vs).set i (some (.dic true t ks ds0))) else .stk
def eLcD (i : Nat) (G : D → Env → Option Env) (T : BE) (E : EE) (vs : List Nat) : EE := fun r => match r[i]? with
  | some (some (.dic true t ks ds0)) => if D.shL ds0 = true then (lcL G T E vs (ks.map (keyD t)) [] (wipeE (r.set i none) vs)).bind (lcEd i t ks ds0 (r.set i none) vs) else .stk
  | _ => .stk
section
variable {X : Cx} {W : WT} {K : PySem.W.Frag} {e b c tg : Expr} {es : List Expr} {S S' S1 S2 : Addr → Prop} {H H' H1 H2 : Hp} {F F' F1 F2 T : Fp} {σ : L2.St} {r : Env} {pos p p2 : Pos} {x : Str}
theorem itok_kf {a : Addr} {o : Obj} {t : Bool} {ks : List DKey} {vs : List V} {P : (Addr → Prop) → Hp → Prop} (hP : ∀ S H, P S H → H a = some (.frz o (dicO t ks vs))) (hl : ks.length = vs.length) (wi : It)
    (hw : wi = if t = true then Itkt a o (ks.zip vs) else Itk a o ((ks.map hdK).zip vs)) : ItOk K wi P (ks.map (keyD t)) := by
  cases t with
  | false =>
    subst hw
    have hz : ((ks.map hdK).zip vs).length = ks.length := by rw [List.length_zip, List.length_map, ← hl, Nat.min_self]
    refine ⟨fun i d S H e q sd => ?_, fun S H q => ⟨hP S H q, by rw [hz, List.length_map]; exact Nat.le_refl _⟩⟩
    rw [List.getElem?_map] at e
    obtain ⟨k, ek, rfl⟩ := Option.map_eq_some_iff.mp e
    have hi : i < ks.length := (List.getElem?_eq_some_iff.mp ek).1
    refine ⟨⟨hP S H q, by rw [hz]; exact hi⟩, fun x H' ⟨eH, k', v, ekv, ex⟩ => ?_⟩
    subst eH ex
    rw [List.getElem?_zip_eq_some] at ekv
    obtain ⟨e1, e2⟩ := ekv
    rw [List.getElem?_map, ek] at e1
    cases e1
    exact ⟨.refl _ _ _, sd, rep_kD⟩
  | true =>
    subst hw
    have hz : (ks.zip vs).length = ks.length := by rw [List.length_zip, ← hl, Nat.min_self]
    refine ⟨fun i d S H e q sd => ?_, fun S H q => ⟨hP S H q, by rw [hz, List.length_map]; exact Nat.le_refl _⟩⟩
    rw [List.getElem?_map] at e
    obtain ⟨k, ek, rfl⟩ := Option.map_eq_some_iff.mp e
    have hi : i < ks.length := (List.getElem?_eq_some_iff.mp ek).1
    refine ⟨⟨hP S H q, by rw [hz]; exact hi⟩, fun x H' ⟨eH, k', v, b, ekv, ex, hb⟩ => ?_⟩
    subst eH ex
    rw [List.getElem?_zip_eq_some] at ekv
    obtain ⟨e1, e2⟩ := ekv
    rw [ek] at e1
    cases e1
    exact ⟨.refl _ _ _, sd, b, _, rfl, hb, rep_kDs⟩
theorem rd_lcD {i0 : Nat} {vs ws : List Nat} {G : D → Env → Option Env} {Tt : Env → Res Bool} {E : Env → Res D} (hws : ∀ j ∈ ws, j ∈ vs) :
    RdE X W (tLockE (tLc (iKeys (tVar i0)) (tG X ws G) (tT X (W0 W.tb) Tt) (tE X (W0 W.tb) E) vs)) (eLcD i0 G Tt E vs) := by
  intro S H r σ F Q x y
  unfold eLcD at y
  split at y
  · rename_i t ks ds0 er
    split at y
    · rename_i hsh
      obtain ⟨v0, T0, F1, e0, rp0, x0', ft0, mem0⟩ := x.take er
      obtain ⟨hl0, hk0, a, vs0, G0, rfl, ha0, rfl, rl0⟩ := id rp0
      obtain rfl : G0 = [] := RepL.sh ds0 vs0 G0 hsh rl0
      refine ⟨a, _, ha0, mt_mutD, fun od => ?_⟩
      have aF : a ∈ F := (mem0 a).mp (by simp)
      have sF : ∀ b ∈ F1, b ∈ F := fun b z => (mem0 b).mp (List.mem_append_right _ z)
      have nS : ¬ S a := ft0.left.dj a (by simp)
      generalize hHl : upd H a (.frz od (dicO t ks vs0)) = H1
      have hla : H1 a = some (.frz od (dicO t ks vs0)) := by rw [← hHl, upd_same]
      have hlo : ∀ b, b ≠ a → H1 b = H b := fun b n => by rw [← hHl, upd_ne n]
      have g0 : Go S H [a] S H1 [] := by
        refine .mk' (fun _ z => z) (fun b u e n => ?_) (fun b q => ?_) (fun b z => nomatch z) (fun b z => .inl z) (fun b z => ?_)
        · rw [hlo b (fun z => n (by simp [z]))]; exact e
        · by_cases z : b = a
          · subst z; rw [hla]; simp
          · rw [hlo b z]; exact q
        · have : b = a := by simpa using z
          subst this
          rw [ha0]
          exact mt_dic
      have f0 : Ft S H1 F1 := ⟨ft0.right.nd, ft0.right.dj, fun b z => by
        rw [hlo b (fun w => ft0.apart' b z (by simp [w]))]; exact ft0.right.mu b z, fun b z => by
        rw [hlo b (fun w => nS (w ▸ z))]; exact x.ft.sd b z⟩
      have x1 : At X.K W.tb S H1 (r.set i0 none) σ F1 := x0'.go g0 ft0.left (fun b z => ft0.apart' b z) f0
      have rl1 : RepL X.K S H1 ds0 vs0 [] := RepL.go g0 ft0.left ds0 vs0 [] (fun _ z => nomatch z) rl0
      obtain ⟨P, hP⟩ : ∃ P : (Addr → Prop) → Hp → Prop, P = fun S H => H a = some (.frz od (dicO t ks vs0)) ∧ ¬ S a ∧ RepL X.K S H ds0 vs0 [] := ⟨_, rfl⟩
      have hv0 : ks.length = vs0.length := hl0.trans rl0.len
      have hi0 : i0 < r.length := (List.getElem?_eq_some_iff.mp er).1
      have hPf : ∀ S H, P S H → H a = some (.frz od (dicO t ks vs0)) := by rw [hP]; exact fun S H z => z.1
      suffices main : ∀ J, ItOk X.K J P (ks.map (keyD t)) → tLc (fun _ H R => R J H) (tG X ws G) (tT X (W0 W.tb) Tt) (tE X (W0 W.tb) E) vs σ H1 (fun v H' => H' a = some (.frz od (dicO t ks vs0)) ∧ Q v (upd H' a (dicO t ks vs0))) by
        cases t with
        | false => exact ⟨.ref a, e0, a, od, rfl, .inl ⟨_, hla, main _ (itok_kf hPf hv0 _ rfl)⟩⟩
        | true => exact ⟨.ref a, e0, a, od, rfl, .inr ⟨_, hla, main _ (itok_kf hPf hv0 _ rfl)⟩⟩
      generalize hr1 : r.set i0 none = r1 at y x1
      generalize hds : ks.map (keyD t) = ds at y
      intro J it D0 hD0
      have p0 : P S H1 := by rw [hP]; exact ⟨hla, nS, rl1⟩
      obtain ⟨T1, hT1⟩ : ∃ T1 : Fp, T1 = [] := ⟨_, rfl⟩
      obtain ⟨S1, hS1⟩ : ∃ S1 : Addr → Prop, S1 = S := ⟨_, rfl⟩
      rw [← hS1] at p0 x1
      have f1 : Ft S1 H1 (T1 ++ F1) := by rw [hT1, hS1]; exact f0
      have st : ∀ S1 H1 F1 S2 H2 F2, P S1 H1 → Ft S1 H1 (T1 ++ F1) → Go S1 H1 F1 S2 H2 F2 → P S2 H2 := by
        subst hP
        intro S2 H2 F2 S3 H3 F3 p f g
        have na : a ∉ F2 := fun z => by have := f.right.mu a z; rw [p.1] at this; exact this
        refine ⟨g.fr a _ p.1 na trivial, fun z => ?_, RepL.go g f.right ds0 vs0 [] (fun _ z => nomatch z) p.2.2⟩
        rcases g.newS a z with z | z | z
        · exact p.2.1 z
        · exact na z
        · rw [p.1] at z; cases z
      have hlen : ds.length = ds.length := rfl
      refine ⟨fun i m H' => m = ds.length - i ∧ i ≤ ds.length ∧ ∃ S' r' F' acc ns G', Bd X.K P T1 D0 S' H' acc ns G' F' ∧ At X.K W.tb S' H' (wipeE r' vs) (L2.wipe σ vs) F' ∧ Go S1 H1 (T1 ++ F1) S' H' ((D0 :: G') ++ (T1 ++ F')) ∧
        EP1 (Rep X.K) X W S H F σ Q ((lcL G Tt E vs (ds.drop i) acc (wipeE r' vs)).bind (lcEd i0 t ks ds0 r1 vs)), ⟨ds.length, by simp, Nat.zero_le _, ?_⟩, ?_⟩
      · obtain ⟨F1', q1, s1⟩ := x1.wiped vs
        have gn : Go S1 H1 [] S1 (upd H1 D0 (.lst [])) [D0] := go_new x1.ft.sd hD0 [D0] (fun _ z => by simpa using z)
        have fn : Ft S1 (upd H1 D0 (.lst [])) [D0] := ft_new x1.ft.sd hD0
        have f2 : Ft S1 H1 (T1 ++ F1') := f1.narrow q1.ft s1
        have f3 : Ft S1 (upd H1 D0 (.lst [])) ((T1 ++ F1') ++ [D0]) := Ft.frame (T := T1 ++ F1') (F := []) (by simpa using f2) gn fn
        refine ⟨S1, r1, F1', [], [], [], ⟨upd_same, ⟨rfl, rfl⟩, f3.comm, ?_⟩, q1.ext gn fn, ?_, y⟩
        · refine st S1 H1 [] S1 _ [D0] p0 (by simpa using f1.left) gn
        · have g2 : Go S1 H1 (T1 ++ F1) S1 (upd H1 D0 (.lst [])) ((T1 ++ F1) ++ [D0]) := by simpa using gn.frame (T1 ++ F1)
          refine g2.sub fun b z => ?_
          simp only [List.mem_append, List.mem_cons, List.mem_singleton] at z ⊢
          rcases z with (rfl | z) | z | z
          · exact .inr (.inl rfl)
          · exact absurd z (by simp)
          · exact .inl (.inl z)
          · exact .inl (.inr (s1 b z))
      · rintro i m H3 ⟨rfl, hi, S3, r3, F3, acc, ns, G3, bd, x3, g3, y3⟩
        by_cases hlt : i < ds.length
        · have ed : ds[i]? = some ds[i] := List.getElem?_eq_getElem hlt
          obtain ⟨hgo, hyl⟩ := it.item i ds[i] S3 H3 ed bd.p bd.ft.sd
          refine .inr ⟨hgo, fun H' => i + 1 ≤ ds.length ∧ ∃ S' r' F' acc ns G', Bd X.K P T1 D0 S' H' acc ns G' F' ∧ At X.K W.tb S' H' (wipeE r' vs) (L2.wipe σ vs) F' ∧ Go S1 H1 (T1 ++ F1) S' H' ((D0 :: G') ++ (T1 ++ F')) ∧
            EP1 (Rep X.K) X W S H F σ Q ((lcL G Tt E vs (ds.drop (i + 1)) acc (wipeE r' vs)).bind (lcEd i0 t ks ds0 r1 vs)), fun H' nx => ⟨ds.length - (i + 1), by omega, rfl, nx.1, nx.2⟩, fun v H4 yl => ?_⟩
          obtain ⟨g4, sd4, rd4⟩ := hyl v H4 yl
          have fn4 : Ft S3 H4 [] := Ft.nil sd4
          have x4 := x3.ext0 g4 fn4
          have bd4 : Bd X.K P T1 D0 S3 H4 acc ns G3 F3 := bd.step st (go_side g4 F3) x4.ft
          have g34 : Go S1 H1 (T1 ++ F1) S3 H4 ((D0 :: G3) ++ (T1 ++ F3)) := g3.trans (go_side g4 _)
          have y4 := y3
          rw [show ds.drop i = ds[i] :: ds.drop (i + 1) from List.drop_eq_getElem_cons hlt] at y4
          unfold lcL at y4
          cases eG : G ds[i] (wipeE r3 vs) with
          | none => rw [eG] at y4; exact y4.elim
          | some r5 =>
            rw [eG] at y4
            have y4 : EP1 (Rep X.K) X W S H F σ Q (((Tt r5).bindS fun k r2 => if k = true then (E r2).bindS fun x r3 => if acc.length < sizeLine then lcL G Tt E vs (ds.drop (i + 1)) (acc ++ [x]) (wipeE r3 vs) else .stk else lcL G Tt E vs (ds.drop (i + 1)) acc (wipeE r2 vs)).bind (lcEd i0 t ks ds0 r1 vs)) := y4
            refine ⟨W.tb, S3, wipeE r3 vs, F3, ds[i], [], x4, rd4, x4.ft, r5, eG, fun σ5 F5 q5 s5 o5 l5 => ?_⟩
            have s5 : ∀ b ∈ F5, b ∈ F3 := fun b z => by simpa using s5 b z
            have hw : L2.wipe σ5 vs = L2.wipe σ vs := (wipe_eq (fun j hj => o5 j (fun z => hj (hws j z))) l5).trans (wipe_idem σ vs)
            have bd5 := bd4.narrow q5.ft s5
            have g35 : Go S1 H1 (T1 ++ F1) S3 H4 ((D0 :: G3) ++ (T1 ++ F5)) := g34.sub fun b z => by
              simp only [List.mem_append, List.mem_cons] at z ⊢
              rcases z with z | z | z
              · exact .inl z
              · exact .inr (.inl z)
              · exact .inr (.inr (s5 b z))
            refine ⟨hw, S3, r5, F5, q5, EP1.bindS y4 fun k r6 k' S6 H6 F6 T6 e6 g6 q6 h6 f6 y6 => ?_⟩
            obtain ⟨rfl, rfl⟩ := h6
            have bd6 : Bd X.K P T1 D0 S6 H6 acc ns G3 F6 := bd5.step st g6 f6
            have fr : ∀ {S7 : Addr → Prop} {H7 : Hp} {Z Y : Fp}, Go S3 H4 Z S7 H7 Y → Go S1 H1 (T1 ++ F1) S3 H4 ((D0 :: G3) ++ (T1 ++ Z)) → Go S1 H1 (T1 ++ F1) S7 H7 ((D0 :: G3) ++ (T1 ++ Y)) := fun {S7 H7 Z Y} g g' => by
              have := g.frame ((D0 :: G3) ++ T1)
              rw [List.append_assoc, List.append_assoc] at this
              exact g'.trans this
            have g36 : Go S1 H1 (T1 ++ F1) S6 H6 ((D0 :: G3) ++ (T1 ++ F6)) := fr g6 g35
            cases k with
            | false =>
              have y6 : EP1 (Rep X.K) X W S H F σ Q ((lcL G Tt E vs (ds.drop (i + 1)) acc (wipeE r6 vs)).bind (lcEd i0 t ks ds0 r1 vs)) := y6
              obtain ⟨F7, q7, s7⟩ := q6.wiped vs
              rw [hw] at q7
              rw [if_neg Bool.false_ne_true]
              refine ⟨hlt, S6, r6, F7, acc, ns, G3, bd6.narrow q7.ft s7, q7, g36.sub fun b z => ?_, y6⟩
              simp only [List.mem_append, List.mem_cons] at z ⊢
              rcases z with z | z | z
              · exact .inl z
              · exact .inr (.inl z)
              · exact .inr (.inr (s7 b z))
            | true =>
              have y6 : EP1 (Rep X.K) X W S H F σ Q (((E r6).bindS fun x r3 => if acc.length < sizeLine then lcL G Tt E vs (ds.drop (i + 1)) (acc ++ [x]) (wipeE r3 vs) else .stk).bind (lcEd i0 t ks ds0 r1 vs)) := y6
              rw [if_pos rfl]
              refine ⟨S6, r6, F6, q6, EP1.bindS y6 fun d7 r7 w7 S7 H7 F7 T7 e7 g7 q7 h7 f7 y7 => ?_⟩
              have bd7 : Bd X.K P T1 D0 S7 H7 acc ns G3 (T7 ++ F7) := bd6.step st g7 f7
              have g37 : Go S1 H1 (T1 ++ F1) S7 H7 ((D0 :: G3) ++ (T1 ++ (T7 ++ F7))) := by
                have := g7.frame ((D0 :: G3) ++ T1)
                rw [List.append_assoc, List.append_assoc] at this
                exact g36.trans this
              by_cases hz : acc.length < sizeLine
              · rw [if_pos hz] at y7
                obtain ⟨F8, q8, s8⟩ := q7.wiped vs
                rw [hw] at q8
                obtain ⟨b1, b2, b3⟩ := Bd.add bd7 st h7
                have q9 := b3 _ _ q7
                refine ⟨ns, bd7.hD, by rw [← bd7.rl.len]; exact hz, hlt, S7, r7, F8, acc ++ [d7], ns ++ [w7], G3 ++ T7, ?_, ?_, ?_, y7⟩
                · obtain ⟨F9, q10, s10⟩ := q9.wiped vs
                  exact b1.narrow (show Ft S7 _ F8 from ⟨q8.ft.nd, q8.ft.dj, fun b z => b1.ft.mu b (by simp [s8 b z]), b1.ft.sd⟩) s8
                · exact q8.go (upd_go q7.ft.sd bd7.hD) (show Ft S7 H7 [D0] from ⟨by simp, fun b z => bd7.ft.dj b (by simp at z; simp [z]), fun b z => bd7.ft.mu b (by simp at z; simp [z]), q7.ft.sd⟩)
                    (fun b z y => by
                      have e : b = D0 := by simpa using y
                      subst e
                      have nd := (List.nodup_cons.mp (show (b :: (G3 ++ (T1 ++ (T7 ++ F7)))).Nodup from bd7.ft.nd)).1
                      exact nd (by simp [s8 b z])) (show Ft S7 _ F8 from ⟨q8.ft.nd, q8.ft.dj, fun b z => b1.ft.mu b (by simp [s8 b z]), b1.ft.sd⟩)
                · refine (g37.trans b2).sub fun b z => ?_
                  simp only [List.mem_append, List.mem_cons] at z ⊢
                  rcases z with z | z | z
                  · exact .inl z
                  · exact .inr (.inl z)
                  · exact .inr (.inr (s8 b z))
              · rw [if_neg hz] at y7
                exact y7.elim
        · have e : i = ds.length := by omega
          subst e
          refine .inl ⟨it.stop S3 H3 bd.p, ?_⟩
          rw [List.drop_length] at y3
          have hp := bd.p
          rw [hP] at hp
          obtain ⟨h3a, n3S, _⟩ := hp
          refine ⟨h3a, ?_⟩
          have ft : Ft S3 H3 ((D0 :: G3) ++ F3) := by
            have h1 : Ft S3 H3 ((D0 :: G3) ++ (T1 ++ F3)) := bd.ft
            exact h1.narrow x3.ft (fun b z => List.mem_append_right _ z)
          obtain ⟨F9, q9, s9⟩ := x3.unwipe.restore (vs := vs) x1 g3 f1
          have y3 : EP1 (Rep X.K) X W S H F σ Q (lcEd i0 t ks ds0 r1 vs acc (wipeE r3 vs)) := y3
          unfold lcEd at y3
          split at y3
          · rename_i hn
            have hn := isNn_iff.mp hn
            have hl9 : i0 < (resE r1 (wipeE r3 vs) vs).length := (List.getElem?_eq_some_iff.mp hn).1
            have q10 := q9.unl h3a n3S
            have ft9 : Ft S3 H3 ((D0 :: G3) ++ F9) := ft.narrow q9.ft s9
            have ft10 := ft9.unlC h3a n3S
            have rp : Rep X.K S3 (upd H3 a (dicO t ks vs0)) (.dic true t ks ds0) (.ref a) [a] := by
              have rl3 := bd.p
              rw [hP] at rl3
              exact ⟨hl0, hk0, a, vs0, [], rfl, upd_same, rfl, RepL.unl h3a n3S ds0 vs0 [] rl3.2.2⟩
            have ftT : Ft S3 (upd H3 a (dicO t ks vs0)) ([a] ++ F9) := by
              have h2 : Ft S3 (upd H3 a (dicO t ks vs0)) ((D0 :: G3) ++ ([a] ++ F9)) := ft10.perm (by
                have p1 : ([a] ++ ((D0 :: G3) ++ F9)).Perm ((D0 :: G3) ++ ([a] ++ F9)) := List.perm_append_comm_assoc ..
                simpa using p1)
              exact h2.right
            obtain ⟨F10, q11, s10⟩ := q10.back hl9 e0 rp ftT
            have sub10 : ∀ b ∈ F10, b = a ∨ b ∈ F3 := fun b z => by
              have z := s10 b z
              simp only [List.mem_append, List.mem_singleton] at z
              exact z.imp id (s9 b)
            have ha1 : ∀ b, b ≠ a → upd H3 a (dicO t ks vs0) b = H3 b := fun b n => upd_ne n
            have hnone : ∀ b, H1 b = none → H b = none := fun b z => by
              by_cases e : b = a
              · subst e; rw [hla] at z; cases z
              · rw [← hlo b e]; exact z
            subst hT1 hS1
            have gt : Go S1 H F S3 (upd H3 a (dicO t ks vs0)) ((D0 :: G3) ++ F10) := by
              refine ⟨g3.sS, fun b o e n nt => ?_, fun b z => ?_, fun b z => ?_, fun b z => ?_, fun b z => ?_⟩
              · have hb : b ≠ a := fun z => n (z ▸ aF)
                rw [ha1 b hb]
                exact g3.fr b o (by rw [hlo b hb]; exact e) (fun z => n (sF b (by simpa using z))) nt
              · have hb : b ≠ a := fun w => by
                  obtain ⟨ps, e, _⟩ := z
                  rw [w, ha0] at e
                  cases t <;> cases e
                obtain ⟨ps, e, q⟩ := g3.tb b (by obtain ⟨ps, e, q⟩ := z; exact ⟨ps, by rw [hlo b hb]; exact e, q⟩)
                exact ⟨ps, by rw [ha1 b hb]; exact e, q⟩
              · by_cases hb : b = a
                · subst hb; rw [upd_same]; exact fun z => nomatch z
                · rw [ha1 b hb]; exact g3.dom b (by rw [hlo b hb]; exact z)
              · rcases List.mem_append.mp z with z | z
                · rcases g3.new b (List.mem_append_left _ z) with w | w
                  · exact .inl (sF b (by simpa using w))
                  · exact .inr (hnone b w)
                · rcases sub10 b z with z | z
                  · exact .inl (z ▸ aF)
                  · rcases g3.new b (List.mem_append_right _ (by simpa using z)) with w | w
                    · exact .inl (sF b (by simpa using w))
                    · exact .inr (hnone b w)
              · rcases g3.newS b z with w | w | w
                · exact .inl w
                · exact .inr (.inl (sF b (by simpa using w)))
                · exact .inr (.inr (hnone b w))
            refine y3 (.ref D0) S3 _ F10 (D0 :: G3) gt q11 ⟨D0, ns, G3, rfl, ?_, rfl, RepL.unl h3a n3S _ _ _ bd.rl⟩ ?_
            · rw [ha1 D0 (frz_nm h3a (ft.mu D0 (by simp)))]; exact bd.hD
            · have h2 : Ft S3 (upd H3 a (dicO t ks vs0)) ((D0 :: G3) ++ ([a] ++ F9)) := ft10.perm (by
                have p1 : ([a] ++ ((D0 :: G3) ++ F9)).Perm ((D0 :: G3) ++ ([a] ++ F9)) := List.perm_append_comm_assoc ..
                simpa using p1)
              exact h2.narrow q11.ft s10
          · exact y3.elim
    · exact y.elim
  · exact y.elim
theorem n_lcD (i0 : Nat) {x0 : Str} {pos0 : Pos} {elt : Expr} {ifs : List Expr} {scope : Scope} (own : List (Str × Nat)) {ws : List Nat} {Gt : D → Env → Option Env} {Tt : BE} {Et : EE} (hc : X.calm = true) (hNd : X.N.Nodup)
    (ok : BlkOk X.N X.env.scope scope own) (hg : ∀ (s : Shared) (H : Hp) (C : Addr) (cl : List (Str × Addr)) (fp : List Addr), DG (X.blk s H scope (compEnvC scope cl C X.env) fp) ws tg Gt)
    (ht : ∀ (s : Shared) (H : Hp) (C : Addr) (cl : List (Str × Addr)) (fp : List Addr), DTs (X.blk s H scope (compEnvC scope cl C X.env) fp) (W0 W.tb) ifs Tt)
    (he : ∀ (s : Shared) (H : Hp) (C : Addr) (cl : List (Str × Addr)) (fp : List Addr), DE (X.blk s H scope (compEnvC scope cl C X.env) fp) (W0 W.tb) elt Et)
    (hN : X.N[i0]? = some x0 := by rfl) (hv : Vis X.env.scope x0 := by first | exact Or.inl rfl | exact Or.inr (Or.inl rfl) | exact Or.inr (Or.inr rfl)) (hd : (x0 == ("__debug__" : Str)) = false := by decide)
    (hcd : (x0 == ("__classdict__" : Str)) = false := by decide) (hws : ∀ j ∈ ws, j ∈ own.map (·.2) := by decide) (hs : ∀ x, foldedSetIterable (.Name x0 pos0) X.env x = pure x := by intro _; rfl) :
    DE X W (.ListComp elt [⟨tg, .Name x0 pos0, ifs, 0⟩] scope pos) (eLcD i0 Gt Tt Et (own.map (·.2))) :=
  ⟨_, pe_lock (pe_lc hc hNd (pi_keys (pe_var hN hv hd hcd)) ok (fun s H C cl fp => (hg s H C cl fp).pg) (fun s H C cl fp => (ht s H C cl fp).pts) (fun s H C cl fp => (he s H C cl fp).pe) hs), rd_lcD (X := X) (W := W) hws⟩
end
end DL

/-! DSim2: simp for the later constructs. -/
namespace DL
open PySem PySem.Spec PyProof.Rows L2
section
variable {r : DL.Env} {d x y : D} {i j : Int} {b : Bool} {ds es : List D}
@[simp] theorem iZp_ap {E : DL.Env → Res (List D)} : iZp E r = (E r).bind zipE := (rfl)
@[simp] theorem iEa_ap {E : DL.Env → Res (List D)} : iEa E r = (E r).bind enuA := (rfl)
@[simp] theorem iRv_ap {E : EE} : iRv E r = (E r).bind rvE := (rfl)
@[simp] theorem zipE_tt (h : D.shL ds = true) (h' : D.shL es = true) : zipE [.tup ds, .tup es] r = .ok (zipD ds es) r := if_pos ⟨h, h'⟩
@[simp] theorem zipE_ll {o o' : Bool} (h : D.shL ds = true) (h' : D.shL es = true) : zipE [.lst o ds, .lst o' es] r = .ok (zipD ds es) r := if_pos ⟨h, h'⟩
@[simp] theorem enuA_t (h : D.shL ds = true) : enuA [.tup ds] r = .ok (enuF 0 ds) r := if_pos h
@[simp] theorem enuA_l {o : Bool} (h : D.shL ds = true) : enuA [.lst o ds] r = .ok (enuF 0 ds) r := if_pos h
@[simp] theorem rvE_t (h : D.shL ds = true) : rvE (.tup ds) r = .ok ds.reverse r := if_pos h
@[simp] theorem rvE_l {o : Bool} (h : D.shL ds = true) : rvE (.lst o ds) r = .ok ds.reverse r := if_pos h
@[simp] theorem oNo_ap : oNo r = .ok none := (rfl)
@[simp] theorem oSome_ap {A : EP} : oSome A r = (A r).bind asI := (rfl)
@[simp] theorem asI_int : asI (.int i) = .ok (some i) := (rfl)
@[simp] theorem pSl_ap {A : EP} {L U : DL.Env → PR (Option Int)} : pSl A L U r = (A r).bind fun x => (L r).bind fun l => (U r).bind fun u => opP (dSl l u) x := (rfl)
@[simp] theorem dSl_t {l u : Option Int} (h : D.shL ds = true) : dSl l u (.tup ds) = some (.tup (cutL ds l u)) := if_pos h
@[simp] theorem dSl_l {o : Bool} {l u : Option Int} (h : D.shL ds = true) : dSl l u (.lst o ds) = some (.lst true (cutL ds l u)) := if_pos h
@[simp] theorem dAdd_tup (h : D.shL ds = true) (h' : D.shL es = true) (hl : ds.length + es.length ≤ sizeLine) : dAdd (.tup ds) (.tup es) = some (.tup (ds ++ es)) := if_pos ⟨h, h', hl⟩
@[simp] theorem dAdd_lst {o o' : Bool} (h : D.shL ds = true) (h' : D.shL es = true) (hl : ds.length + es.length ≤ sizeLine) : dAdd (.lst o ds) (.lst o' es) = some (.lst true (ds ++ es)) := if_pos ⟨h, h', hl⟩
theorem shL_take {n : Nat} (h : D.shL ds = true) : D.shL (ds.take n) = true := shL_iff.mpr fun d hd => shL_iff.mp h d (List.mem_of_mem_take hd)
theorem shL_drop {n : Nat} (h : D.shL ds = true) : D.shL (ds.drop n) = true := shL_iff.mpr fun d hd => shL_iff.mp h d (List.mem_of_mem_drop hd)
theorem cut_pre {α : Type} {xs : List α} {n : Nat} : cutL xs none (some (n : Int)) = xs.take n := by
  unfold cutL
  rw [HT.sIx_none, HT.sIx_nat, List.drop_zero, Nat.sub_zero]
  rcases Nat.le_total n xs.length with h | h
  · rw [Nat.min_eq_left h]
  · rw [Nat.min_eq_right h, List.take_of_length_le (Nat.le_refl _), List.take_of_length_le h]
theorem cut_suf {α : Type} {xs : List α} {n : Nat} : cutL xs (some (n : Int)) none = xs.drop n := by
  unfold cutL
  rw [HT.sIx_none, HT.sIx_nat]
  rcases Nat.le_total n xs.length with h | h
  · rw [Nat.min_eq_left h]
    exact List.take_of_length_le (by simp)
  · rw [Nat.min_eq_right h, List.drop_of_length_le (Nat.le_refl _), List.drop_of_length_le h, List.take_nil]
@[simp] theorem dMulA_int (h : CMul i j) : dMulA (.int i) (.int j) = some (.int (i * j)) := if_pos h
@[simp] theorem dMulB_int (h : CMul i j) : dMulB (.int i) (.int j) = some (.int (i * j)) := if_pos h
theorem intsOf_map : ∀ {ns : List Int}, intsOf (ns.map .int) = some ns
  | [] => rfl
  | i :: ns => by
    show (intsOf (ns.map .int)).map (i :: ·) = _
    rw [intsOf_map]; rfl
@[simp] theorem dSum_ints {o : Bool} {ns : List Int} : dSum [.lst o (ns.map .int)] = some (.int ns.sum) := by
  show (intsOf (ns.map .int)).map _ = _
  rw [intsOf_map]; rfl
theorem allL_nil {al : Bool} {G : D → Env → Option Env} {T : Env → Res Bool} {E : Env → Res D} {vs : List Nat} : allL al G T E vs [] r = .ok al r := (rfl)
theorem allL_cons {al : Bool} {G : D → Env → Option Env} {E : Env → Res D} {vs : List Nat} {r1 r2 : DL.Env} (h : G d r = some r1) (h2 : E r1 = .ok (.bl b) r2) : allL al G tYes E vs (d :: ds) r = if b = al then allL al G tYes E vs ds (wipeE r2 vs) else .ok (!al) (wipeE r2 vs) := by
  rw [allL, h]
  dsimp only
  rw [tYes_ap, Res.bindS_ok, if_pos rfl, h2, Res.bindS_ok]
/-- all of a list, each asked from the same slots -/
theorem all_eq {G : D → Env → Option Env} {E : Env → Res D} {vs : List Nat} (q : D → Bool) : ∀ (ds : List D), (∀ d ∈ ds, ∃ r1, G d r = some r1 ∧ E r1 = .ok (.bl (q d)) r1 ∧ wipeE r1 vs = r) → allL true G tYes E vs ds r = .ok (ds.all q) r
  | [], _ => rfl
  | d :: ds, h => by
    obtain ⟨r1, e1, e2, e3⟩ := h d (by simp)
    rw [allL_cons e1 e2, e3, all_eq q ds fun d hd => h d (by simp [hd]), List.all_cons]
    cases q d <;> rfl
/-- .. up to the first that does not -/
theorem all_no {G : D → Env → Option Env} {E : Env → Res D} {vs : List Nat} : ∀ (l : List D) (x : D) (k : List D), (∀ d ∈ l, ∃ r1, G d r = some r1 ∧ E r1 = .ok (.bl true) r1 ∧ wipeE r1 vs = r) → (∃ r1, G x r = some r1 ∧ E r1 = .ok (.bl false) r1 ∧ wipeE r1 vs = r) → allL true G tYes E vs (l ++ x :: k) r = .ok false r
  | [], x, k, _, ⟨r1, e1, e2, e3⟩ => by
    rw [List.nil_append, allL_cons e1 e2, e3]; rfl
  | d :: l, x, k, h, h' => by
    obtain ⟨r1, e1, e2, e3⟩ := h d (by simp)
    rw [List.cons_append, allL_cons e1 e2, e3, if_pos rfl, all_no l x k (fun d hd => h d (by simp [hd])) h']
end
/-! ### a name's value, shared from now on -/
def fzO (i : Nat) (d : D) (r : DL.Env) : Res D := if d.sh = true then .ok d r else .ok d.frz (r.set i (some d.frz))
@[simp] theorem eV_ap {i : Nat} {r : DL.Env} : eV i r = ((getP i r).up r).bind (fzO i) := by
  unfold eV getP
  split <;> simp [*, PR.up, Res.bind, fzO]
@[simp] theorem fzO_sh {i : Nat} {d : D} {r : DL.Env} (h : d.sh = true) : fzO i d r = .ok d r := if_pos h
@[simp] theorem fzO_own {i : Nat} {ds : List D} {r : DL.Env} (h : D.shL ds = true) : fzO i (.lst true ds) r = .ok (.lst false ds) (r.set i (some (.lst false ds))) := by
  unfold fzO
  rw [if_neg (by simp [D.sh]), D.frz, frzL_sh ds h]
@[simp] theorem frzS {d : D} (h : d.sh = true) : d.frz = d := frz_sh d h
@[simp] theorem frzLS {ds : List D} (h : D.shL ds = true) : D.frzL ds = ds := frzL_sh ds h
@[simp] theorem frz_lst {o : Bool} {ds : List D} : (D.lst o ds).frz = .lst false (D.frzL ds) := (rfl)
@[simp] theorem frz_tup {ds : List D} : (D.tup ds).frz = .tup (D.frzL ds) := (rfl)
@[simp] theorem pLsF_ap {r : DL.Env} {E : DL.Env → PR (List D)} : pLsF E r = (E r).bind fun ds => if ds.length ≤ sizeLine then .ok (.lst (!D.shL ds) ds) else .stk := (rfl)
/-! ### order -/
@[simp] theorem dLtA_int {i j : Int} : dLtA (.int i) (.int j) = some (.bl (decide (i < j))) := (rfl)
@[simp] theorem dGtA_int {i j : Int} : dGtA (.int i) (.int j) = some (.bl (decide (j < i))) := (rfl)
@[simp] theorem dLeA_int {i j : Int} : dLeA (.int i) (.int j) = some (.bl (decide (i ≤ j))) := (rfl)
@[simp] theorem dGeA_int {i j : Int} : dGeA (.int i) (.int j) = some (.bl (decide (j ≤ i))) := (rfl)
end DL

/-! DLaw: the draws, told once for all laws. -/
namespace DL
open PySem PySem.Spec PyProof.Rows L2
def b_drawsB : DL.Env → SR := (sSeq (sSet 1 (eLst aNil))
    (sSeq (sFor (iSq (eV 0)) (setG 2) (sSeq (sSet 5 (epCB dAbs (paCons (getP 2) paNil)))
    (sSeq (sIf (tUp (bP (pOp dLtA (getP 5) (pOp dPow (pC (.int 10)) (pC (.int 18)))))) (sSeq (sSet 6 (eUp (pOp dMod (pCB dInt (paCons (pOp dAdd (pOp dMulB (getP 5) (pC (.int 48271))) (pC (.int 11))) paNil)) (pC (.int 2147483647)))))
    (sSeq (sExpr (eApp 1 (eUp (pOp dMod (pCB dInt (paCons (pOp dAdd (pOp dMulB (getP 6) (pC (.int 69621))) (getP 5)) paNil)) (pC (.int 2147483629))))))
    (sSeq (sExpr (eApp 1 (eUp (pOp dMod (pCB dInt (paCons (pOp dAdd (getP 6) (pOp dFdiv (getP 5) (pC (.int 7)))) paNil)) (pC (.int 1000003))))))
    (sSet 5 (eSh (pC (.int 0))))))) (.nx))
    (sFor (iR1 (aCons (eSh (pC (.int 60))) aNil)) (setG 4) (sIf (tUp (bP (pOp dGtA (getP 5) (pC (.int 0))))) (sSeq (sExpr (eApp 1 (eUp (pOp dMod (pCB dInt (paCons (getP 5) paNil)) (pC (.int 997))))))
    (sSet 5 (eUp (pOp dFdiv (getP 5) (pC (.int 997)))))) (.nx))))))
    (sSeq (sSet 3 (eSh (pC (.int 1))))
    (sSeq (sIf (tUp (bP (pOp dGtA (pCB dLen (paCons (getP 0) paNil)) (pC (.int 0))))) (sSet 3 (eUp (pOp dAdd (pC (.int 1)) (pCB dAbs (paCons (pIx (getP 0) (pC (.int 0))) paNil))))) (.nx))
    (sSeq (sFor (iR1 (aCons (eSh (pC (.int 900))) aNil)) (setG 4) (sSeq (sSet 3 (eUp (pOp dMod (pCB dInt (paCons (pOp dAdd (pOp dMulB (getP 3) (pC (.int 48271))) (pC (.int 69621))) paNil)) (pC (.int 2147483647)))))
    (sExpr (eApp 1 (eUp (pOp dFdiv (getP 3) (pC (.int 5))))))))
    (sRet (eRev (eUp (getP 1)))))))))
def m_drawsB (ds : List D) : PR D := outP (b_drawsB (startE 7 ds))
theorem draws_inB {ns : List Int} {j : Nat} {p : Po} (hj : j < 63) (L0 : List Int) (n : Int) (x2 x3 x4 x6 : Option D) (hL0 : L0.length ≤ 62 * j + (if n = 0 then 2 else 0)) (hn : 0 ≤ n) :
    (forL (setG 4) (sIf (tUp (bP (pOp dGtA (getP 5) (pC (D.int 0)))))
              (sSeq (sExpr (eApp 1 (eUp (pOp dMod (pCB dInt (paCons (getP 5) paNil)) (pC (D.int 997))))))
                (sSet 5 (eUp (pOp dFdiv (getP 5) (pC (D.int 997)))))) SR.nx) (rgI 0 60) [some (D.scr ns), some (D.lst true (List.map D.int L0)), x2, x3, x4, some (D.int n), x6]).sat (p.turn (DrI ns (62 * (j + 1)))) := by
  refine sat_forR (DrJ ns x2 x3 x6 (62 * j)) ⟨L0, n, x4, by simpa using hL0, hn, rfl⟩ ?_ ?_
  · rintro k r hk ⟨L, n, x4, hL, hn, rfl⟩
    have h1 : L.length < 16777216 := by split at hL <;> omega
    simp [h1]
    refine ⟨fun hp => ⟨L ++ [n % 997], n / 997, _, ?_, Int.ediv_nonneg hn (by omega), by rw [List.map_append]; rfl⟩, fun hz => ⟨L, n, _, ?_, hn, rfl⟩⟩
    · rw [if_neg (by omega)] at hL
      rw [List.length_append, List.length_singleton]
      split <;> omega
    · split at hL <;> split <;> omega
  · rintro r ⟨L, n, x4, hL, hn, rfl⟩
    exact ⟨L, _, _, _, _, _, by split at hL <;> omega, rfl⟩
theorem draws_endB {ns : List Int} (h : ns.length ≤ 63) (L : List Int) (hL : L.length ≤ 62 * ns.length) (n : Int) (x2 x4 x5 x6 : Option D) (m : Nat) (hm : m ≤ 1000) : (forL (setG 4)
            (sSeq
              (sSet 3
                (eUp
                  (pOp dMod
                    (pCB dInt (paCons (pOp dAdd (pOp dMulB (getP 3) (pC (D.int 48271))) (pC (D.int 69621))) paNil))
                    (pC (D.int 2147483647)))))
              (sExpr (eApp 1 (eUp (pOp dFdiv (getP 3) (pC (D.int 5)))))))
            (rgI 0 m) [some (D.scr ns), some (D.lst true (List.map D.int L)), x2, some (D.int n), x4, x5, x6]).sat
        ((Po.ans fun d' x => ∃ L, d' = iL L).andd (sRet (eRev (eUp (getP 1))))) := by
  refine sat_forR (fun k => DrK ns x2 x5 x6 (62 * 63 + k)) ⟨L, n, x4, by omega, rfl⟩ ?_ ?_
  · rintro k r hk ⟨L, n, x4, hL, rfl⟩
    have h1 : L.length < 16777216 := by omega
    simp [h1]
    exact ⟨L ++ [(n * 48271 + 69621) % 2147483647 / 5], _, _, by rw [List.length_append, List.length_singleton]; omega, by rw [List.map_append]; rfl⟩
  · rintro r ⟨L, n, x4, hL, rfl⟩
    simp
    exact ⟨L.reverse, by rw [List.map_reverse]⟩
theorem draws_okB {ns : List Int} (h : ns.length ≤ 63) : ∃ L : List Int, m_drawsB [.scr ns] = .ok (iL L) := by
  suffices ∃ d, m_drawsB [.scr ns] = .ok d ∧ ∃ L, d = iL L by
    obtain ⟨d, e, L, rfl⟩ := this
    exact ⟨L, e⟩
  unfold m_drawsB b_drawsB
  refine outP_ex ?_
  simp [List.replicate]
  refine sat_forM (fun k => DrI ns (62 * k)) ⟨[], _, _, _, _, _, by simp, rfl⟩ ?_ ?_
  · rintro j a r hj ⟨L, x2, x3, x4, x5, x6, hL, rfl⟩
    have hj : j < ns.length := (List.getElem?_eq_some_iff.mp hj).1
    have h1 : L.length < 16777216 := by omega
    have h2 : L.length + 1 < 16777216 := by omega
    simp [h1, h2]
    refine ⟨fun _ => ?_, fun hb => draws_inB (by omega) L _ _ _ _ _ (by omega) (by omega)⟩
    have e : ∀ (u v : Int), L.map D.int ++ [.int u, .int v] = (L ++ [u, v]).map D.int := fun u v => by rw [List.map_append]; rfl
    rw [e]
    refine draws_inB ?_ _ _ _ _ _ _ ?_ ?_
    · omega
    · simp; omega
    · exact Int.le_refl _
  · rintro r ⟨L, x2, x3, x4, x5, x6, hL, rfl⟩
    simp
    refine ⟨fun hp => ?_, fun _ => draws_endB h L hL _ _ _ _ _ _ (by decide)⟩
    obtain ⟨a, t, rfl⟩ : ∃ a t, ns = a :: t := by
      cases ns with
      | nil => simp at hp
      | cons a t => exact ⟨a, t, rfl⟩
    simp
    generalize 1 + (a.natAbs : Int) = n
    exact draws_endB h L hL n x2 x4 x5 x6 900 (by decide)
def b_takeB : DL.Env → SR := (sSeq (sIf (tUp (bP (pOp dEq (pCB dLen (paCons (getP 0) paNil)) (pC (.int 0))))) (sRet (eSh (pC (.int 0)))) (.nx))
    (sRet (eOp dMod (eCB dInt (aCons (popE 0) aNil)) (eV 1))))
def m_takeB (ds : List D) : MR := outM (b_takeB (startE 2 ds))
theorem take_okB {L : List Int} {b : Int} (hb : 0 < b) : ∃ (x : Int) (L' : List Int), m_takeB [iL L, .int b] = .ok (.int x) (iL L') ∧ 0 ≤ x ∧ x < b := by
  unfold m_takeB b_takeB iL
  rcases List.eq_nil_or_concat L with rfl | ⟨L', a, rfl⟩
  · refine ⟨0, [], ?_, by omega, hb⟩
    simp [sSeq_ap]
  · refine ⟨a % b, L', ?_, Int.emod_nonneg _ (by omega), Int.emod_lt_of_pos _ hb⟩
    have h0 : ¬ ((L'.length : Int) + 1 = 0) := by omega
    simp [hb, h0, sSeq_ap]
end DL

/-! DSat2: comprehensions and all/any over mapped lists; comprehensions that change names. -/
namespace DL
open PySem PySem.Spec PyProof.Rows L2
section
variable {α : Type} {G : D → DL.Env → Option DL.Env} {T : BE} {E : EE} {vs : List Nat} {r : DL.Env}
theorem lcL_map {g : α → D} (q : α → Bool) (f : α → D) : ∀ (L : List α) (acc : List D), acc.length + L.length < sizeLine →
    (∀ a ∈ L, ∃ r1, G (g a) r = some r1 ∧ T r1 = .ok (q a) r1 ∧ (q a = true → E r1 = .ok (f a) r1) ∧ wipeE r1 vs = r) → lcL G T E vs (L.map g) acc r = .ok (acc ++ (L.filter q).map f) r
  | [], acc, _, _ => by simp [lcL]
  | a :: L, acc, hl, h => by
    obtain ⟨r1, e1, e2, e3, e4⟩ := h a (by simp)
    have ih := fun acc hl => lcL_map (g := g) q f L acc hl fun a ha => h a (by simp [ha])
    rw [List.map_cons]
    unfold lcL
    rw [e1]
    dsimp only
    rw [e2, Res.bindS_ok]
    rw [List.length_cons] at hl
    cases hq : q a with
    | false => rw [if_neg (by decide), e4, ih acc (by omega), List.filter_cons_of_neg (by simp [hq])]
    | true =>
      rw [if_pos rfl, e3 hq, Res.bindS_ok, if_pos (by omega), e4, ih _ (by rw [List.length_append, List.length_singleton]; omega), List.filter_cons_of_pos hq, List.map_cons, List.append_assoc]
      rfl
theorem lcL_rng {lo : Int} {n : Nat} {acc : List D} (q : Nat → Bool) (f : Nat → D) (hl : acc.length + n < sizeLine)
    (h : ∀ j < n, ∃ r1, G (.int (lo + (j : Nat))) r = some r1 ∧ T r1 = .ok (q j) r1 ∧ (q j = true → E r1 = .ok (f j) r1) ∧ wipeE r1 vs = r) : lcL G T E vs (rgI lo n) acc r = .ok (acc ++ ((List.range n).filter q).map f) r :=
  lcL_map (g := fun (j : Nat) => D.int (lo + (j : Nat))) q f (List.range n) acc (by simpa using hl) fun j hj => h j (by simpa using hj)
theorem lcL_mapT {g : α → D} (f : α → D) (L : List α) (acc : List D) (hl : acc.length + L.length < sizeLine)
    (h : ∀ a ∈ L, ∃ r1, G (g a) r = some r1 ∧ E r1 = .ok (f a) r1 ∧ wipeE r1 vs = r) : lcL G tYes E vs (L.map g) acc r = .ok (acc ++ L.map f) r := by
  rw [lcL_map (fun _ => true) f L acc hl fun a ha => by obtain ⟨r1, e1, e2, e3⟩ := h a ha; exact ⟨r1, e1, rfl, fun _ => e2, e3⟩, List.filter_eq_self.mpr fun _ _ => rfl]
theorem lcL_rngT {lo : Int} {n : Nat} {acc : List D} (f : Nat → D) (hl : acc.length + n < sizeLine)
    (h : ∀ j < n, ∃ r1, G (.int (lo + (j : Nat))) r = some r1 ∧ E r1 = .ok (f j) r1 ∧ wipeE r1 vs = r) : lcL G tYes E vs (rgI lo n) acc r = .ok (acc ++ (List.range n).map f) r :=
  lcL_mapT (g := fun (j : Nat) => D.int (lo + (j : Nat))) f (List.range n) acc (by simpa using hl) fun j hj => h j (by simpa using hj)
theorem set_same {r : DL.Env} {i : Nat} {x : Option D} (h : r[i]? = some x) : r.set i x = r := by
  obtain ⟨l, e⟩ := List.getElem?_eq_some_iff.mp h
  rw [← e]; exact List.set_getElem_self l
@[simp] theorem fzO_lst {i : Nat} {o : Bool} {ds : List D} {r : DL.Env} (h : D.shL ds = true) (hr : r[i]? = some (some (.lst o ds))) : fzO i (.lst o ds) r = .ok (.lst false ds) (r.set i (some (.lst false ds))) := by
  cases o with
  | true => exact fzO_own h
  | false =>
    rw [fzO_sh (by simp [D.sh, h])]
    congr 1
    exact (set_same hr).symm
theorem all_map {g : α → D} (q : α → Bool) : ∀ (L : List α), (∀ a ∈ L, ∃ r1, G (g a) r = some r1 ∧ E r1 = .ok (.bl (q a)) r1 ∧ wipeE r1 vs = r) → allL true G tYes E vs (L.map g) r = .ok (L.all q) r
  | [], _ => rfl
  | a :: L, h => by
    obtain ⟨r1, e1, e2, e3⟩ := h a (by simp)
    rw [List.map_cons, allL_cons e1 e2, e3, all_map q L fun a ha => h a (by simp [ha]), List.all_cons]
    cases q a <;> rfl
theorem any_map {g : α → D} (q : α → Bool) : ∀ (L : List α), (∀ a ∈ L, ∃ r1, G (g a) r = some r1 ∧ E r1 = .ok (.bl (q a)) r1 ∧ wipeE r1 vs = r) → allL false G tYes E vs (L.map g) r = .ok (L.any q) r
  | [], _ => rfl
  | a :: L, h => by
    obtain ⟨r1, e1, e2, e3⟩ := h a (by simp)
    rw [List.map_cons, allL_cons e1 e2, e3, any_map q L fun a ha => h a (by simp [ha]), List.any_cons]
    cases q a <;> rfl
/-- .. whose elements change names: J holds of the done ones -/
theorem lcL_st {g : α → D} (J : List D → DL.Env → Prop) : ∀ (L : List α) (acc : List D) (r : DL.Env), acc.length + L.length < sizeLine → J acc r →
    (∀ a ∈ L, ∀ acc r, J acc r → ∃ r1 r2 x, G (g a) r = some r1 ∧ T r1 = .ok true r1 ∧ E r1 = .ok x r2 ∧ J (acc ++ [x]) (wipeE r2 vs)) → ∃ ds r', lcL G T E vs (L.map g) acc r = .ok ds r' ∧ ds.length = acc.length + L.length ∧ J ds r'
  | [], acc, r, _, hj, _ => ⟨acc, r, rfl, rfl, hj⟩
  | a :: L, acc, r, hl, hj, h => by
    obtain ⟨r1, r2, x, e1, e2, e3, e4⟩ := h a (by simp) acc r hj
    rw [List.length_cons] at hl
    obtain ⟨ds, r', k1, k2, k3⟩ := lcL_st J L (acc ++ [x]) (wipeE r2 vs) (by rw [List.length_append, List.length_singleton]; omega) e4 fun a ha => h a (by simp [ha])
    refine ⟨ds, r', ?_, by rw [k2, List.length_append, List.length_singleton, List.length_cons]; omega, k3⟩
    rw [List.map_cons]
    unfold lcL
    rw [e1]
    dsimp only
    rw [e2, Res.bindS_ok, if_pos rfl, e3, Res.bindS_ok, if_pos (by omega), k1]
theorem rgI_map (lo : Int) (n : Nat) : rgI lo n = (List.range n).map fun (j : Nat) => D.int (lo + (j : Nat)) := rfl
end
end DL

/-! DLaw3: what laws compare with. -/
namespace DL
open PySem PySem.Spec PyProof.Rows L2
def b_says : DL.Env → SR := (sRet (eSh (pAnd (pUn (dIsi .bool) (getP 0)) (pOp dEq (getP 0) (getP 1)))))
def m_says (ds : List D) : PR D := outP (b_says (startE 2 ds))
def b_alike (self : List D → PR D) : DL.Env → SR := (sSeq (sIf (tUp (tpOr (bP (pUn (dIsi .list) (getP 1))) (bP (pUn (dIsi .tuple) (getP 1))))) (sSeq (sIf (tUp (tpOr (bP (pOp dNe (pUn (dIsi .list) (getP 0)) (pUn (dIsi .list) (getP 1)))) (bP (pOp dNe (pUn (dIsi .tuple) (getP 0)) (pUn (dIsi .tuple) (getP 1)))))) (sRet (eSh (pC (.bl false)))) (.nx))
    (sRet (eAnd (eSh (pOp dEq (pCB dLen (paCons (getP 0) paNil)) (pCB dLen (paCons (getP 1) paNil)))) (eOp dEq (eLc (setG 2) (tUp (tpNot (bP (pCall 2 self (paCons (pIx (getP 0) (getP 2)) (paCons (pIx (getP 1) (getP 2)) paNil)))))) (eV 2) [2] (iR1 (aCons (epCB dLen (paCons (getP 1) paNil)) aNil))) (eLst aNil))))) (.nx))
    (sSeq (sIf (tUp (bP (pOp dIsN (getP 1) (pC .non)))) (sRet (eSh (pOp dIsN (getP 0) (pC .non)))) (.nx))
    (sSeq (sIf (tUp (tpOr (bP (pUn (dIsi .bool) (getP 1))) (bP (pUn (dIsi .bool) (getP 0))))) (sRet (eSh (pAnd (pUn (dIsi .bool) (getP 0)) (pAnd (pUn (dIsi .bool) (getP 1)) (pOp dEq (getP 0) (getP 1)))))) (.nx))
    (sSeq (sIf (tUp (bP (pUn (dIsi .int) (getP 1)))) (sRet (eSh (pAnd (pUn (dIsi .int) (getP 0)) (pOp dEq (getP 0) (getP 1))))) (.nx))
    (sRet (eSh (pAnd (pUn (dIsi .str) (getP 0)) (pOp dEq (getP 0) (getP 1)))))))))
def m_alike : Nat → List D → PR D
  | 0, _ => .stk
  | k + 1, ds => outP (b_alike (m_alike k) (startE 3 ds))

theorem says_ok {a b : Bool} : m_says [.bl a, .bl b] = .ok (.bl (a == b)) := by
  unfold m_says b_says
  cases a <;> cases b <;> simp
theorem dep_mem {ds : List D} {d : D} (h : d ∈ ds) : D.dep d ≤ D.depL ds := by
  induction ds with
  | nil => cases h
  | cons x t ih =>
    rw [D.depL]
    rcases List.mem_cons.mp h with rfl | h
    · omega
    · have := ih h; omega
theorem alike_seq {n : Nat} {ds : List D} {mk : List D → D} (hmk : mk = .tup ∨ mk = .lst false) (hl : ds.length < 1000000) (hs : D.shL ds = true) (ih : ∀ d ∈ ds, m_alike n [d, d] = .ok (.bl true)) :
    m_alike (n + 1) [mk ds, mk ds] = .ok (.bl true) := by
  rw [m_alike]
  unfold b_alike
  have h1 : (ds.length : Int) < 4611686018427387904 := by omega
  have h2 : (-4611686018427387904 : Int) ≤ ds.length := by omega
  have key : ∀ j < ds.length, ∃ r1, setG 2 (.int (0 + (j : Nat))) [some (mk ds), some (mk ds), none] = some r1 ∧ tUp (tpNot (bP (pCall 2 (m_alike n) (paCons (pIx (getP 0) (getP 2)) (paCons (pIx (getP 1) (getP 2)) paNil))))) r1 = .ok false r1 ∧ wipeE r1 [2] = [some (mk ds), some (mk ds), none] := by
    intro j hj
    obtain ⟨d, hd⟩ : ∃ d, ds[j]? = some d := ⟨_, List.getElem?_eq_getElem hj⟩
    have g1 : atI ds (0 + (j : Int)) = some d := atI_nat (by omega) (by rw [show (0 + (j : Int)).toNat = j by omega, hd])
    have e1 := ih d (List.mem_of_getElem? hd)
    have e2 : d.sh = true := shL_iff.mp hs d (List.mem_of_getElem? hd)
    refine ⟨_, setG_lt (by simp), ?_⟩
    generalize 0 + (j : Int) = i at *
    rcases hmk with rfl | rfl <;> simp [g1, e1, e2]
  have key2 : lcL (setG 2) (tUp (tpNot (bP (pCall 2 (m_alike n) (paCons (pIx (getP 0) (getP 2)) (paCons (pIx (getP 1) (getP 2)) paNil)))))) (eV 2) [2] (rgI 0 ds.length) [] [some (mk ds), some (mk ds), none] = .ok [] [some (mk ds), some (mk ds), none] := by
    rw [lcL_rng (fun _ => false) (fun _ => .non) (by simp; omega) fun j hj => ?_]
    · simp
    · obtain ⟨r1, e1, e2, e3⟩ := key j hj
      exact ⟨r1, e1, e2, (fun z => nomatch z), e3⟩
  rcases hmk with rfl | rfl
  · refine outP_eq ?_
    simp [List.replicate, hs, h1, h2, key2]
  · refine outP_eq ?_
    simp [List.replicate, hs, h1, h2, key2]
mutual
def D.small : D → Bool
  | .tup ds => decide (ds.length < 1000000) && D.smallL ds
  | .lst _ ds => decide (ds.length < 1000000) && D.smallL ds
  | _ => true
def D.smallL : List D → Bool
  | [] => true
  | d :: ds => d.small && D.smallL ds
end
@[simp] theorem small_tup {ds : List D} : (D.tup ds).small = (decide (ds.length < 1000000) && D.smallL ds) := by rw [D.small]
@[simp] theorem small_lst {o : Bool} {ds : List D} : (D.lst o ds).small = (decide (ds.length < 1000000) && D.smallL ds) := by rw [D.small]
@[simp] theorem small_non : D.non.small = true := by rw [D.small] <;> (intros; contradiction)
@[simp] theorem small_bl {b : Bool} : (D.bl b).small = true := by rw [D.small] <;> (intros; contradiction)
@[simp] theorem small_int {b : Int} : (D.int b).small = true := by rw [D.small] <;> (intros; contradiction)
@[simp] theorem small_str {b : Str} : (D.str b).small = true := by rw [D.small] <;> (intros; contradiction)
@[simp] theorem smallL_nil : D.smallL [] = true := by rw [D.smallL]
@[simp] theorem smallL_cons {d : D} {ds : List D} : D.smallL (d :: ds) = (d.small && D.smallL ds) := by rw [D.smallL]
theorem smallL_iff {ds : List D} : D.smallL ds = true ↔ ∀ d ∈ ds, d.small = true := by
  induction ds with
  | nil => simp
  | cons d t ih => simp [ih]
theorem smallL_map {α : Type} {f : α → D} {l : List α} (h : ∀ a ∈ l, (f a).small = true) : D.smallL (l.map f) = true := smallL_iff.mpr fun d hd => by
  obtain ⟨a, ha, rfl⟩ := List.mem_map.mp hd
  exact h a ha
theorem alike_refl : ∀ (n : Nat) (d : D), d.sh = true → D.dep d < n → n ≤ 90 → D.small d = true → m_alike n [d, d] = .ok (.bl true)
  | 0, _, _, h, _, _ => by omega
  | n + 1, d, hs, hd, hn, hz => by
    cases d with
    | tup ds =>
      simp only [small_tup, Bool.and_eq_true, decide_eq_true_eq] at hz
      have hd' : D.depL ds + 1 < n + 1 := by simpa [D.dep] using hd
      exact alike_seq (.inl rfl) hz.1 (by simpa [D.sh] using hs) fun d h => alike_refl n d (shL_iff.mp (by simpa [D.sh] using hs) d h) (by have := dep_mem h; omega) (by omega) (smallL_iff.mp hz.2 d h)
    | lst o ds =>
      cases o with
      | true => simp [D.sh] at hs
      | false =>
        simp only [small_lst, Bool.and_eq_true, decide_eq_true_eq] at hz
        have hd' : D.depL ds + 1 < n + 1 := by simpa [D.dep] using hd
        exact alike_seq (.inr rfl) hz.1 (by simpa [D.sh] using hs) fun d h => alike_refl n d (shL_iff.mp (by simpa [D.sh] using hs) d h) (by have := dep_mem h; omega) (by omega) (smallL_iff.mp hz.2 d h)
    | scr ns => simp [D.dep] at hd; omega
    | exc c => simp [D.dep] at hd; omega
    | dic o t ks vs => simp [D.dep] at hd; omega
    | non => rw [m_alike]; unfold b_alike; refine outP_eq ?_; simp [List.replicate]
    | bl b => rw [m_alike]; unfold b_alike; refine outP_eq ?_; simp [List.replicate]
    | int b => rw [m_alike]; unfold b_alike; refine outP_eq ?_; simp [List.replicate]
    | str b => rw [m_alike]; unfold b_alike; refine outP_eq ?_; simp [List.replicate, show dEq (.str b) (.str b) = some (.bl true) by simp [dEq, D.pl, D.eqv]]
mutual
theorem eqv_refl : ∀ d : D, D.dep d < 100 → D.eqv d d = true
  | .non, _ => by simp [D.eqv]
  | .bl _, _ => by simp [D.eqv]
  | .int _, _ => by simp [D.eqv]
  | .str _, _ => by simp [D.eqv]
  | .tup ds, h => by rw [eqv_tup]; exact eqvL_refl ds (by simp only [D.dep] at h; omega)
  | .lst _ ds, h => by rw [eqv_lst]; exact eqvL_refl ds (by simp only [D.dep] at h; omega)
  | .scr _, h => by simp [D.dep] at h
  | .exc _, h => by simp [D.dep] at h
  | .dic _ _ _ _, h => by simp [D.dep] at h
theorem eqvL_refl : ∀ ds : List D, D.depL ds < 100 → D.eqvL ds ds = true
  | [], _ => by simp
  | d :: ds, h => by
    simp only [D.depL] at h
    rw [eqvL_cons, eqv_refl d (by omega), eqvL_refl ds (by omega)]
    rfl
end
theorem lcL_no {G : D → DL.Env → Option DL.Env} {T : BE} {E : EE} {vs : List Nat} {r : DL.Env} : ∀ (ds acc : List D), (∀ d ∈ ds, ∃ r1, G d r = some r1 ∧ T r1 = .ok false r1 ∧ wipeE r1 vs = r) → lcL G T E vs ds acc r = .ok acc r
  | [], acc, _ => by simp [lcL]
  | d :: ds, acc, h => by
    obtain ⟨r1, e1, e2, e3⟩ := h d (by simp)
    rw [lcL, e1]
    dsimp only
    rw [e2, Res.bindS_ok, if_neg (by decide), e3]
    exact lcL_no ds acc fun d hd => h d (by simp [hd])
theorem cut_last {α : Type} {xs : List α} : cutL xs none (some (-1)) = xs.dropLast := by
  unfold cutL
  rw [HT.sIx_none, show HT.sIx xs.length xs.length (some (-1)) = xs.length - 1 by simp [HT.sIx]; omega, List.drop_zero, Nat.sub_zero, List.dropLast_eq_take]
theorem cut_one {α : Type} {xs : List α} : cutL xs none (some 1) = xs.take 1 := cut_pre (n := 1)
theorem cut_suf1 {α : Type} {xs : List α} {n : Nat} : cutL xs (some ((n : Int) + 1)) none = xs.drop (n + 1) := by
  rw [← cut_suf (xs := xs) (n := n + 1)]; simp
theorem frzL_map : ∀ {ds : List D}, D.frzL ds = ds.map D.frz
  | [] => rfl
  | d :: ds => by rw [D.frzL, List.map_cons, frzL_map]
theorem fzO_any {i : Nat} {o : Bool} {ds : List D} {r : DL.Env} (hr : r[i]? = some (some (.lst o ds))) : fzO i (.lst o ds) r = .ok (.lst false (ds.map D.frz)) (r.set i (some (.lst false (ds.map D.frz)))) := by
  rw [← frzL_map]
  unfold fzO
  split
  · rename_i h
    cases o with
    | true => simp [D.sh] at h
    | false =>
      have : D.frzL ds = ds := frzL_sh ds (by simpa [D.sh] using h)
      rw [this]
      congr 1
      exact (set_same hr).symm
  · rfl
theorem cutL_map {α β : Type} {f : α → β} {xs : List α} {l u : Option Int} : cutL (xs.map f) l u = (cutL xs l u).map f := by
  unfold cutL
  rw [List.length_map, List.map_take, List.map_drop]
@[simp] theorem ite_bl {q : Prop} [Decidable q] {a b : Bool} : (if q then D.bl a else D.bl b) = D.bl (if q then a else b) := by split <;> rfl
theorem lcL_rngN {G : D → DL.Env → Option DL.Env} {T : BE} {E : EE} {vs : List Nat} {r : DL.Env} {lo : Int} {n : Nat} {acc : List D}
    (h : ∀ j < n, ∃ r1, G (.int (lo + (j : Nat))) r = some r1 ∧ T r1 = .ok false r1 ∧ wipeE r1 vs = r) : lcL G T E vs (rgI lo n) acc r = .ok acc r :=
  lcL_no _ _ fun d hd => by
    obtain ⟨i, hi⟩ := List.mem_iff_getElem?.mp hd
    obtain ⟨h1, rfl⟩ := rgI_item hi
    exact h i h1
theorem lcL_mapN {α : Type} {G : D → DL.Env → Option DL.Env} {T : BE} {E : EE} {vs : List Nat} {r : DL.Env} {g : α → D} {L : List α} {acc : List D}
    (h : ∀ a ∈ L, ∃ r1, G (g a) r = some r1 ∧ T r1 = .ok false r1 ∧ wipeE r1 vs = r) : lcL G T E vs (L.map g) acc r = .ok acc r :=
  lcL_no _ _ fun d hd => by
    obtain ⟨a, ha, rfl⟩ := List.mem_map.mp hd
    exact h a ha
theorem lcL_stR {G : D → DL.Env → Option DL.Env} {T : BE} {E : EE} {vs : List Nat} {lo : Int} {n : Nat} (J : List D → DL.Env → Prop) (r : DL.Env) (hn : n < sizeLine) (h0 : J [] r)
    (h : ∀ (j : Nat) acc r, J acc r → ∃ r1 r2 x, G (.int (lo + (j : Nat))) r = some r1 ∧ T r1 = .ok true r1 ∧ E r1 = .ok x r2 ∧ J (acc ++ [x]) (wipeE r2 vs)) : ∃ ds r', lcL G T E vs (rgI lo n) [] r = .ok ds r' ∧ ds.length = n ∧ J ds r' := by
  obtain ⟨ds, r', e, hl, hj⟩ := lcL_st (G := G) (T := T) (E := E) (vs := vs) (g := fun (j : Nat) => D.int (lo + (j : Nat))) J (List.range n) [] r (by simpa using hn) h0 fun a _ acc r => h a acc r
  exact ⟨ds, r', e, by simpa using hl, hj⟩
theorem in_lst {x : D} {o : Bool} {ds : List D} (hx : x.dep ≤ 64) (hd : D.depL ds ≤ 63) : dIn x (.lst o ds) = some (.bl (ds.any fun z => D.eqv z x)) := by
  show (if _ then _ else _) = _
  rw [if_pos ⟨hx, by simp only [D.dep]; omega⟩]
  simp
theorem nin_lst {x : D} {o : Bool} {ds : List D} (hx : x.dep ≤ 64) (hd : D.depL ds ≤ 63) : dNin x (.lst o ds) = some (.bl !(ds.any fun z => D.eqv z x)) := by
  show (if _ then _ else _) = _
  rw [if_pos ⟨hx, by simp only [D.dep]; omega⟩]
  simp
theorem in_tup {x : D} {ds : List D} (hx : x.dep ≤ 64) (hd : D.depL ds ≤ 63) : dIn x (.tup ds) = some (.bl (ds.any fun z => D.eqv z x)) := by
  show (if _ then _ else _) = _
  rw [if_pos ⟨hx, by simp only [D.dep]; omega⟩]
  simp
theorem nin_tup {x : D} {ds : List D} (hx : x.dep ≤ 64) (hd : D.depL ds ≤ 63) : dNin x (.tup ds) = some (.bl !(ds.any fun z => D.eqv z x)) := by
  show (if _ then _ else _) = _
  rw [if_pos ⟨hx, by simp only [D.dep]; omega⟩]
  simp
end DL

/-! DSim3: errors and sums of tuples, for simp. -/
namespace DL
open PySem PySem.Spec PyProof.Rows L2
section
variable {α β : Type} {c : Str} {r : DL.Env} {x : SR}
@[simp] theorem thn_exc {f : α → DL.Env → SR} : (Res.exc c r : Res α).thn f = .exc c r := (rfl)
/-- an error gets out -/
def Po.exn (c : Str) : Po := ⟨fun _ => False, fun _ _ => False, fun _ => False, fun _ => False, fun c' _ => c' = c⟩
@[simp] theorem exn_nx {r : DL.Env} : ¬ (Po.exn c).nx r := fun h => h
@[simp] theorem exn_rt {d : D} {r : DL.Env} : ¬ (Po.exn c).rt d r := fun h => h
@[simp] theorem exn_ex {c' : Str} : (Po.exn c).ex c' r ↔ c' = c := (Iff.rfl)
theorem outP_exn (h : x.sat (Po.exn c)) : outP x = .exc c := by
  cases x with
  | exc c' r => have h : c' = c := h.out; rw [← h]; rfl
  | _ => exact h.out.elim
@[simp] theorem dSumA_ints {o : Bool} {ns : List Int} : dSumA [.lst o (ns.map .int)] = some (.int ns.sum) := by
  unfold dSumA; rw [dSum_ints]; rfl
@[simp] theorem dSumA_tup {ns : List Int} : dSumA [.tup (ns.map .int)] = some (.int ns.sum) := by
  show (dSumT [.tup (ns.map .int)]) = _
  show (intsOf (ns.map .int)).map _ = _
  rw [intsOf_map]; rfl
/-- try: the body's end, or the word -/
theorem sTryW_nx {i : Nat} {wd : Str → Option Str} {B : DL.Env → SR} {d : D} {r r1 : DL.Env} (h : B r = .rt d r1) : sTryW i wd B r = .rt d r1 := by unfold sTryW; rw [h]
theorem sTryW_exc {i : Nat} {wd : Str → Option Str} {B : DL.Env → SR} {r r1 : DL.Env} {w : Str} (h : B r = .exc c r1) (hw : wd c = some w) (hi : i < r1.length) : sTryW i wd B r = .rt (.str w) r1 := by
  unfold sTryW; rw [h]; dsimp only; rw [hw]; exact if_pos hi
theorem alike_top {n : Nat} {ds : List D} {o o' : Bool} (hl : ds.length < 1000000) (hs : D.shL ds = true) (ih : ∀ d ∈ ds, m_alike n [d, d] = .ok (.bl true)) :
    m_alike (n + 1) [.lst o ds, .lst o' ds] = .ok (.bl true) := by
  rw [m_alike]
  unfold b_alike
  have h1 : (ds.length : Int) < 4611686018427387904 := by omega
  have h2 : (-4611686018427387904 : Int) ≤ ds.length := by omega
  refine outP_eq ?_
  simp [List.replicate, hs, h1, h2]
  rw [lcL_rngN]
  · simp
  · intro j hj
    obtain ⟨d, hd⟩ : ∃ d, ds[j]? = some d := ⟨_, List.getElem?_eq_getElem hj⟩
    have g1 : atI ds (0 + (j : Int)) = some d := atI_nat (by omega) (by rw [show (0 + (j : Int)).toNat = j by omega, hd])
    have e1 := ih d (List.mem_of_getElem? hd)
    have e2 : d.sh = true := shL_iff.mp hs d (List.mem_of_getElem? hd)
    refine ⟨_, setG_lt (by simp), ?_⟩
    generalize 0 + (j : Int) = i at *
    simp [g1, e1, e2]
@[simp] theorem isi_in : dIsi .int .non = some (.bl false) := (rfl)
@[simp] theorem isi_il {o : Bool} {ds : List D} : dIsi .int (.lst o ds) = some (.bl false) := (rfl)
@[simp] theorem isi_bl' {o : Bool} {ds : List D} : dIsi .bool (.lst o ds) = some (.bl false) := (rfl)
@[simp] theorem isi_sn : dIsi .str .non = some (.bl false) := (rfl)
@[simp] theorem isi_sb {b : Bool} : dIsi .str (.bl b) = some (.bl false) := (rfl)
@[simp] theorem isi_si {i : Int} : dIsi .str (.int i) = some (.bl false) := (rfl)
@[simp] theorem isi_st {ds : List D} : dIsi .str (.tup ds) = some (.bl false) := (rfl)
@[simp] theorem isi_sl {o : Bool} {ds : List D} : dIsi .str (.lst o ds) = some (.bl false) := (rfl)
@[simp] theorem frzL_nil : D.frzL [] = [] := (rfl)
@[simp] theorem frzL_cons {d : D} {ds : List D} : D.frzL (d :: ds) = d.frz :: D.frzL ds := (rfl)
@[simp] theorem dEq_str {x y : Str} : dEq (.str x) (.str y) = some (.bl (x == y)) := by simp [dEq, D.pl]
@[simp] theorem dNe_str {x y : Str} : dNe (.str x) (.str y) = some (.bl (x != y)) := by simp [dNe, D.pl, bne]
theorem flat_rep {d : D} : ∀ n : Nat, (List.replicate n [d]).flatten = List.replicate n d
  | 0 => rfl
  | n + 1 => by rw [List.replicate_succ, List.flatten_cons, flat_rep n]; rfl
theorem mulT {d : D} {n : Nat} (h : d.sh = true) (hn : 2 ≤ n) (hn2 : n ≤ 1000) : dMulB (.tup [d]) (.int n) = some (.tup (List.replicate n d)) := by
  have h1 : ¬ ((n : Int) = 1 ∧ D.shL [d] = true) := fun h => by omega
  have h2 : D.shL [d] = true ∧ [d] ≠ [] ∧ 2 ≤ (n : Int) ∧ (n : Int) ≤ 1000 ∧ [d].length ≤ 1000 := ⟨by simp [h], by simp, by omega, by omega, by simp⟩
  refine (if_neg h1).trans ((if_pos h2).trans ?_)
  rw [Int.toNat_natCast, flat_rep]
theorem mulL {o : Bool} {d : D} {n : Nat} (h : d.sh = true) (hn : n ≤ 1000000) : dMulB (.lst o [d]) (.int n) = some (.lst true (List.replicate n d)) := by
  have h2 : D.shL [d] = true ∧ -(2 ^ 63) ≤ (n : Int) ∧ (n : Int) < 2 ^ 63 ∧ [d].length * (n : Int).toNat ≤ sizeLine := ⟨by simp [h], by omega, by omega, by simp; omega⟩
  refine (if_pos h2).trans ?_
  rw [Int.toNat_natCast, flat_rep]
theorem forS_cons {i : Nat} {d : D} {ds : List D} {B : DL.Env → SR} {r : DL.Env} (h : i < r.length) : forL (setG i) B (d :: ds) r = (B (r.set i (some d))).loop (forL (setG i) B ds) := forL_cons (setG_lt h)
/-- a slot that holds nothing, or what is shared -/
def shX (x : Option D) : Prop := ∀ d, x = some d → d.sh = true
theorem shX_none : shX none := fun _ h => nomatch h
theorem shX_some {d : D} (h : d.sh = true) : shX (some d) := fun e he => by cases he; exact h
@[simp] theorem resE_x {r1 r : DL.Env} {v : Nat} {vs : List Nat} {x : Option D} (h : r1[v]? = some x) (hs : shX x) (hn : (resE r1 r vs)[v]? = some none) : resE r1 r (v :: vs) = (resE r1 r vs).set v x := by
  cases x with
  | none => rw [resE_none h, set_same hn]
  | some d => exact resE_some h (hs d rfl)
end
end DL

/-! DSim4: the order of tuples; the least and the greatest of a list. -/
namespace DL
open PySem PySem.Spec PyProof.Rows L2
section
variable {a b : D} {x y : List D} {i j : Int}
theorem ltb_tup : D.ltb (.tup x) (.tup y) = PySem.W.rowLt (D.pyL x) (D.pyL y) := by
  unfold D.ltb; rw [D.py, D.py, PySem.W.dataLt_tuple]; rfl
theorem ltb_lst {o o' : Bool} : D.ltb (.lst o x) (.lst o' y) = PySem.W.rowLt (D.pyL x) (D.pyL y) := by
  unfold D.ltb; rw [D.py, D.py, PySem.W.dataLt_list]; rfl
theorem alk_tup : D.alk (.tup x) (.tup y) = PySem.W.alikeAll (D.pyL x) (D.pyL y) := by
  unfold D.alk; rw [D.py, D.py, PySem.W.alike]
theorem alk_lst {o o' : Bool} : D.alk (.lst o x) (.lst o' y) = PySem.W.alikeAll (D.pyL x) (D.pyL y) := by
  unfold D.alk; rw [D.py, D.py, PySem.W.alike]
@[simp] theorem alk_int : D.alk (.int i) (.int j) = true := by unfold D.alk; simp [D.py, PySem.W.alike]
@[simp] theorem ltb_int : D.ltb (.int i) (.int j) = decide (i < j) := by unfold D.ltb; rw [D.py, D.py, PySem.W.dataLt_int]
@[simp] theorem alk_tup_nil : D.alk (.tup []) (.tup y) = true := by rw [alk_tup]; simp [D.pyL, PySem.W.alikeAll]
@[simp] theorem alk_tup_nil' : D.alk (.tup x) (.tup []) = true := by rw [alk_tup]; cases x <;> simp [D.pyL, PySem.W.alikeAll]
@[simp] theorem alk_tup_cons : D.alk (.tup (a :: x)) (.tup (b :: y)) = (D.alk a b && D.alk (.tup x) (.tup y)) := by
  rw [alk_tup, alk_tup, D.pyL, D.pyL, PySem.W.alikeAll]; rfl
theorem ltb_tup_cons (h : D.alk a b = true) : D.ltb (.tup (a :: x)) (.tup (b :: y)) = if PyData.eqv a.py b.py = true then D.ltb (.tup x) (.tup y) else D.ltb a b := by
  rw [ltb_tup, ltb_tup]
  unfold PySem.W.rowLt
  rw [D.pyL, D.pyL, PySem.W.dataLt_cons h]
  rfl
@[simp] theorem ltb_tup_int : D.ltb (.tup (.int i :: x)) (.tup (.int j :: y)) = if i = j then D.ltb (.tup x) (.tup y) else decide (i < j) := by
  rw [ltb_tup_cons alk_int, ltb_int]
  have : PyData.eqv (D.int i).py (D.int j).py = (i == j) := by simp [D.py, PyData.eqv]
  rw [this]
  by_cases h : i = j <;> simp [h]
end
def minF {α : Type} (lt : α → α → Bool) (x : α) (xs : List α) : α := xs.foldl (fun a y => if lt y a = true then y else a) x
theorem minF_mem {α : Type} {lt : α → α → Bool} : ∀ {xs : List α} {x : α}, minF lt x xs ∈ x :: xs
  | [], x => by simp [minF]
  | y :: xs, x => by
    have : minF lt x (y :: xs) = minF lt (if lt y x = true then y else x) xs := rfl
    rw [this]
    have h := minF_mem (lt := lt) (xs := xs) (x := if lt y x = true then y else x)
    rcases List.mem_cons.mp h with h | h
    · rw [h]; split <;> simp
    · simp [h]
theorem minF_le {α : Type} {lt : α → α → Bool} {v : α → Int} (h1 : ∀ a b, lt a b = true → v a ≤ v b) (h2 : ∀ a b, lt a b = false → v b ≤ v a) : ∀ {xs : List α} {x : α}, ∀ y ∈ x :: xs, v (minF lt x xs) ≤ v y
  | [], x, y, hy => by obtain rfl := List.mem_singleton.mp hy; exact Int.le_refl _
  | z :: xs, x, y, hy => by
    have e : minF lt x (z :: xs) = minF lt (if lt z x = true then z else x) xs := rfl
    rw [e]
    have ih := fun y hy => minF_le h1 h2 (xs := xs) (x := if lt z x = true then z else x) y hy
    have i0 := ih _ (List.mem_cons_self ..)
    cases hz : lt z x with
    | true =>
      rw [hz] at i0 ih
      simp only [if_true] at i0 ih ⊢
      rcases List.mem_cons.mp hy with rfl | hy
      · exact Int.le_trans i0 (h1 _ _ hz)
      · rcases List.mem_cons.mp hy with rfl | hy
        · exact i0
        · exact ih y (List.mem_cons_of_mem _ hy)
    | false =>
      rw [hz] at i0 ih
      simp only [Bool.false_eq_true, if_false] at i0 ih ⊢
      rcases List.mem_cons.mp hy with rfl | hy
      · exact i0
      · rcases List.mem_cons.mp hy with rfl | hy
        · exact Int.le_trans i0 (h2 _ _ hz)
        · exact ih y (List.mem_cons_of_mem _ hy)
theorem best_map {α : Type} {g : α → D} {f : D → D → Bool} {lt : α → α → Bool} {x : α} {xs : List α} (hl : ∀ a b, f (g a) (g b) = lt a b) : bestD f ((x :: xs).map g) = some (g (minF lt x xs)) := by
  rw [List.map_cons]
  show some _ = _
  congr 1
  unfold minF
  induction xs generalizing x with
  | nil => rfl
  | cons z xs ih =>
    rw [List.map_cons, List.foldl_cons, List.foldl_cons, hl]
    cases lt z x with
    | true => exact ih
    | false => exact ih
theorem allOrd_map {α : Type} {g : α → D} {l : List α} (hn : ∀ a ∈ l, (g a).notN = true) (ha : ∀ a ∈ l, ∀ b ∈ l, D.alk (g a) (g b) = true) : allOrd (l.map g) = true := by
  unfold allOrd
  rw [List.all_eq_true]
  intro a ha'
  obtain ⟨y, hy, rfl⟩ := List.mem_map.mp ha'
  rw [Bool.and_eq_true, List.all_eq_true]
  refine ⟨hn y hy, fun b hb => ?_⟩
  obtain ⟨z, hz, rfl⟩ := List.mem_map.mp hb
  exact ha y hy z hz
/-- the least of a list of tuples -/
theorem minA_map {α : Type} {o : Bool} {g : α → D} {lt : α → α → Bool} {x : α} {xs : List α} (hs : ∀ a, (g a).sh = true) (hd : ∀ a, (g a).dep ≤ 60) (hx : ∃ t, g x = .tup t) (hn : ∀ a, (g a).notN = true)
    (ha : ∀ a ∈ x :: xs, ∀ b ∈ x :: xs, D.alk (g a) (g b) = true) (hl : ∀ a b, D.ltb (g a) (g b) = lt a b) : dMinA [.lst o ((x :: xs).map g)] = some (g (minF lt x xs)) := by
  obtain ⟨t, ht⟩ := hx
  have h1 : dMinL [.lst o ((x :: xs).map g)] = none := by rw [List.map_cons, ht]; rfl
  unfold dMinA
  rw [h1]
  unfold dBestD
  dsimp only [Option.or]
  rw [if_pos ⟨shL_map fun a _ => hs a, depL_le fun d hd' => by obtain ⟨a, _, rfl⟩ := List.mem_map.mp hd'; exact hd a, allOrd_map (fun a _ => hn a) ha⟩]
  exact best_map hl
theorem maxA_map {α : Type} {o : Bool} {g : α → D} {lt : α → α → Bool} {x : α} {xs : List α} (hs : ∀ a, (g a).sh = true) (hd : ∀ a, (g a).dep ≤ 60) (hx : ∃ t, g x = .tup t) (hn : ∀ a, (g a).notN = true)
    (ha : ∀ a ∈ x :: xs, ∀ b ∈ x :: xs, D.alk (g a) (g b) = true) (hl : ∀ a b, D.ltb (g b) (g a) = lt a b) : dMaxA [.lst o ((x :: xs).map g)] = some (g (minF lt x xs)) := by
  obtain ⟨t, ht⟩ := hx
  have h1 : dMaxL [.lst o ((x :: xs).map g)] = none := by rw [List.map_cons, ht]; rfl
  unfold dMaxA
  rw [h1]
  unfold dBestD
  dsimp only [Option.or]
  rw [if_pos ⟨shL_map fun a _ => hs a, depL_le fun d hd' => by obtain ⟨a, _, rfl⟩ := List.mem_map.mp hd'; exact hd a, allOrd_map (fun a _ => hn a) ha⟩]
  exact best_map hl
end DL

/-! DSim5: tuples of ints: their order, sorted rows of them, the least. -/
namespace DL
open PySem PySem.Spec PyProof.Rows L2
def enZ (x : List Int) : D := .tup (x.map .int)
@[simp] theorem sh_enZ {x : List Int} : (enZ x).sh = true := by simp [enZ]
@[simp] theorem shL_enZ {l : List (List Int)} : D.shL (l.map enZ) = true := shL_map fun _ _ => sh_enZ
def ltZ : List Int → List Int → Bool
  | [], [] => false
  | [], _ :: _ => true
  | _ :: _, [] => false
  | a :: x, b :: y => decide (a < b) || (decide (a = b) && ltZ x y)
theorem ltZ_irr : ∀ {x : List Int}, ltZ x x = false
  | [] => rfl
  | a :: x => by simp [ltZ, ltZ_irr]
theorem ltZ_tri : ∀ {x y : List Int}, ltZ x y = false → ltZ y x = false → x = y
  | [], [], _, _ => rfl
  | [], _ :: _, h, _ => by simp [ltZ] at h
  | _ :: _, [], _, h => by simp [ltZ] at h
  | a :: x, b :: y, h1, h2 => by
    simp only [ltZ, Bool.or_eq_false_iff, Bool.and_eq_false_iff, decide_eq_false_iff_not] at h1 h2
    obtain rfl : a = b := by omega
    have := ltZ_tri (x := x) (y := y) (by simpa using h1.2) (by simpa using h2.2)
    rw [this]
theorem ltZ_tot : ∀ {x y : List Int}, ltZ x y = true → ltZ y x = false
  | [], [], h => by simp [ltZ] at h
  | [], _ :: _, _ => rfl
  | _ :: _, [], h => by simp [ltZ] at h
  | a :: x, b :: y, h => by
    simp only [ltZ, Bool.or_eq_true, Bool.and_eq_true, decide_eq_true_eq] at h
    simp only [ltZ, Bool.or_eq_false_iff, Bool.and_eq_false_iff, decide_eq_false_iff_not]
    rcases h with h | ⟨h, h'⟩
    · exact ⟨by omega, .inl (by omega)⟩
    · exact ⟨by omega, .inr (ltZ_tot h')⟩
theorem ltZ_trans : ∀ {x y z : List Int}, ltZ y x = false → ltZ z y = false → ltZ z x = false
  | [], _, z, _, _ => by cases z <;> rfl
  | a :: x, [], _, h, _ => by simp [ltZ] at h
  | _ :: _, _ :: _, [], _, h => by simp [ltZ] at h
  | a :: x, b :: y, c :: z, h1, h2 => by
    simp only [ltZ, Bool.or_eq_false_iff, Bool.and_eq_false_iff, decide_eq_false_iff_not] at h1 h2 ⊢
    refine ⟨by omega, ?_⟩
    by_cases e : c = a
    · right
      have e1 : b = a := by omega
      have e2 : c = b := by omega
      exact ltZ_trans (x := x) (y := y) (z := z) (by rcases h1.2 with h | h; exact absurd e1 h; exact h) (by rcases h2.2 with h | h; exact absurd e2 h; exact h)
    · exact .inl e
def leZ (x y : List Int) : Bool := !ltZ y x
theorem sorted_oneZ : ∀ {l m : List (List Int)}, l.Perm m → l.Pairwise (fun x y => leZ x y = true) → m.Pairwise (fun x y => leZ x y = true) → l = m
  | [], m, p, _, _ => (List.nil_perm.mp p).symm
  | x :: l, [], p, _, _ => by have := p.length_eq; simp at this
  | x :: l, y :: m, p, h1, h2 => by
    have hx : x ∈ y :: m := p.subset (by simp)
    have hy : y ∈ x :: l := p.symm.subset (by simp)
    have e : x = y := by
      rcases List.mem_cons.mp hx with e | hx
      · exact e
      · rcases List.mem_cons.mp hy with e | hy
        · exact e.symm
        · have a1 := (List.pairwise_cons.mp h1).1 y hy
          have a2 := (List.pairwise_cons.mp h2).1 x hx
          simp only [leZ, Bool.not_eq_true'] at a1 a2
          exact ltZ_tri a2 a1
    subst e
    rw [sorted_oneZ (List.Perm.cons_inv p) (List.pairwise_cons.mp h1).2 (List.pairwise_cons.mp h2).2]
def srtZ (l : List (List Int)) : List (List Int) := l.mergeSort leZ
theorem srtZ_pair (l : List (List Int)) : (srtZ l).Pairwise (fun x y => leZ x y = true) := by
  refine List.pairwise_mergeSort (fun a b c h1 h2 => ?_) (fun a b => ?_) l
  · simp only [leZ, Bool.not_eq_true'] at h1 h2 ⊢
    exact ltZ_trans h1 h2
  · simp only [leZ, Bool.or_eq_true, Bool.not_eq_true']
    cases e : ltZ b a with
    | false => exact .inl rfl
    | true => exact .inr (ltZ_tot e)
theorem srtZ_perm' (l : List (List Int)) : (srtZ l).Perm l := List.mergeSort_perm l leZ
theorem srtZ_perm {l m : List (List Int)} (p : l.Perm m) : srtZ l = srtZ m :=
  sorted_oneZ (((List.mergeSort_perm l leZ).trans p).trans (List.mergeSort_perm m leZ).symm) (srtZ_pair l) (srtZ_pair m)
/-! as data -/
theorem rowLt_ints : ∀ {x y : List Int}, PySem.W.rowLt (D.pyL (x.map D.int)) (D.pyL (y.map D.int)) = ltZ x y
  | [], [] => PyProof.Rows.lex_irrefl _
  | [], _ :: _ => rfl
  | _ :: _, [] => rfl
  | a :: x, b :: y => by
    have ih := rowLt_ints (x := x) (y := y)
    unfold PySem.W.rowLt at ih ⊢
    rw [List.map_cons, List.map_cons, D.pyL, D.pyL, PySem.W.dataLt_cons (by simp [D.py, PySem.W.alike]), ih]
    simp only [D.py, PyData.eqv, PySem.W.dataLt_int, ltZ]
    by_cases h1 : a = b
    · subst h1; simp
    · by_cases h2 : a < b <;> simp [h1, h2]
theorem alk_ints : ∀ {x y : List Int}, PySem.W.alikeAll (D.pyL (x.map D.int)) (D.pyL (y.map D.int)) = true
  | [], y => by simp [D.pyL, PySem.W.alikeAll]
  | a :: x, [] => by simp [D.pyL, PySem.W.alikeAll]
  | a :: x, b :: y => by
    rw [List.map_cons, List.map_cons, D.pyL, D.pyL, PySem.W.alikeAll, alk_ints]
    simp [D.py, PySem.W.alike]
theorem ltb_enZ {x y : List Int} : D.ltb (enZ x) (enZ y) = ltZ x y := by unfold enZ; rw [ltb_tup]; exact rowLt_ints
theorem alk_enZ {x y : List Int} : D.alk (enZ x) (enZ y) = true := by unfold enZ; rw [alk_tup]; exact alk_ints
theorem ltb_lstZ {x y : List Int} {o o' : Bool} : D.ltb (.lst o (x.map D.int)) (.lst o' (y.map D.int)) = ltZ x y := by rw [ltb_lst]; exact rowLt_ints
theorem alk_lstZ {x y : List Int} {o o' : Bool} : D.alk (.lst o (x.map D.int)) (.lst o' (y.map D.int)) = true := by rw [alk_lst]; exact alk_ints
theorem dep_enZ {x : List Int} : (enZ x).dep = 1 := by simp [enZ]
theorem depL_enZ {l : List (List Int)} : D.depL (l.map enZ) ≤ 1 := depL_le fun d hd => by
  obtain ⟨x, _, rfl⟩ := List.mem_map.mp hd
  rw [dep_enZ]; exact Nat.le_refl _
theorem sort_enZ {l : List (List Int)} {o : Bool} (h : ∀ w ∈ l, w ≠ []) : dSortA [.lst o (l.map enZ)] = some (.lst true ((srtZ l).map enZ)) := by
  cases l with
  | nil =>
    have : srtZ [] = [] := by unfold srtZ; simp
    rw [this]
    have h0 : srt [] = [] := List.perm_nil.mp (srt_perm [])
    show (dSorted [.lst o []]).or _ = _
    have : dSorted [.lst o []] = some (.lst true ((srt []).map .int)) := rfl
    rw [this, h0]
    rfl
  | cons w l =>
    have h1 : dSorted [.lst o ((w :: l).map enZ)] = none := by rw [List.map_cons]; rfl
    unfold dSortA
    rw [h1, Option.none_or]
    unfold dSortD
    dsimp only
    have h2 : allOrd ((w :: l).map enZ) = true := allOrd_map (fun _ _ => rfl) fun _ _ _ _ => alk_enZ
    have h3 : D.depL ((w :: l).map enZ) ≤ 60 := Nat.le_trans depL_enZ (by decide)
    have h4 : srtOk ((w :: l).map enZ) = true := by
      unfold srtOk
      rw [Bool.or_eq_true, List.all_eq_true]
      left
      intro a ha
      obtain ⟨y, hy, rfl⟩ := List.mem_map.mp ha
      cases y with
      | nil => exact absurd rfl (h [] hy)
      | cons v y => rfl
    rw [if_pos ⟨shL_enZ, h3, h2, h4⟩]
    congr 2
    unfold srtZ
    exact (List.map_mergeSort (fun x _ y _ => by unfold leZ D.leb; rw [ltb_enZ])).symm
theorem min_enZ {x : List Int} {xs : List (List Int)} {o : Bool} : dMinA [.lst o ((x :: xs).map enZ)] = some (enZ (minF ltZ x xs)) :=
  minA_map (fun _ => sh_enZ) (fun _ => by rw [dep_enZ]; decide) ⟨_, rfl⟩ (fun _ => rfl) (fun _ _ _ _ => alk_enZ) fun _ _ => ltb_enZ
theorem minZ_le : ∀ {xs : List (List Int)} {x : List Int}, ∀ y ∈ x :: xs, ltZ y (minF ltZ x xs) = false
  | [], x, y, hy => by obtain rfl := List.mem_singleton.mp hy; exact ltZ_irr
  | z :: xs, x, y, hy => by
    have e : minF ltZ x (z :: xs) = minF ltZ (if ltZ z x = true then z else x) xs := rfl
    rw [e]
    have ih := fun y hy => minZ_le (xs := xs) (x := if ltZ z x = true then z else x) y hy
    have i0 := ih _ (List.mem_cons_self ..)
    cases hz : ltZ z x with
    | true =>
      rw [hz] at i0 ih
      simp only [if_true] at i0 ih ⊢
      rcases List.mem_cons.mp hy with rfl | hy
      · exact ltZ_trans i0 (ltZ_tot hz)
      · rcases List.mem_cons.mp hy with rfl | hy
        · exact i0
        · exact ih y (List.mem_cons_of_mem _ hy)
    | false =>
      rw [hz] at i0 ih
      simp only [Bool.false_eq_true, if_false] at i0 ih ⊢
      rcases List.mem_cons.mp hy with rfl | hy
      · exact i0
      · rcases List.mem_cons.mp hy with rfl | hy
        · exact ltZ_trans i0 hz
        · exact ih y (List.mem_cons_of_mem _ hy)
/-- the first of the sorted row is the least -/
theorem srtZ_head {x : List Int} {xs : List (List Int)} : (srtZ (x :: xs))[0]? = some (minF ltZ x xs) := by
  have p := srtZ_perm' (x :: xs)
  have hp := srtZ_pair (x :: xs)
  cases h : srtZ (x :: xs) with
  | nil => rw [h] at p; have := p.length_eq; simp at this
  | cons a t =>
    rw [h] at p hp
    have ha : a ∈ x :: xs := p.subset (by simp)
    have hm : minF ltZ x xs ∈ a :: t := p.symm.subset minF_mem
    have h1 := minZ_le (xs := xs) (x := x) a ha
    show some a = some _
    congr 1
    rcases List.mem_cons.mp hm with e | hm
    · exact e.symm
    · have h2 := (List.pairwise_cons.mp hp).1 _ hm
      simp only [leZ, Bool.not_eq_true'] at h2
      exact ltZ_tri h1 h2
theorem dSortB_tup {ns : List Int} : dSortB [.tup (ns.map .int)] = some (.lst true ((srt ns).map .int)) := by
  show (Option.none.or _) = _
  show (intsOf _).map _ = _
  rw [intsOf_map]; rfl
end DL

/-! DSim6: rules for dicts. -/
namespace DL
open PySem PySem.Spec PyProof.Rows L2
section
variable {r r1 r2 : DL.Env} {i : Nat} {o o' t t' : Bool} {ks : List DKey} {ds es : List D} {k d x : D} {q : DKey} {vs : List Nat}
@[simp] theorem eDic_ap : eDic t r = .ok (.dic true t [] []) r := (rfl)
@[simp] theorem pDic_ap : pDic t r = .ok (.dic true t [] []) := (rfl)
@[simp] theorem dNeC_dic : dNeC (.dic o t ks ds) (.dic o' t' [] es) = some (.bl (!ks.isEmpty)) := (rfl)
@[simp] theorem dLenC_dic : dLenC [.dic o t ks ds] = some (.int ks.length) := by
  unfold dLenC dLenD
  cases t <;> rfl
@[simp] theorem dLenC_lst : dLenC [.lst o ds] = some (.int ds.length) := (rfl)
@[simp] theorem dLenC_tup : dLenC [.tup ds] = some (.int ds.length) := (rfl)
@[simp] theorem pIxD_ap {A B : EP} : pIxD A B r = (A r).bind fun x => (B r).bind fun y => opP (dIxD x) y := (rfl)
theorem dIxD_dic : dIxD (.dic o t ks ds) k = (dKey t k).bind (look ks ds) := (rfl)
@[simp] theorem dIxD_lst : dIxD (.lst o ds) k = dIx (.lst o ds) k := (rfl)
@[simp] theorem dIxD_tup : dIxD (.tup ds) k = dIx (.tup ds) k := (rfl)
theorem eLcD_ap {G : D → Env → Option Env} {T : BE} {E : EE} (h : r[i]? = some (some (.dic true t ks ds))) (hs : D.shL ds = true) :
    eLcD i G T E vs r = (lcL G T E vs (ks.map (keyD t)) [] (wipeE (r.set i none) vs)).bind (lcEd i t ks ds (r.set i none) vs) := by
  unfold eLcD
  rw [h]
  exact if_pos hs
theorem lcEd_ok {acc : List D} (h : (resE r1 r2 vs)[i]? = some none) : lcEd i t ks ds r1 vs acc r2 = .ok (.lst true acc) ((resE r1 r2 vs).set i (some (.dic true t ks ds))) := by
  unfold lcEd
  rw [h]
  rfl
theorem stA_dic (h : r[i]? = some (some (.dic true t ks ds))) (hd : d.sh = true) (hl : ks.length < sizeLine) (hk : dKey t k = some q) : stA i k d r = .nx (r.set i (some (.dic true t (putKs ks q) (putVs ks ds q d)))) := by
  unfold stA
  rw [h]
  dsimp only
  rw [if_pos hd]
  unfold newC
  dsimp only
  rw [if_pos hl, hk]
  rfl
@[simp] theorem hasS_some (h : r[i]? = some (some x)) : hasS i r = true := by unfold hasS; rw [h]
theorem sStA_ap {P : EP} {E : EE} : sStA i P E r = (E r).thn fun d r1 => if hasS i r1 = true then ((P r1).up r1).thn fun k r2 => stA i k d r2 else .stk := (rfl)
end
end DL

namespace Lw
open PySem PySem.Spec PyProof.Rows L2 DL
abbrev fuel : Nat := 1000000
def topS (i : Nat) : Stmt := PySem.Challenge.pw_packetsheld_k06_plans_judged_and_looked.main.body.getD i (.Pass ⟨0, 0, 0, 0⟩)
abbrev s__law_draws : Stmt := topS 15
abbrev N__law_draws : List Str := ["script", "draws", "cell", "seed", "k", "number", "first"]
theorem sc__law_draws : FnScope N__law_draws ["script"] (defScope s__law_draws) := ⟨rfl, rfl, rfl, by decide +kernel, rfl, by decide +kernel, by decide +kernel⟩
abbrev s__law_take : Stmt := topS 16
abbrev N__law_take : List Str := ["draws", "bound"]
theorem sc__law_take : FnScope N__law_take ["draws", "bound"] (defScope s__law_take) := ⟨rfl, rfl, rfl, by decide +kernel, rfl, by decide +kernel, by decide +kernel⟩
abbrev s__law_plan : Stmt := topS 19
abbrev N__law_plan : List Str := ["draws", "width", "most", "found", "exits", "turn", "length", "bits", "old", "one"]
theorem sc__law_plan : FnScope N__law_plan ["draws", "width", "most"] (defScope s__law_plan) := ⟨rfl, rfl, rfl, by decide +kernel, rfl, by decide +kernel, by decide +kernel⟩
abbrev s__law_exit : Stmt := topS 20
abbrev N__law_exit : List Str := ["width", "plan", "address", "best", "length", "bits", "way_out"]
theorem sc__law_exit : FnScope N__law_exit ["width", "plan", "address"] (defScope s__law_exit) := ⟨rfl, rfl, rfl, by decide +kernel, rfl, by decide +kernel, by decide +kernel⟩
abbrev s__law_exits : Stmt := topS 21
abbrev N__law_exits : List Str := ["width", "plan", "address"]
theorem sc__law_exits : FnScope N__law_exits ["width", "plan"] (defScope s__law_exits) := ⟨rfl, rfl, rfl, by decide +kernel, rfl, by decide +kernel, by decide +kernel⟩
abbrev s__law_alike : Stmt := topS 17
abbrev N__law_alike : List Str := ["found", "due", "k"]
theorem sc__law_alike : FnScope N__law_alike ["found", "due"] (defScope s__law_alike) := ⟨rfl, rfl, rfl, by decide +kernel, rfl, by decide +kernel, by decide +kernel⟩
abbrev s__law_says : Stmt := topS 18
abbrev N__law_says : List Str := ["told", "due"]
theorem sc__law_says : FnScope N__law_says ["told", "due"] (defScope s__law_says) := ⟨rfl, rfl, rfl, by decide +kernel, rfl, by decide +kernel, by decide +kernel⟩
abbrev s_is_number : Stmt := topS 1
abbrev N_is_number : List Str := ["value", "least", "most"]
theorem sc_is_number : FnScope N_is_number ["value", "least", "most"] (defScope s_is_number) := ⟨rfl, rfl, rfl, by decide +kernel, rfl, by decide +kernel, by decide +kernel⟩
abbrev s_is_prefix : Stmt := topS 3
abbrev N_is_prefix : List Str := ["width", "value"]
theorem sc_is_prefix : FnScope N_is_prefix ["width", "value"] (defScope s_is_prefix) := ⟨rfl, rfl, rfl, by decide +kernel, rfl, by decide +kernel, by decide +kernel⟩
abbrev s_is_exit : Stmt := topS 9
abbrev N_is_exit : List Str := ["value"]
theorem sc_is_exit : FnScope N_is_exit ["value"] (defScope s_is_exit) := ⟨rfl, rfl, rfl, by decide +kernel, rfl, by decide +kernel, by decide +kernel⟩
abbrev s_is_plan : Stmt := topS 10
abbrev N_is_plan : List Str := ["width", "value", "row", "at"]
theorem sc_is_plan : FnScope N_is_plan ["width", "value"] (defScope s_is_plan) := ⟨rfl, rfl, rfl, by decide +kernel, rfl, by decide +kernel, by decide +kernel⟩
abbrev s_covers : Stmt := topS 4
abbrev N_covers : List Str := ["width", "prefix", "address", "length", "bits"]
theorem sc_covers : FnScope N_covers ["width", "prefix", "address"] (defScope s_covers) := ⟨rfl, rfl, rfl, by decide +kernel, rfl, by decide +kernel, by decide +kernel⟩
abbrev s_exit_of : Stmt := topS 11
abbrev N_exit_of : List Str := ["width", "plan", "address", "found", "length", "bits", "way_out"]
theorem sc_exit_of : FnScope N_exit_of ["width", "plan", "address"] (defScope s_exit_of) := ⟨rfl, rfl, rfl, by decide +kernel, rfl, by decide +kernel, by decide +kernel⟩
abbrev s_ends : Stmt := topS 5
abbrev N_ends : List Str := ["width", "prefix", "length", "bits"]
theorem sc_ends : FnScope N_ends ["width", "prefix"] (defScope s_ends) := ⟨rfl, rfl, rfl, by decide +kernel, rfl, by decide +kernel, by decide +kernel⟩
abbrev s_borders : Stmt := topS 12
abbrev N_borders : List Str := ["width", "plans", "found", "plan", "length", "bits", "_", "first", "last", "one"]
theorem sc_borders : FnScope N_borders ["width", "plans"] (defScope s_borders) := ⟨rfl, rfl, rfl, by decide +kernel, rfl, by decide +kernel, by decide +kernel⟩
abbrev s_spread : Stmt := topS 13
abbrev N_spread : List Str := ["width", "plan", "found", "marks", "at", "way_out"]
theorem sc_spread : FnScope N_spread ["width", "plan"] (defScope s_spread) := ⟨rfl, rfl, rfl, by decide +kernel, rfl, by decide +kernel, by decide +kernel⟩
abbrev s_law : Stmt := topS 22
abbrev N_law : List Str := ["script", "draws", "width", "plan", "exits", "address", "due", "odd", "at", "row", "value", "length", "bits", "way_out", "number"]
theorem sc_law : FnScope N_law ["script"] (defScope s_law) := ⟨rfl, rfl, rfl, by decide +kernel, rfl, by decide +kernel, by decide +kernel⟩
/-! ### the data functions -/
def b__law_draws : DL.Env → SR := (sSeq (sSet 1 (eLst aNil))
    (sSeq (sFor (iSq (eV 0)) (setG 2) (sSeq (sSet 5 (epCB dAbs (paCons (getP 2) paNil)))
    (sSeq (sIf (tUp (bP (pOp dLtA (getP 5) (pOp dPow (pC (.int 10)) (pC (.int 18)))))) (sSeq (sSet 6 (eUp (pOp dMod (pCB dInt (paCons (pOp dAdd (pOp dMulB (getP 5) (pC (.int 48271))) (pC (.int 11))) paNil)) (pC (.int 2147483647)))))
    (sSeq (sExpr (eApp 1 (eUp (pOp dMod (pCB dInt (paCons (pOp dAdd (pOp dMulB (getP 6) (pC (.int 69621))) (getP 5)) paNil)) (pC (.int 2147483629))))))
    (sSeq (sExpr (eApp 1 (eUp (pOp dMod (pCB dInt (paCons (pOp dAdd (getP 6) (pOp dFdiv (getP 5) (pC (.int 7)))) paNil)) (pC (.int 1000003))))))
    (sSet 5 (eSh (pC (.int 0))))))) (.nx))
    (sFor (iR1 (aCons (eSh (pC (.int 60))) aNil)) (setG 4) (sIf (tUp (bP (pOp dGtA (getP 5) (pC (.int 0))))) (sSeq (sExpr (eApp 1 (eUp (pOp dMod (pCB dInt (paCons (getP 5) paNil)) (pC (.int 997))))))
    (sSet 5 (eUp (pOp dFdiv (getP 5) (pC (.int 997)))))) (.nx))))))
    (sSeq (sSet 3 (eSh (pC (.int 1))))
    (sSeq (sIf (tUp (bP (pOp dGtA (pCB dLen (paCons (getP 0) paNil)) (pC (.int 0))))) (sSet 3 (eUp (pOp dAdd (pC (.int 1)) (pCB dAbs (paCons (pIx (getP 0) (pC (.int 0))) paNil))))) (.nx))
    (sSeq (sFor (iR1 (aCons (eSh (pC (.int 900))) aNil)) (setG 4) (sSeq (sSet 3 (eUp (pOp dMod (pCB dInt (paCons (pOp dAdd (pOp dMulB (getP 3) (pC (.int 48271))) (pC (.int 69621))) paNil)) (pC (.int 2147483647)))))
    (sExpr (eApp 1 (eUp (pOp dFdiv (getP 3) (pC (.int 5))))))))
    (sRet (eRev (eUp (getP 1)))))))))
def m__law_draws (ds : List D) : PR D := outP (b__law_draws (startE 7 ds))
def b__law_take : DL.Env → SR := (sSeq (sIf (tUp (bP (pOp dEq (pCB dLen (paCons (getP 0) paNil)) (pC (.int 0))))) (sRet (eSh (pC (.int 0)))) (.nx))
    (sRet (eOp dMod (eCB dInt (aCons (popE 0) aNil)) (eV 1))))
def m__law_take (ds : List D) : MR := outM (b__law_take (startE 2 ds))
def b__law_plan : DL.Env → SR := (sSeq (sSet 3 (eDic true))
    (sSeq (sSet 4 (eOp dAdd (eSh (pC (.int 1))) (eCallM 2 m__law_take 0 (aCons (eSh (pC (.int 4))) aNil))))
    (sSeq (sFor (iR1 (aCons (eCallM 2 m__law_take 0 (aCons (eUp (pOp dAdd (getP 2) (pC (.int 1)))) aNil)) aNil)) (setG 5) (sSeq (sSet 6 (eCallM 2 m__law_take 0 (aCons (eUp (pOp dAdd (getP 1) (pC (.int 1)))) aNil)))
    (sSeq (sSet 7 (eCallM 2 m__law_take 0 (aCons (eUp (pOp dShl (pC (.int 1)) (getP 6))) aNil)))
    (sSeq (sIf (tAnd (tUp (bP (pOp dNeC (getP 3) (pDic false)))) (bE (eOp dEq (eCallM 2 m__law_take 0 (aCons (eSh (pC (.int 2))) aNil)) (eSh (pC (.int 0)))))) (sSeq (sSet 8 (eIx (eCB dSortA (aCons (eLcD 3 (setG 9) tYes (eV 9) [9]) aNil)) (eCallM 2 m__law_take 0 (aCons (epCB dLenC (paCons (getP 3) paNil)) aNil))))
    (sSeq (sSet 6 (eOp dAdd (eSh (pIx (getP 8) (pC (.int 0)))) (eCallM 2 m__law_take 0 (aCons (epCB dMin2 (paCons (pC (.int 3)) (paCons (pOp dAdd (pOp dSub (getP 1) (pIx (getP 8) (pC (.int 0)))) (pC (.int 1))) paNil))) aNil))))
    (sSet 7 (eOp dAdd (eUp (pOp dShl (pIx (getP 8) (pC (.int 1))) (pOp dSub (getP 6) (pIx (getP 8) (pC (.int 0)))))) (eCallM 2 m__law_take 0 (aCons (eUp (pOp dShl (pC (.int 1)) (pOp dSub (getP 6) (pIx (getP 8) (pC (.int 0)))))) aNil)))))) (.nx))
    (sStA 3 (pTup (paCons (getP 6) (paCons (getP 7) paNil))) (eIf (bE (eOp dEq (eCallM 2 m__law_take 0 (aCons (eSh (pC (.int 6))) aNil)) (eSh (pC (.int 0))))) (eSh (pC .non)) (eCallM 2 m__law_take 0 (aCons (eV 4) aNil))))))))
    (sRet (eCB dTuple (aCons (eLc (tupG 2 (consG (setG 6) (consG (setG 7) nilG))) tYes (eTup (aCons (eV 6) (aCons (eV 7) (aCons (eSh (pIxD (getP 3) (pTup (paCons (getP 6) (paCons (getP 7) paNil))))) aNil)))) [6, 7] (iSq (eCB dSortA (aCons (eLcD 3 (setG 9) tYes (eV 9) [9]) aNil)))) aNil))))))
def m__law_plan (ds : List D) : MR := outM (b__law_plan (startE 10 ds))
def b__law_exit : DL.Env → SR := (sSeq (sSet 3 (eTup (aCons (eSh (pUn dNeg (pC (.int 1)))) (aCons (eSh (pC .non)) aNil))))
    (sSeq (sFor (iSq (eV 1)) (tupG 3 (consG (setG 4) (consG (setG 5) (consG (setG 6) nilG)))) (sIf (tUp (tpAnd (bP (pOp dEq (pOp dFdiv (getP 2) (pOp dShl (pC (.int 1)) (pOp dSub (getP 0) (getP 4)))) (getP 5))) (bP (pOp dGtA (getP 4) (pIx (getP 3) (pC (.int 0))))))) (sSet 3 (eTup (aCons (eV 4) (aCons (eV 6) aNil)))) (.nx)))
    (sRet (eSh (pIx (getP 3) (pC (.int 1)))))))
def m__law_exit (ds : List D) : PR D := outP (b__law_exit (startE 7 ds))
def b__law_exits : DL.Env → SR := (sRet (eLc (setG 2) tYes (eUp (pCall 3 m__law_exit (paCons (getP 0) (paCons (getP 1) (paCons (getP 2) paNil))))) [2] (iR1 (aCons (eUp (pOp dShl (pC (.int 1)) (getP 0))) aNil))))
def m__law_exits (ds : List D) : PR D := outP (b__law_exits (startE 3 ds))
def b__law_alike (self : List D → PR D) : DL.Env → SR := (sSeq (sIf (tUp (tpOr (bP (pUn (dIsi .list) (getP 1))) (bP (pUn (dIsi .tuple) (getP 1))))) (sSeq (sIf (tUp (tpOr (bP (pOp dNe (pUn (dIsi .list) (getP 0)) (pUn (dIsi .list) (getP 1)))) (bP (pOp dNe (pUn (dIsi .tuple) (getP 0)) (pUn (dIsi .tuple) (getP 1)))))) (sRet (eSh (pC (.bl false)))) (.nx))
    (sRet (eAnd (eSh (pOp dEq (pCB dLen (paCons (getP 0) paNil)) (pCB dLen (paCons (getP 1) paNil)))) (eOp dEq (eLc (setG 2) (tUp (tpNot (bP (pCall 2 self (paCons (pIx (getP 0) (getP 2)) (paCons (pIx (getP 1) (getP 2)) paNil)))))) (eV 2) [2] (iR1 (aCons (epCB dLen (paCons (getP 1) paNil)) aNil))) (eLst aNil))))) (.nx))
    (sSeq (sIf (tUp (bP (pOp dIsN (getP 1) (pC .non)))) (sRet (eSh (pOp dIsN (getP 0) (pC .non)))) (.nx))
    (sSeq (sIf (tUp (tpOr (bP (pUn (dIsi .bool) (getP 1))) (bP (pUn (dIsi .bool) (getP 0))))) (sRet (eSh (pAnd (pUn (dIsi .bool) (getP 0)) (pAnd (pUn (dIsi .bool) (getP 1)) (pOp dEq (getP 0) (getP 1)))))) (.nx))
    (sSeq (sIf (tUp (bP (pUn (dIsi .int) (getP 1)))) (sRet (eSh (pAnd (pUn (dIsi .int) (getP 0)) (pOp dEq (getP 0) (getP 1))))) (.nx))
    (sRet (eSh (pAnd (pUn (dIsi .str) (getP 0)) (pOp dEq (getP 0) (getP 1)))))))))
def m__law_alike : Nat → List D → PR D
  | 0, _ => .stk
  | k + 1, ds => outP (b__law_alike (m__law_alike k) (startE 3 ds))
def b__law_says : DL.Env → SR := (sRet (eSh (pAnd (pUn (dIsi .bool) (getP 0)) (pOp dEq (getP 0) (getP 1)))))
def m__law_says (ds : List D) : PR D := outP (b__law_says (startE 2 ds))
def b_is_number : DL.Env → SR := (sRet (eSh (pAnd (pUn (dIsi .int) (getP 0)) (pAnd (pNot (pUn (dIsi .bool) (getP 0))) (chP dLeA dLeA (getP 1) (getP 0) (getP 2))))))
def m_is_number (ds : List D) : PR D := outP (b_is_number (startE 3 ds))
def b_is_prefix : DL.Env → SR := (sSeq (sIf (tUp (tpOr (tpNot (bP (pUn (dIsi .tuple) (getP 1)))) (tpOr (bP (pOp dNe (pCB dLen (paCons (getP 1) paNil)) (pC (.int 2)))) (tpNot (bP (pCall 3 m_is_number (paCons (pIx (getP 1) (pC (.int 0))) (paCons (pC (.int 0)) (paCons (getP 0) paNil))))))))) (sRet (eSh (pC (.bl false)))) (.nx))
    (sRet (eUp (pCall 3 m_is_number (paCons (pIx (getP 1) (pC (.int 1))) (paCons (pC (.int 0)) (paCons (pOp dSub (pOp dShl (pC (.int 1)) (pIx (getP 1) (pC (.int 0)))) (pC (.int 1))) paNil)))))))
def m_is_prefix (ds : List D) : PR D := outP (b_is_prefix (startE 2 ds))
def b_is_exit : DL.Env → SR := (sRet (eSh (pOr (pOp dIsN (getP 0) (pC .non)) (pCall 3 m_is_number (paCons (getP 0) (paCons (pC (.int 0)) (paCons (pC (.int 99)) paNil)))))))
def m_is_exit (ds : List D) : PR D := outP (b_is_exit (startE 1 ds))
def b_is_plan : DL.Env → SR := (sSeq (sIf (tUp (tpOr (tpNot (bP (pUn (dIsi .tuple) (getP 1)))) (bP (pOp dGtA (pCB dLen (paCons (getP 1) paNil)) (pC (.int 60)))))) (sRet (eSh (pC (.bl false)))) (.nx))
    (sSeq (sFor (iSq (eV 1)) (setG 2) (sIf (tUp (tpOr (tpNot (bP (pUn (dIsi .tuple) (getP 2)))) (tpOr (bP (pOp dNe (pCB dLen (paCons (getP 2) paNil)) (pC (.int 3)))) (tpOr (tpNot (bP (pCall 2 m_is_prefix (paCons (getP 0) (paCons (pSl (getP 2) oNo (oSome (pC (.int 2)))) paNil))))) (tpNot (bP (pCall 1 m_is_exit (paCons (pIx (getP 2) (pC (.int 2))) paNil)))))))) (sRet (eSh (pC (.bl false)))) (.nx)))
    (sRet (eAA true (setG 3) tYes (eSh (pOp dLtA (pSl (pIx (getP 1) (pOp dSub (getP 3) (pC (.int 1)))) oNo (oSome (pC (.int 2)))) (pSl (pIx (getP 1) (getP 3)) oNo (oSome (pC (.int 2)))))) [3] (iR2 (aCons (eSh (pC (.int 1))) (aCons (epCB dLen (paCons (getP 1) paNil)) aNil)))))))
def m_is_plan (ds : List D) : PR D := outP (b_is_plan (startE 4 ds))
def b_covers : DL.Env → SR := (sSeq (sAsg (tupG 2 (consG (setG 3) (consG (setG 4) nilG))) (eV 1))
    (sRet (eSh (pOp dEq (pOp dShr (getP 2) (pOp dSub (getP 0) (getP 3))) (getP 4)))))
def m_covers (ds : List D) : PR D := outP (b_covers (startE 5 ds))
def b_exit_of : DL.Env → SR := (sSeq (sSet 3 (eSh (pC .non)))
    (sSeq (sFor (iSq (eV 1)) (tupG 3 (consG (setG 4) (consG (setG 5) (consG (setG 6) nilG)))) (sIf (tUp (bP (pCall 3 m_covers (paCons (getP 0) (paCons (pTup (paCons (getP 4) (paCons (getP 5) paNil))) (paCons (getP 2) paNil)))))) (sSet 3 (eV 6)) (.nx)))
    (sRet (takeE 3))))
def m_exit_of (ds : List D) : PR D := outP (b_exit_of (startE 7 ds))
def b_ends : DL.Env → SR := (sSeq (sAsg (tupG 2 (consG (setG 2) (consG (setG 3) nilG))) (eV 1))
    (sRet (eTup (aCons (eUp (pOp dShl (getP 3) (pOp dSub (getP 0) (getP 2)))) (aCons (eUp (pOp dSub (pOp dShl (pOp dAdd (getP 3) (pC (.int 1))) (pOp dSub (getP 0) (getP 2))) (pC (.int 1)))) aNil)))))
def m_ends (ds : List D) : PR D := outP (b_ends (startE 4 ds))
def b_borders : DL.Env → SR := (sSeq (sSet 2 (eLst (aCons (eSh (pC (.int 0))) aNil)))
    (sSeq (sFor (iSq (eV 1)) (setG 3) (sFor (iSq (eV 3)) (tupG 3 (consG (setG 4) (consG (setG 5) (consG (setG 6) nilG)))) (sSeq (sAsg (tupG 2 (consG (setG 7) (consG (setG 8) nilG))) (eUp (pCall 2 m_ends (paCons (getP 0) (paCons (pTup (paCons (getP 4) (paCons (getP 5) paNil))) paNil)))))
    (sExpr (eExt 2 (eLst (aCons (eV 7) (aCons (eUp (pOp dAdd (getP 8) (pC (.int 1)))) aNil))))))))
    (sRet (eSrtS (setG 9) (tUp (bP (pOp dLtA (getP 9) (pOp dShl (pC (.int 1)) (getP 0))))) (eV 9) [9] (iSq (eV 2))))))
def m_borders (ds : List D) : PR D := outP (b_borders (startE 10 ds))
def b_spread : DL.Env → SR := (sSeq (sSet 2 (eLst aNil))
    (sSeq (sSet 3 (eLst (aStar (eUp (pCall 2 m_borders (paCons (getP 0) (paCons (pLsF (paCons (getP 1) paNil)) paNil)))) (aCons (eUp (pOp dShl (pC (.int 1)) (getP 0))) aNil))))
    (sSeq (sFor (iR1 (aCons (eUp (pOp dSub (pCB dLen (paCons (getP 3) paNil)) (pC (.int 1)))) aNil)) (setG 4) (sSeq (sSet 5 (eUp (pCall 3 m_exit_of (paCons (getP 0) (paCons (getP 1) (paCons (pIx (getP 3) (getP 4)) paNil))))))
    (sIf (tUp (tpAnd (bP (pOp dGtA (pCB dLen (paCons (getP 2) paNil)) (pC (.int 0)))) (bP (pOp dEq (pIx (pIx (getP 2) (pUn dNeg (pC (.int 1)))) (pC (.int 2))) (getP 5))))) (sStr 2 (pUn dNeg (pC (.int 1))) (eTup (aCons (eSh (pIx (pIx (getP 2) (pUn dNeg (pC (.int 1)))) (pC (.int 0)))) (aCons (eUp (pOp dSub (pIx (getP 3) (pOp dAdd (getP 4) (pC (.int 1)))) (pC (.int 1)))) (aCons (eV 5) aNil))))) (sExpr (eApp 2 (eTup (aCons (eSh (pIx (getP 3) (getP 4))) (aCons (eUp (pOp dSub (pIx (getP 3) (pOp dAdd (getP 4) (pC (.int 1)))) (pC (.int 1)))) (aCons (eV 5) aNil)))))))))
    (sRet (epCB dTuple (paCons (getP 2) paNil))))))
def m_spread (ds : List D) : PR D := outP (b_spread (startE 6 ds))
def t11 : DL.Env → SR := (sRet (eAnd (eOp dEq (eLc (setG 10) (tNot (bE (eCall 2 m__law_says (aCons (eCall 2 m_is_plan (aCons (eV 2) (aCons (eV 10) aNil))) (aCons (eSh (pC (.bl false))) aNil))))) (eV 10) [10] (iSq (eV 7))) (eLst aNil)) (eOp dIsB (eCall 2 m_is_plan (aCons (eSh (pC (.int 16))) (aCons (eCB dTuple (aCons (eLc (setG 14) tYes (eTup (aCons (eSh (pC (.int 16))) (aCons (eV 14) (aCons (eSh (pC (.int 99))) aNil)))) [14] (iR1 (aCons (eSh (pC (.int 60))) aNil))) aNil)) aNil))) (eSh (pC (.bl true))))))
def t10 : DL.Env → SR := (sSeq (sIf (tUp (bP (pOp dGtA (pCB dLen (paCons (getP 3) paNil)) (pC (.int 1))))) (sExpr (eApp 7 (eRevT (eV 3)))) (.nx)) t11)
def t9 : DL.Env → SR := (sSeq (sIf (tUp (bP (pOp dNe (getP 3) (pTup paNil)))) (sSeq (sSet 8 (eCallM 2 m__law_take 1 (aCons (epCB dLen (paCons (getP 3) paNil)) aNil)))
    (sSeq (sAsg (tupG 3 (consG (setG 11) (consG (setG 12) (consG (setG 13) nilG)))) (eSh (pIx (getP 3) (getP 8))))
    (sSeq (sExpr (eApp 7 (eUp (pOp dAdd (pOp dAdd (pSl (getP 3) oNo (oSome (getP 8))) (pTup (paCons (pIx (getP 3) (getP 8)) paNil))) (pSl (getP 3) (oSome (getP 8)) oNo)))))
    (sSeq (sFor (iSq (eFz (eLst (aCons (eSh (pC .non)) (aCons (eLst (aCons (eV 11) (aCons (eV 12) (aCons (eV 13) aNil)))) (aCons (eTup (aCons (eV 11) (aCons (eV 12) aNil))) (aCons (eTup (aCons (eV 11) (aCons (eV 12) (aCons (eV 13) (aCons (eSh (pC (.int 0))) aNil))))) (aCons (eTup (aCons (eUp (pOp dAdd (getP 2) (pC (.int 1)))) (aCons (eSh (pC (.int 0))) (aCons (eV 13) aNil)))) (aCons (eTup (aCons (eV 11) (aCons (eUp (pOp dShl (pC (.int 1)) (getP 11))) (aCons (eV 13) aNil)))) (aCons (eTup (aCons (eV 11) (aCons (eSh (pUn dNeg (pC (.int 1)))) (aCons (eV 13) aNil)))) aNil)))))))))) (setG 9) (sExpr (eApp 7 (eUp (pOp dAdd (pOp dAdd (pSl (getP 3) oNo (oSome (getP 8))) (pTup (paCons (getP 9) paNil))) (pSl (getP 3) (oSome (pOp dAdd (getP 8) (pC (.int 1)))) oNo))))))
    (sFor (iSq (eLst (aCons (eSh (pC (.int 100))) (aCons (eSh (pUn dNeg (pC (.int 1)))) (aCons (eSh (pC (.bl true))) (aCons (eSh (pC (.str "1"))) (aCons (eTup (aCons (eSh (pC (.int 1))) aNil)) aNil))))))) (setG 10) (sExpr (eApp 7 (eUp (pOp dAdd (pOp dAdd (pSl (getP 3) oNo (oSome (getP 8))) (pTup (paCons (pTup (paCons (getP 11) (paCons (getP 12) (paCons (getP 10) paNil)))) paNil))) (pSl (getP 3) (oSome (pOp dAdd (getP 8) (pC (.int 1)))) oNo)))))))))) (.nx)) t10)
def t8 : DL.Env → SR := (sSeq (sSet 7 (eLst (aCons (eSh (pC .non)) (aCons (epCB dList (paCons (getP 3) paNil)) (aCons (eUp (pOp dAdd (getP 3) (pTup (paCons (pTup (paCons (pC (.int 0)) (paCons (pC (.int 0)) (paCons (pC (.int 1)) paNil)))) (paCons (pTup (paCons (pC (.int 0)) (paCons (pC (.int 0)) (paCons (pC (.int 2)) paNil)))) paNil))))) (aCons (eCB dTuple (aCons (eLc (setG 14) tYes (eTup (aCons (eSh (pC (.int 16))) (aCons (eV 14) (aCons (eSh (pC (.int 1))) aNil)))) [14] (iR1 (aCons (eSh (pC (.int 61))) aNil))) aNil)) aNil)))))) t9)
def t7 : DL.Env → SR := (sSeq (sIf (tOr (tNot (bE (eCall 2 (m__law_alike 40) (aCons (eCall 2 m_spread (aCons (eV 2) (aCons (eV 3) aNil))) (aCons (epCB dTuple (paCons (getP 6) paNil)) aNil))))) (tNot (bE (eCall 2 m__law_says (aCons (eCall 2 m_is_plan (aCons (eV 2) (aCons (eV 3) aNil))) (aCons (eSh (pC (.bl true))) aNil)))))) (sRet (eSh (pC (.bl false)))) (.nx)) t8)
def t6 : DL.Env → SR := (sSeq (sFor (iR1 (aCons (eUp (pOp dShl (pC (.int 1)) (getP 2))) aNil)) (setG 5) (sIf (tUp (tpAnd (bP (pOp dNe (getP 6) (pLsF paNil))) (bP (pOp dEq (pIx (pIx (getP 6) (pUn dNeg (pC (.int 1)))) (pC (.int 2))) (pIx (getP 4) (getP 5)))))) (sStr 6 (pUn dNeg (pC (.int 1))) (eTup (aCons (eSh (pIx (pIx (getP 6) (pUn dNeg (pC (.int 1)))) (pC (.int 0)))) (aCons (eV 5) (aCons (eSh (pIx (getP 4) (getP 5))) aNil))))) (sExpr (eApp 6 (eTup (aCons (eV 5) (aCons (eV 5) (aCons (eSh (pIx (getP 4) (getP 5))) aNil)))))))) t7)
def t5 : DL.Env → SR := (sSeq (sSet 6 (eLst aNil)) t6)
def t4 : DL.Env → SR := (sSeq (sFor (iR1 (aCons (eUp (pOp dShl (pC (.int 1)) (getP 2))) aNil)) (setG 5) (sIf (tNot (bE (eCall 2 (m__law_alike 40) (aCons (eCall 3 m_exit_of (aCons (eV 2) (aCons (eV 3) (aCons (eV 5) aNil)))) (aCons (eSh (pIx (getP 4) (getP 5))) aNil))))) (sRet (eSh (pC (.bl false)))) (.nx))) t5)
def t3 : DL.Env → SR := (sSeq (sSet 4 (eCall 2 m__law_exits (aCons (eV 2) (aCons (eV 3) aNil)))) t4)
def t2 : DL.Env → SR := (sSeq (sSet 3 (eCallM 3 m__law_plan 1 (aCons (eV 2) (aCons (eSh (pC (.int 12))) aNil)))) t3)
def t1 : DL.Env → SR := (sSeq (sSet 2 (eOp dAdd (eSh (pC (.int 1))) (eCallM 2 m__law_take 1 (aCons (eSh (pC (.int 6))) aNil)))) t2)
def t0 : DL.Env → SR := (sSeq (sSet 1 (eUp (pCall 1 m__law_draws (paCons (getP 0) paNil)))) t1)
def b_law : DL.Env → SR := t0
def m_law (ds : List D) : PR D := outP (b_law (startE 15 ds))
/-! ### the text behind the top -/
structure Txt (K : PySem.W.Frag) (mg : Str → Option Value) where
  f__law_draws : Addr
  d__law_draws : FuncData
  F__law_draws : Fun K "_law_draws" "_law_draws" s__law_draws f__law_draws d__law_draws
  g__law_draws : mg "_law_draws" = some (.ref f__law_draws)
  b__law_draws : Binds K d__law_draws ["script"] []
  f__law_take : Addr
  d__law_take : FuncData
  F__law_take : Fun K "_law_take" "_law_take" s__law_take f__law_take d__law_take
  g__law_take : mg "_law_take" = some (.ref f__law_take)
  b__law_take : Binds K d__law_take ["draws", "bound"] []
  f__law_plan : Addr
  d__law_plan : FuncData
  F__law_plan : Fun K "_law_plan" "_law_plan" s__law_plan f__law_plan d__law_plan
  g__law_plan : mg "_law_plan" = some (.ref f__law_plan)
  b__law_plan : Binds K d__law_plan ["draws", "width", "most"] []
  f__law_exit : Addr
  d__law_exit : FuncData
  F__law_exit : Fun K "_law_exit" "_law_exit" s__law_exit f__law_exit d__law_exit
  g__law_exit : mg "_law_exit" = some (.ref f__law_exit)
  b__law_exit : Binds K d__law_exit ["width", "plan", "address"] []
  f__law_exits : Addr
  d__law_exits : FuncData
  F__law_exits : Fun K "_law_exits" "_law_exits" s__law_exits f__law_exits d__law_exits
  g__law_exits : mg "_law_exits" = some (.ref f__law_exits)
  b__law_exits : Binds K d__law_exits ["width", "plan"] []
  f__law_alike : Addr
  d__law_alike : FuncData
  F__law_alike : Fun K "_law_alike" "_law_alike" s__law_alike f__law_alike d__law_alike
  g__law_alike : mg "_law_alike" = some (.ref f__law_alike)
  b__law_alike : Binds K d__law_alike ["found", "due"] []
  f__law_says : Addr
  d__law_says : FuncData
  F__law_says : Fun K "_law_says" "_law_says" s__law_says f__law_says d__law_says
  g__law_says : mg "_law_says" = some (.ref f__law_says)
  b__law_says : Binds K d__law_says ["told", "due"] []
  f_is_number : Addr
  d_is_number : FuncData
  F_is_number : Fun K "is_number" "is_number" s_is_number f_is_number d_is_number
  g_is_number : mg "is_number" = some (.ref f_is_number)
  b_is_number : Binds K d_is_number ["value", "least", "most"] []
  f_is_prefix : Addr
  d_is_prefix : FuncData
  F_is_prefix : Fun K "is_prefix" "is_prefix" s_is_prefix f_is_prefix d_is_prefix
  g_is_prefix : mg "is_prefix" = some (.ref f_is_prefix)
  b_is_prefix : Binds K d_is_prefix ["width", "value"] []
  f_is_exit : Addr
  d_is_exit : FuncData
  F_is_exit : Fun K "is_exit" "is_exit" s_is_exit f_is_exit d_is_exit
  g_is_exit : mg "is_exit" = some (.ref f_is_exit)
  b_is_exit : Binds K d_is_exit ["value"] []
  f_is_plan : Addr
  d_is_plan : FuncData
  F_is_plan : Fun K "is_plan" "is_plan" s_is_plan f_is_plan d_is_plan
  g_is_plan : mg "is_plan" = some (.ref f_is_plan)
  b_is_plan : Binds K d_is_plan ["width", "value"] []
  f_covers : Addr
  d_covers : FuncData
  F_covers : Fun K "covers" "covers" s_covers f_covers d_covers
  g_covers : mg "covers" = some (.ref f_covers)
  b_covers : Binds K d_covers ["width", "prefix", "address"] []
  f_exit_of : Addr
  d_exit_of : FuncData
  F_exit_of : Fun K "exit_of" "exit_of" s_exit_of f_exit_of d_exit_of
  g_exit_of : mg "exit_of" = some (.ref f_exit_of)
  b_exit_of : Binds K d_exit_of ["width", "plan", "address"] []
  f_ends : Addr
  d_ends : FuncData
  F_ends : Fun K "ends" "ends" s_ends f_ends d_ends
  g_ends : mg "ends" = some (.ref f_ends)
  b_ends : Binds K d_ends ["width", "prefix"] []
  f_borders : Addr
  d_borders : FuncData
  F_borders : Fun K "borders" "borders" s_borders f_borders d_borders
  g_borders : mg "borders" = some (.ref f_borders)
  b_borders : Binds K d_borders ["width", "plans"] []
  f_spread : Addr
  d_spread : FuncData
  F_spread : Fun K "spread" "spread" s_spread f_spread d_spread
  g_spread : mg "spread" = some (.ref f_spread)
  b_spread : Binds K d_spread ["width", "plan"] []
  f_law : Addr
  d_law : FuncData
  F_law : Fun K "law" "law" s_law f_law d_law
  g_law : mg "law" = some (.ref f_law)
  b_law : Binds K d_law ["script"] []
  z_abs : mg "abs" = none
  z_all : mg "all" = none
  z_bool : mg "bool" = none
  z_int : mg "int" = none
  z_isinstance : mg "isinstance" = none
  z_len : mg "len" = none
  z_list : mg "list" = none
  z_min : mg "min" = none
  z_range : mg "range" = none
  z_reversed : mg "reversed" = none
  z_sorted : mg "sorted" = none
  z_str : mg "str" = none
  z_tuple : mg "tuple" = none
  w_MOST_EXIT : ∃ t, mg "MOST_EXIT" = some (.int 99 t)
  w_MOST_ROWS : ∃ t, mg "MOST_ROWS" = some (.int 60 t)
  c_is_plan : Addr
  t_is_plan : Addr
  e_is_plan : d_is_plan.code = .ref c_is_plan
abbrev Txt.cs {K : PySem.W.Frag} {mg : Str → Option Value} (T : Txt K mg) : List (Addr × Addr) := [(T.c_is_plan, T.t_is_plan)]
abbrev Txt.tb {K : PySem.W.Frag} {mg : Str → Option Value} (T : Txt K mg) : List Addr := T.cs.map (·.2)
theorem mem_is_plan {K : PySem.W.Frag} {mg : Str → Option Value} (T : Txt K mg) : T.t_is_plan ∈ T.tb := by simp [Txt.tb, Txt.cs]
theorem memc_is_plan {K : PySem.W.Frag} {mg : Str → Option Value} (T : Txt K mg) : (T.c_is_plan, T.t_is_plan) ∈ T.cs := by simp [Txt.cs]
section
variable {P : Program} {w : World} {K : PySem.W.Frag} {mg : Str → Option Value} {base : Heap}
theorem ok__law_draws (T : Txt K mg) (TB : ∀ p ∈ T.cs, LamX.TabB base mg p.1 p.2) : FnD P w K mg base T.tb 1 T.f__law_draws T.d__law_draws ["script"] m__law_draws := fnD_of (k := 0) T.F__law_draws sc__law_draws (fun cdv A outer s H E hcd hr => (n_cons (n_set 1 sc__law_draws.nd (n_elst n_anil))
    (n_cons (n_for (passes_of rfl) rfl (n_isq (n_ev 0)) (n_gname 2 sc__law_draws.nd) (n_cons (n_set 5 sc__law_draws.nd (n_epcb call_abs vl_abs T.z_abs bt_abs (n_pacons (dp_var 2) n_panil)))
    (n_cons (n_if (n_tup_ (n_tpcmp (op_ltA hr.units) v2_ltA (nomark _) (dp_var 5) (n_pop op_pow v2_pow n_int n_int))) (n_cons (n_set 6 sc__law_draws.nd (n_epop op_mod v2_mod (n_pct call_int1 vl_int T.z_int bt_int (n_pacons (n_pop op_addA v2_add (n_pop op_mulB v2_mulB (dp_var 5) n_int) n_int) n_panil)) n_int))
    (n_cons (n_expr (n_app 1 (n_epop op_mod v2_mod (n_pct call_int1 vl_int T.z_int bt_int (n_pacons (n_pop op_addA v2_add (n_pop op_mulB v2_mulB (dp_var 6) n_int) (dp_var 5)) n_panil)) n_int)))
    (n_cons (n_expr (n_app 1 (n_epop op_mod v2_mod (n_pct call_int1 vl_int T.z_int bt_int (n_pacons (n_pop op_addA v2_add (dp_var 6) (n_pop op_fdiv v2_fdiv (dp_var 5) n_int)) n_panil)) n_int)))
    (n_one (n_set 5 sc__law_draws.nd (n_sh n_int)))))) n_nil)
    (n_one (n_for (passes_of rfl) rfl (n_ir1 T.z_range (n_acons (n_sh n_int) n_anil)) (n_gname 4 sc__law_draws.nd) (n_one (n_if (n_tup_ (n_tpcmp (op_gtA hr.units) v2_gtA (nomark _) (dp_var 5) n_int)) (n_cons (n_expr (n_app 1 (n_epop op_mod v2_mod (n_pct call_int1 vl_int T.z_int bt_int (n_pacons (dp_var 5) n_panil)) n_int)))
    (n_one (n_set 5 sc__law_draws.nd (n_epop op_fdiv v2_fdiv (dp_var 5) n_int)))) n_nil)))))))
    (n_cons (n_set 3 sc__law_draws.nd (n_sh n_int))
    (n_cons (n_if (n_tup_ (n_tpcmp (op_gtA hr.units) v2_gtA (nomark _) (n_pcb call_len vl_len T.z_len bt_len (n_pacons (dp_var 0) n_panil)) n_int)) (n_one (n_set 3 sc__law_draws.nd (n_epop op_addA v2_add n_int (n_pcb call_abs vl_abs T.z_abs bt_abs (n_pacons (n_pix (dp_var 0) n_int) n_panil))))) n_nil)
    (n_cons (n_for (passes_of rfl) rfl (n_ir1 T.z_range (n_acons (n_sh n_int) n_anil)) (n_gname 4 sc__law_draws.nd) (n_cons (n_set 3 sc__law_draws.nd (n_epop op_mod v2_mod (n_pct call_int1 vl_int T.z_int bt_int (n_pacons (n_pop op_addA v2_add (n_pop op_mulB v2_mulB (dp_var 3) n_int) n_int) n_panil)) n_int))
    (n_one (n_expr (n_app 1 (n_epop op_fdiv v2_fdiv (dp_var 3) n_int))))))
    (n_one (n_ret (n_rev rfl T.z_list T.z_reversed (dr_of_dp (dp_var 1))))))))))) (fun _ _ => rfl)
theorem ok__law_take (T : Txt K mg) (TB : ∀ p ∈ T.cs, LamX.TabB base mg p.1 p.2) : FnM P w K mg base T.tb 1 T.f__law_take T.d__law_take ["draws", "bound"] m__law_take := fnM_of (k := 0) T.F__law_take sc__law_take (by decide) (fun cdv A outer s H E hcd hr => (n_cons (n_if (n_tup_ (n_tpcmp (op_eqA hr.units) v2_eq (nomark _) (n_pcb call_len vl_len T.z_len bt_len (n_pacons (dp_var 0) n_panil)) n_int)) (n_one (n_ret (n_sh n_int))) n_nil)
    (n_one (n_ret (n_eop op_mod v2_mod (n_ect call_int1 vl_int T.z_int bt_int (n_acons (de_pop 0) n_anil)) (n_ev 1)))))) (fun _ _ => rfl)
theorem ok__law_plan (T : Txt K mg) (TB : ∀ p ∈ T.cs, LamX.TabB base mg p.1 p.2) : FnM P w K mg base T.tb 2 T.f__law_plan T.d__law_plan ["draws", "width", "most"] m__law_plan := fnM_of (k := 1) T.F__law_plan sc__law_plan (by decide) (fun cdv A outer s H E hcd hr => (n_cons (n_set 3 sc__law_plan.nd n_dicT)
    (n_cons (n_set 4 sc__law_plan.nd (n_eop op_addA v2_add (n_sh n_int) (n_callM 0 takes_body (ok__law_take T TB) (hr.mono (by omega)) T.g__law_take T.F__law_take.kp T.b__law_take (n_acons (n_sh n_int) n_anil))))
    (n_cons (n_for (passes_of rfl) rfl (n_ir1 T.z_range (n_acons (n_callM 0 takes_body (ok__law_take T TB) (hr.mono (by omega)) T.g__law_take T.F__law_take.kp T.b__law_take (n_acons (n_epop op_addA v2_add (dp_var 2) n_int) n_anil)) n_anil)) (n_gname 5 sc__law_plan.nd) (n_cons (n_set 6 sc__law_plan.nd (n_callM 0 takes_body (ok__law_take T TB) (hr.mono (by omega)) T.g__law_take T.F__law_take.kp T.b__law_take (n_acons (n_epop op_addA v2_add (dp_var 1) n_int) n_anil)))
    (n_cons (n_set 7 sc__law_plan.nd (n_callM 0 takes_body (ok__law_take T TB) (hr.mono (by omega)) T.g__law_take T.F__law_take.kp T.b__law_take (n_acons (n_epop op_shl v2_shl n_int (dp_var 6)) n_anil)))
    (n_cons (n_if (dt_of_dw (n_wand (n_tup_ (n_tpcmp (op_neC hr.units) v2_neC (nomark _) (dp_var 3) n_pdicK)) (dw_and1 (n_tcmp (op_eqA hr.units) v2_eq (nomark _) (n_callM 0 takes_body (ok__law_take T TB) (hr.mono (by omega)) T.g__law_take T.F__law_take.kp T.b__law_take (n_acons (n_sh n_int) n_anil)) (n_sh n_int))))) (n_cons (n_set 8 sc__law_plan.nd (n_eix (n_ecb (cr_sortedA hr.units) vl_sortA T.z_sorted bt_sorted (n_acons (n_lcD 3 [("one", 9)] rfl sc__law_plan.nd (blkOk_by (N := N__law_plan) (sc := defScope s__law_plan) (own := [("one", 9)]) (by decide +kernel)) (fun _ _ _ _ _ => (n_gname 9 sc__law_plan.nd)) (fun _ _ _ _ _ => n_tyes) (fun _ _ _ _ _ => (n_ev 9))) n_anil)) (n_callM 0 takes_body (ok__law_take T TB) (hr.mono (by omega)) T.g__law_take T.F__law_take.kp T.b__law_take (n_acons (n_epcb cr_lenC vl_lenC T.z_len bt_len (n_pacons (dp_var 3) n_panil)) n_anil))))
    (n_cons (n_set 6 sc__law_plan.nd (n_eop op_addA v2_add (n_sh (n_pix (dp_var 8) n_int)) (n_callM 0 takes_body (ok__law_take T TB) (hr.mono (by omega)) T.g__law_take T.F__law_take.kp T.b__law_take (n_acons (n_epcb (call_min2 rfl) vl_min2 T.z_min bt_min (n_pacons n_int (n_pacons (n_pop op_addA v2_add (n_pop op_sub v2_sub (dp_var 1) (n_pix (dp_var 8) n_int)) n_int) n_panil))) n_anil))))
    (n_one (n_set 7 sc__law_plan.nd (n_eop op_addA v2_add (n_epop op_shl v2_shl (n_pix (dp_var 8) n_int) (n_pop op_sub v2_sub (dp_var 6) (n_pix (dp_var 8) n_int))) (n_callM 0 takes_body (ok__law_take T TB) (hr.mono (by omega)) T.g__law_take T.F__law_take.kp T.b__law_take (n_acons (n_epop op_shl v2_shl n_int (n_pop op_sub v2_sub (dp_var 6) (n_pix (dp_var 8) n_int))) n_anil))))))) n_nil)
    (n_one (n_stA 3 hr (n_eif (n_tcmp (op_eqA hr.units) v2_eq (nomark _) (n_callM 0 takes_body (ok__law_take T TB) (hr.mono (by omega)) T.g__law_take T.F__law_take.kp T.b__law_take (n_acons (n_sh n_int) n_anil)) (n_sh n_int)) (n_sh n_non) (n_callM 0 takes_body (ok__law_take T TB) (hr.mono (by omega)) T.g__law_take T.F__law_take.kp T.b__law_take (n_acons (n_ev 4) n_anil))) (n_ptup (n_pacons (dp_var 6) (n_pacons (dp_var 7) n_panil)))))))))
    (n_one (n_ret (n_ect call_tuple_of vl_tuple T.z_tuple bt_tuple (n_acons (n_lc [("length", 6), ("bits", 7)] rfl sc__law_plan.nd (n_isq (n_ecb (cr_sortedA hr.units) vl_sortA T.z_sorted bt_sorted (n_acons (n_lcD 3 [("one", 9)] rfl sc__law_plan.nd (blkOk_by (N := N__law_plan) (sc := defScope s__law_plan) (own := [("one", 9)]) (by decide +kernel)) (fun _ _ _ _ _ => (n_gname 9 sc__law_plan.nd)) (fun _ _ _ _ _ => n_tyes) (fun _ _ _ _ _ => (n_ev 9))) n_anil))) (blkOk_by (N := N__law_plan) (sc := defScope s__law_plan) (own := [("length", 6), ("bits", 7)]) (by decide +kernel)) (fun _ _ _ _ _ => (dg_tup (n := 2) rfl (dgs_cons (n_gname 6 sc__law_plan.nd) (dgs_cons (n_gname 7 sc__law_plan.nd) dgs_nil)))) (fun _ _ _ _ _ => n_tyes) (fun _ _ _ _ _ => (n_etup (n_acons (n_ev 6) (n_acons (n_ev 7) (n_acons (n_sh (n_pixD hr (dp_var 3) (n_ptup (n_pacons (dp_var 6) (n_pacons (dp_var 7) n_panil))))) n_anil)))))) n_anil)))))))) (fun _ _ => rfl)
theorem ok__law_exit (T : Txt K mg) (TB : ∀ p ∈ T.cs, LamX.TabB base mg p.1 p.2) : FnD P w K mg base T.tb 1 T.f__law_exit T.d__law_exit ["width", "plan", "address"] m__law_exit := fnD_of (k := 0) T.F__law_exit sc__law_exit (fun cdv A outer s H E hcd hr => (n_cons (n_set 3 sc__law_exit.nd (n_etup (n_acons (n_sh (n_pun un_neg v1_neg n_int)) (n_acons (n_sh n_non) n_anil))))
    (n_cons (n_for (passes_of rfl) rfl (n_isq (n_ev 1)) (dg_tup (n := 3) rfl (dgs_cons (n_gname 4 sc__law_exit.nd) (dgs_cons (n_gname 5 sc__law_exit.nd) (dgs_cons (n_gname 6 sc__law_exit.nd) dgs_nil)))) (n_one (n_if (n_tup_ (dtp_of_dw (n_wpand (n_tpcmp (op_eqA hr.units) v2_eq (nomark _) (n_pop op_fdiv v2_fdiv (dp_var 2) (n_pop op_shl v2_shl n_int (n_pop op_sub v2_sub (dp_var 0) (dp_var 4)))) (dp_var 5)) (dwp_and1 (n_tpcmp (op_gtA hr.units) v2_gtA (nomark _) (dp_var 4) (n_pix (dp_var 3) n_int)))))) (n_one (n_set 3 sc__law_exit.nd (n_etup (n_acons (n_ev 4) (n_acons (n_ev 6) n_anil))))) n_nil)))
    (n_one (n_ret (n_sh (n_pix (dp_var 3) n_int))))))) (fun _ _ => rfl)
theorem ok__law_exits (T : Txt K mg) (TB : ∀ p ∈ T.cs, LamX.TabB base mg p.1 p.2) : FnD P w K mg base T.tb 2 T.f__law_exits T.d__law_exits ["width", "plan"] m__law_exits := fnD_of (k := 1) T.F__law_exits sc__law_exits (fun cdv A outer s H E hcd hr => (n_one (n_ret (n_lc [("address", 2)] rfl sc__law_exits.nd (n_ir1 T.z_range (n_acons (n_epop op_shl v2_shl n_int (dp_var 0)) n_anil)) (blkOk_by (N := N__law_exits) (sc := defScope s__law_exits) (own := [("address", 2)]) (by decide +kernel)) (fun _ _ _ _ _ => (n_gname 2 sc__law_exits.nd)) (fun _ _ _ _ _ => n_tyes) (fun _ _ _ _ _ => (n_epcall takes0N (ok__law_exit T TB) (hr.mono (by omega)) T.g__law_exit T.F__law_exit.kp T.b__law_exit (n_pacons (dp_var 0) (n_pacons (dp_var 1) (n_pacons (dp_var 2) n_panil))))))))) (fun _ _ => rfl)
theorem ok__law_alike (T : Txt K mg) (TB : ∀ p ∈ T.cs, LamX.TabB base mg p.1 p.2) : ∀ k : Nat, FnD P w K mg base T.tb (1 + k) T.f__law_alike T.d__law_alike ["found", "due"] (m__law_alike k)
  | 0 => fnD_stk (fun _ => rfl)
  | k + 1 => by
    have ih := ok__law_alike T TB k
    exact fnD_of (k := 1 + k) T.F__law_alike sc__law_alike (fun cdv A outer s H E hcd hr => (n_cons (n_if (n_tup_ (dtp_of_dw (n_wpor (n_tpval (n_isi .list T.z_isinstance T.z_list bt_list (dp_var 1))) (dwp_or1 (n_tpval (n_isi .tuple T.z_isinstance T.z_tuple bt_tuple (dp_var 1))))))) (n_cons (n_if (n_tup_ (dtp_of_dw (n_wpor (n_tpcmp (op_neA hr.units) v2_ne (nomark _) (n_isi .list T.z_isinstance T.z_list bt_list (dp_var 0)) (n_isi .list T.z_isinstance T.z_list bt_list (dp_var 1))) (dwp_or1 (n_tpcmp (op_neA hr.units) v2_ne (nomark _) (n_isi .tuple T.z_isinstance T.z_tuple bt_tuple (dp_var 0)) (n_isi .tuple T.z_isinstance T.z_tuple bt_tuple (dp_var 1))))))) (n_one (n_ret (n_sh n_bl))) n_nil)
    (n_one (n_ret (n_eand (n_sh (n_pcmp (op_eqA hr.units) v2_eq (nomark _) (n_pcb call_len vl_len T.z_len bt_len (n_pacons (dp_var 0) n_panil)) (n_pcb call_len vl_len T.z_len bt_len (n_pacons (dp_var 1) n_panil)))) (de_one (n_ecmp (op_eqA hr.units) v2_eq (nomark _) (n_lc [("k", 2)] rfl sc__law_alike.nd (n_ir1 T.z_range (n_acons (n_epcb call_len vl_len T.z_len bt_len (n_pacons (dp_var 1) n_panil)) n_anil)) (blkOk_by (N := N__law_alike) (sc := defScope s__law_alike) (own := [("k", 2)]) (by decide +kernel)) (fun _ _ _ _ _ => (n_gname 2 sc__law_alike.nd)) (fun _ _ _ _ _ => (dts_one (n_tup_ (n_tpnot (n_tpval (n_pcall takes0N ih hr T.g__law_alike T.F__law_alike.kp T.b__law_alike (n_pacons (n_pix (dp_var 0) (dp_var 2)) (n_pacons (n_pix (dp_var 1) (dp_var 2)) n_panil)))))))) (fun _ _ _ _ _ => (n_ev 2))) (n_elst n_anil))))))) n_nil)
    (n_cons (n_if (n_tup_ (n_tpcmp op_isN v2_isN (nomark _) (dp_var 1) n_non)) (n_one (n_ret (n_sh (n_pcmp op_isN v2_isN (nomark _) (dp_var 0) n_non)))) n_nil)
    (n_cons (n_if (n_tup_ (dtp_of_dw (n_wpor (n_tpval (n_isi .bool T.z_isinstance T.z_bool bt_bool (dp_var 1))) (dwp_or1 (n_tpval (n_isi .bool T.z_isinstance T.z_bool bt_bool (dp_var 0))))))) (n_one (n_ret (n_sh (n_pand (n_isi .bool T.z_isinstance T.z_bool bt_bool (dp_var 0)) (n_pand (n_isi .bool T.z_isinstance T.z_bool bt_bool (dp_var 1)) (dp_one (n_pcmp (op_eqA hr.units) v2_eq (nomark _) (dp_var 0) (dp_var 1)))))))) n_nil)
    (n_cons (n_if (n_tup_ (n_tpval (n_isi .int T.z_isinstance T.z_int bt_int (dp_var 1)))) (n_one (n_ret (n_sh (n_pand (n_isi .int T.z_isinstance T.z_int bt_int (dp_var 0)) (dp_one (n_pcmp (op_eqA hr.units) v2_eq (nomark _) (dp_var 0) (dp_var 1))))))) n_nil)
    (n_one (n_ret (n_sh (n_pand (n_isi .str T.z_isinstance T.z_str bt_str (dp_var 0)) (dp_one (n_pcmp (op_eqA hr.units) v2_eq (nomark _) (dp_var 0) (dp_var 1)))))))))))) (fun _ _ => rfl)
theorem ok__law_says (T : Txt K mg) (TB : ∀ p ∈ T.cs, LamX.TabB base mg p.1 p.2) : FnD P w K mg base T.tb 1 T.f__law_says T.d__law_says ["told", "due"] m__law_says := fnD_of (k := 0) T.F__law_says sc__law_says (fun cdv A outer s H E hcd hr => (n_one (n_ret (n_sh (n_pand (n_isi .bool T.z_isinstance T.z_bool bt_bool (dp_var 0)) (dp_one (n_pcmp (op_eqA hr.units) v2_eq (nomark _) (dp_var 0) (dp_var 1)))))))) (fun _ _ => rfl)
theorem ok_is_number (T : Txt K mg) (TB : ∀ p ∈ T.cs, LamX.TabB base mg p.1 p.2) : FnD P w K mg base T.tb 1 T.f_is_number T.d_is_number ["value", "least", "most"] m_is_number := fnD_of (k := 0) T.F_is_number sc_is_number (fun cdv A outer s H E hcd hr => (n_one (n_ret (n_sh (n_pand (n_isi .int T.z_isinstance T.z_int bt_int (dp_var 0)) (n_pand (n_pnot (n_isi .bool T.z_isinstance T.z_bool bt_bool (dp_var 0))) (dp_one (n_pch (op_leA hr.units) (op_leA hr.units) v2_leA v2_leA (dp_var 1) (dp_var 0) (dp_var 2))))))))) (fun _ _ => rfl)
theorem ok_is_prefix (T : Txt K mg) (TB : ∀ p ∈ T.cs, LamX.TabB base mg p.1 p.2) : FnD P w K mg base T.tb 2 T.f_is_prefix T.d_is_prefix ["width", "value"] m_is_prefix := fnD_of (k := 1) T.F_is_prefix sc_is_prefix (fun cdv A outer s H E hcd hr => (n_cons (n_if (n_tup_ (dtp_of_dw (n_wpor (n_tpnot (n_tpval (n_isi .tuple T.z_isinstance T.z_tuple bt_tuple (dp_var 1)))) (n_wpor (n_tpcmp (op_neA hr.units) v2_ne (nomark _) (n_pcb call_len vl_len T.z_len bt_len (n_pacons (dp_var 1) n_panil)) n_int) (dwp_or1 (n_tpnot (n_tpval (n_pcall takes_body (ok_is_number T TB) (hr.mono (by omega)) T.g_is_number T.F_is_number.kp T.b_is_number (n_pacons (n_pix (dp_var 1) n_int) (n_pacons n_int (n_pacons (dp_var 0) n_panil))))))))))) (n_one (n_ret (n_sh n_bl))) n_nil)
    (n_one (n_ret (n_epcall takes_body (ok_is_number T TB) (hr.mono (by omega)) T.g_is_number T.F_is_number.kp T.b_is_number (n_pacons (n_pix (dp_var 1) n_int) (n_pacons n_int (n_pacons (n_pop op_sub v2_sub (n_pop op_shl v2_shl n_int (n_pix (dp_var 1) n_int)) n_int) n_panil)))))))) (fun _ _ => rfl)
theorem ok_is_exit (T : Txt K mg) (TB : ∀ p ∈ T.cs, LamX.TabB base mg p.1 p.2) : FnD P w K mg base T.tb 2 T.f_is_exit T.d_is_exit ["value"] m_is_exit := fnD_of (k := 1) T.F_is_exit sc_is_exit (fun cdv A outer s H E hcd hr => (n_one (n_ret (n_sh (n_por (n_pcmp op_isN v2_isN (nomark _) (dp_var 0) n_non) (dp_one (n_pcall takes_body (ok_is_number T TB) (hr.mono (by omega)) T.g_is_number T.F_is_number.kp T.b_is_number (n_pacons (dp_var 0) (n_pacons n_int (n_pacons (n_gint 99 T.w_MOST_EXIT) n_panil)))))))))) (fun _ _ => rfl)
theorem ok_is_plan (T : Txt K mg) (TB : ∀ p ∈ T.cs, LamX.TabB base mg p.1 p.2) : FnD P w K mg base T.tb 4 T.f_is_plan T.d_is_plan ["width", "value"] m_is_plan := fnD_of (k := 3) T.F_is_plan sc_is_plan (fun cdv A outer s H E hcd hr => (n_cons (n_if (n_tup_ (dtp_of_dw (n_wpor (n_tpnot (n_tpval (n_isi .tuple T.z_isinstance T.z_tuple bt_tuple (dp_var 1)))) (dwp_or1 (n_tpcmp (op_gtA hr.units) v2_gtA (nomark _) (n_pcb call_len vl_len T.z_len bt_len (n_pacons (dp_var 1) n_panil)) (n_gint 60 T.w_MOST_ROWS)))))) (n_one (n_ret (n_sh n_bl))) n_nil)
    (n_cons (n_for (passes_of rfl) rfl (n_isq (n_ev 1)) (n_gname 2 sc_is_plan.nd) (n_one (n_if (n_tup_ (dtp_of_dw (n_wpor (n_tpnot (n_tpval (n_isi .tuple T.z_isinstance T.z_tuple bt_tuple (dp_var 2)))) (n_wpor (n_tpcmp (op_neA hr.units) v2_ne (nomark _) (n_pcb call_len vl_len T.z_len bt_len (n_pacons (dp_var 2) n_panil)) n_int) (n_wpor (n_tpnot (n_tpval (n_pcall takes_body (ok_is_prefix T TB) (hr.mono (by omega)) T.g_is_prefix T.F_is_prefix.kp T.b_is_prefix (n_pacons (dp_var 0) (n_pacons (n_psl (dp_var 2) n_ono (n_osome n_int)) n_panil))))) (dwp_or1 (n_tpnot (n_tpval (n_pcall takes_body (ok_is_exit T TB) (hr.mono (by omega)) T.g_is_exit T.F_is_exit.kp T.b_is_exit (n_pacons (n_pix (dp_var 2) n_int) n_panil)))))))))) (n_one (n_ret (n_sh n_bl))) n_nil)))
    (n_one (n_ret (n_all (k := 2) [("at", 3)] (hr.mono (by omega)) (mem_is_plan T) (TB _ (memc_is_plan T)) (hcd.symm.trans T.e_is_plan) rfl sc_is_plan.nd T.z_all (n_ir2 T.z_range (n_acons (n_sh n_int) (n_acons (n_epcb call_len vl_len T.z_len bt_len (n_pacons (dp_var 1) n_panil)) n_anil))) (blkOk_by (N := N_is_plan) (sc := defScope s_is_plan) (own := [("at", 3)]) (by decide +kernel)) (fun _ _ _ _ _ _ _ hr => (n_gname 3 sc_is_plan.nd)) (fun _ _ _ _ _ _ _ hr => n_tyes) (fun _ _ _ _ _ _ _ hr => (n_sh (n_pcmp (op_ltA hr.units) v2_ltA (nomark _) (n_psl (n_pix (dp_var 1) (n_pop op_sub v2_sub (dp_var 3) n_int)) n_ono (n_osome n_int)) (n_psl (n_pix (dp_var 1) (dp_var 3)) n_ono (n_osome n_int))))))))))) (fun _ _ => rfl)
theorem ok_covers (T : Txt K mg) (TB : ∀ p ∈ T.cs, LamX.TabB base mg p.1 p.2) : FnD P w K mg base T.tb 1 T.f_covers T.d_covers ["width", "prefix", "address"] m_covers := fnD_of (k := 0) T.F_covers sc_covers (fun cdv A outer s H E hcd hr => (n_cons (n_asg (n_ev 1) (dg_tup (n := 2) rfl (dgs_cons (n_gname 3 sc_covers.nd) (dgs_cons (n_gname 4 sc_covers.nd) dgs_nil))))
    (n_one (n_ret (n_sh (n_pcmp (op_eqA hr.units) v2_eq (nomark _) (n_pop op_shr v2_shr (dp_var 2) (n_pop op_sub v2_sub (dp_var 0) (dp_var 3))) (dp_var 4))))))) (fun _ _ => rfl)
theorem ok_exit_of (T : Txt K mg) (TB : ∀ p ∈ T.cs, LamX.TabB base mg p.1 p.2) : FnD P w K mg base T.tb 2 T.f_exit_of T.d_exit_of ["width", "plan", "address"] m_exit_of := fnD_of (k := 1) T.F_exit_of sc_exit_of (fun cdv A outer s H E hcd hr => (n_cons (n_set 3 sc_exit_of.nd (n_sh n_non))
    (n_cons (n_for (passes_of rfl) rfl (n_isq (n_ev 1)) (dg_tup (n := 3) rfl (dgs_cons (n_gname 4 sc_exit_of.nd) (dgs_cons (n_gname 5 sc_exit_of.nd) (dgs_cons (n_gname 6 sc_exit_of.nd) dgs_nil)))) (n_one (n_if (n_tup_ (n_tpval (n_pcall takes_body (ok_covers T TB) (hr.mono (by omega)) T.g_covers T.F_covers.kp T.b_covers (n_pacons (dp_var 0) (n_pacons (n_ptup (n_pacons (dp_var 4) (n_pacons (dp_var 5) n_panil))) (n_pacons (dp_var 2) n_panil)))))) (n_one (n_set 3 sc_exit_of.nd (n_ev 6))) n_nil)))
    (n_one (n_ret (de_mv 3)))))) (fun _ _ => rfl)
theorem ok_ends (T : Txt K mg) (TB : ∀ p ∈ T.cs, LamX.TabB base mg p.1 p.2) : FnD P w K mg base T.tb 1 T.f_ends T.d_ends ["width", "prefix"] m_ends := fnD_of (k := 0) T.F_ends sc_ends (fun cdv A outer s H E hcd hr => (n_cons (n_asg (n_ev 1) (dg_tup (n := 2) rfl (dgs_cons (n_gname 2 sc_ends.nd) (dgs_cons (n_gname 3 sc_ends.nd) dgs_nil))))
    (n_one (n_ret (n_etup (n_acons (n_epop op_shl v2_shl (dp_var 3) (n_pop op_sub v2_sub (dp_var 0) (dp_var 2))) (n_acons (n_epop op_sub v2_sub (n_pop op_shl v2_shl (n_pop op_addA v2_add (dp_var 3) n_int) (n_pop op_sub v2_sub (dp_var 0) (dp_var 2))) n_int) n_anil))))))) (fun _ _ => rfl)
theorem ok_borders (T : Txt K mg) (TB : ∀ p ∈ T.cs, LamX.TabB base mg p.1 p.2) : FnD P w K mg base T.tb 2 T.f_borders T.d_borders ["width", "plans"] m_borders := fnD_of (k := 1) T.F_borders sc_borders (fun cdv A outer s H E hcd hr => (n_cons (n_set 2 sc_borders.nd (n_elst (n_acons (n_sh n_int) n_anil)))
    (n_cons (n_for (passes_of rfl) rfl (n_isq (n_ev 1)) (n_gname 3 sc_borders.nd) (n_one (n_for (passes_of rfl) rfl (n_isq (n_ev 3)) (dg_tup (n := 3) rfl (dgs_cons (n_gname 4 sc_borders.nd) (dgs_cons (n_gname 5 sc_borders.nd) (dgs_cons (n_gname 6 sc_borders.nd) dgs_nil)))) (n_cons (n_asg (n_epcall takes_body (ok_ends T TB) (hr.mono (by omega)) T.g_ends T.F_ends.kp T.b_ends (n_pacons (dp_var 0) (n_pacons (n_ptup (n_pacons (dp_var 4) (n_pacons (dp_var 5) n_panil))) n_panil))) (dg_tup (n := 2) rfl (dgs_cons (n_gname 7 sc_borders.nd) (dgs_cons (n_gname 8 sc_borders.nd) dgs_nil))))
    (n_one (n_expr (n_ext 2 (n_elst (n_acons (n_ev 7) (n_acons (n_epop op_addA v2_add (dp_var 8) n_int) n_anil))))))))))
    (n_one (n_ret (n_srtS [("one", 9)] rfl sc_borders.nd T.z_sorted (n_isq (n_ev 2)) (blkOk_by (N := N_borders) (sc := defScope s_borders) (own := [("one", 9)]) (by decide +kernel)) (fun _ _ _ _ _ => (n_gname 9 sc_borders.nd)) (fun _ _ _ _ _ => (dts_one (n_tup_ (n_tpcmp (op_ltA hr.units) v2_ltA (nomark _) (dp_var 9) (n_pop op_shl v2_shl n_int (dp_var 0)))))) (fun _ _ _ _ _ => (n_ev 9)))))))) (fun _ _ => rfl)
theorem ok_spread (T : Txt K mg) (TB : ∀ p ∈ T.cs, LamX.TabB base mg p.1 p.2) : FnD P w K mg base T.tb 3 T.f_spread T.d_spread ["width", "plan"] m_spread := fnD_of (k := 2) T.F_spread sc_spread (fun cdv A outer s H E hcd hr => (n_cons (n_set 2 sc_spread.nd (n_elst n_anil))
    (n_cons (n_set 3 sc_spread.nd (n_elst (n_astar (n_epcall takes_body (ok_borders T TB) (hr.mono (by omega)) T.g_borders T.F_borders.kp T.b_borders (n_pacons (dp_var 0) (n_pacons (n_plsF (n_pacons (dp_var 1) n_panil)) n_panil))) (n_acons (n_epop op_shl v2_shl n_int (dp_var 0)) n_anil))))
    (n_cons (n_for (passes_of rfl) rfl (n_ir1 T.z_range (n_acons (n_epop op_sub v2_sub (n_pcb call_len vl_len T.z_len bt_len (n_pacons (dp_var 3) n_panil)) n_int) n_anil)) (n_gname 4 sc_spread.nd) (n_cons (n_set 5 sc_spread.nd (n_epcall takes_body (ok_exit_of T TB) (hr.mono (by omega)) T.g_exit_of T.F_exit_of.kp T.b_exit_of (n_pacons (dp_var 0) (n_pacons (dp_var 1) (n_pacons (n_pix (dp_var 3) (dp_var 4)) n_panil)))))
    (n_one (n_if (n_tup_ (dtp_of_dw (n_wpand (n_tpcmp (op_gtA hr.units) v2_gtA (nomark _) (n_pcb call_len vl_len T.z_len bt_len (n_pacons (dp_var 2) n_panil)) n_int) (dwp_and1 (n_tpcmp (op_eqA hr.units) v2_eq (nomark _) (n_pix (n_pix (dp_var 2) (n_pun un_neg v1_neg n_int)) n_int) (dp_var 5)))))) (n_one (n_str_ 2 (n_etup (n_acons (n_sh (n_pix (n_pix (dp_var 2) (n_pun un_neg v1_neg n_int)) n_int)) (n_acons (n_epop op_sub v2_sub (n_pix (dp_var 3) (n_pop op_addA v2_add (dp_var 4) n_int)) n_int) (n_acons (n_ev 5) n_anil)))) (n_pun un_neg v1_neg n_int))) (n_one (n_expr (n_app 2 (n_etup (n_acons (n_sh (n_pix (dp_var 3) (dp_var 4))) (n_acons (n_epop op_sub v2_sub (n_pix (dp_var 3) (n_pop op_addA v2_add (dp_var 4) n_int)) n_int) (n_acons (n_ev 5) n_anil)))))))))))
    (n_one (n_ret (n_epct call_tuple_of vl_tuple T.z_tuple bt_tuple (n_pacons (dp_var 2) n_panil)))))))) (fun _ _ => rfl)
theorem ok_law (T : Txt K mg) (TB : ∀ p ∈ T.cs, LamX.TabB base mg p.1 p.2) : FnD P w K mg base T.tb 42 T.f_law T.d_law ["script"] m_law := fnD_of (k := 41) T.F_law sc_law (fun cdv A outer s H E hcd hr => (n_cons (n_set 1 sc_law.nd (n_epcall takes_body (ok__law_draws T TB) (hr.mono (by omega)) T.g__law_draws T.F__law_draws.kp T.b__law_draws (n_pacons (dp_var 0) n_panil)))
    (n_cons (n_set 2 sc_law.nd (n_eop op_addA v2_add (n_sh n_int) (n_callM 1 takes_body (ok__law_take T TB) (hr.mono (by omega)) T.g__law_take T.F__law_take.kp T.b__law_take (n_acons (n_sh n_int) n_anil))))
    (n_cons (n_set 3 sc_law.nd (n_callM 1 takes_body (ok__law_plan T TB) (hr.mono (by omega)) T.g__law_plan T.F__law_plan.kp T.b__law_plan (n_acons (n_ev 2) (n_acons (n_sh n_int) n_anil))))
    (n_cons (n_set 4 sc_law.nd (n_ecall takes_body (ok__law_exits T TB) (hr.mono (by omega)) T.g__law_exits T.F__law_exits.kp T.b__law_exits (n_acons (n_ev 2) (n_acons (n_ev 3) n_anil))))
    (n_cons (n_for (passes_of rfl) rfl (n_ir1 T.z_range (n_acons (n_epop op_shl v2_shl n_int (dp_var 2)) n_anil)) (n_gname 5 sc_law.nd) (n_one (n_if (n_tnot (n_tval (n_ecall takes_body (ok__law_alike T TB 40) (hr.mono (by omega)) T.g__law_alike T.F__law_alike.kp T.b__law_alike (n_acons (n_ecall takes_body (ok_exit_of T TB) (hr.mono (by omega)) T.g_exit_of T.F_exit_of.kp T.b_exit_of (n_acons (n_ev 2) (n_acons (n_ev 3) (n_acons (n_ev 5) n_anil)))) (n_acons (n_sh (n_pix (dp_var 4) (dp_var 5))) n_anil))))) (n_one (n_ret (n_sh n_bl))) n_nil)))
    (n_cons (n_set 6 sc_law.nd (n_elst n_anil))
    (n_cons (n_for (passes_of rfl) rfl (n_ir1 T.z_range (n_acons (n_epop op_shl v2_shl n_int (dp_var 2)) n_anil)) (n_gname 5 sc_law.nd) (n_one (n_if (n_tup_ (dtp_of_dw (n_wpand (n_tpcmp (op_neA hr.units) v2_ne (nomark _) (dp_var 6) (n_plsF n_panil)) (dwp_and1 (n_tpcmp (op_eqA hr.units) v2_eq (nomark _) (n_pix (n_pix (dp_var 6) (n_pun un_neg v1_neg n_int)) n_int) (n_pix (dp_var 4) (dp_var 5))))))) (n_one (n_str_ 6 (n_etup (n_acons (n_sh (n_pix (n_pix (dp_var 6) (n_pun un_neg v1_neg n_int)) n_int)) (n_acons (n_ev 5) (n_acons (n_sh (n_pix (dp_var 4) (dp_var 5))) n_anil)))) (n_pun un_neg v1_neg n_int))) (n_one (n_expr (n_app 6 (n_etup (n_acons (n_ev 5) (n_acons (n_ev 5) (n_acons (n_sh (n_pix (dp_var 4) (dp_var 5))) n_anil))))))))))
    (n_cons (n_if (dt_of_dw (n_wor (n_tnot (n_tval (n_ecall takes_body (ok__law_alike T TB 40) (hr.mono (by omega)) T.g__law_alike T.F__law_alike.kp T.b__law_alike (n_acons (n_ecall takes_body (ok_spread T TB) (hr.mono (by omega)) T.g_spread T.F_spread.kp T.b_spread (n_acons (n_ev 2) (n_acons (n_ev 3) n_anil))) (n_acons (n_epct call_tuple_of vl_tuple T.z_tuple bt_tuple (n_pacons (dp_var 6) n_panil)) n_anil))))) (dw_or1 (n_tnot (n_tval (n_ecall takes_body (ok__law_says T TB) (hr.mono (by omega)) T.g__law_says T.F__law_says.kp T.b__law_says (n_acons (n_ecall takes_body (ok_is_plan T TB) (hr.mono (by omega)) T.g_is_plan T.F_is_plan.kp T.b_is_plan (n_acons (n_ev 2) (n_acons (n_ev 3) n_anil))) (n_acons (n_sh n_bl) n_anil)))))))) (n_one (n_ret (n_sh n_bl))) n_nil)
    (n_cons (n_set 7 sc_law.nd (n_elst (n_acons (n_sh n_non) (n_acons (n_epct call_list_of vl_list T.z_list bt_list (n_pacons (dp_var 3) n_panil)) (n_acons (n_epop op_addA v2_add (dp_var 3) (n_ptup (n_pacons (n_ptup (n_pacons n_int (n_pacons n_int (n_pacons n_int n_panil)))) (n_pacons (n_ptup (n_pacons n_int (n_pacons n_int (n_pacons n_int n_panil)))) n_panil)))) (n_acons (n_ect call_tuple_of vl_tuple T.z_tuple bt_tuple (n_acons (n_lc [("number", 14)] rfl sc_law.nd (n_ir1 T.z_range (n_acons (n_sh n_int) n_anil)) (blkOk_by (N := N_law) (sc := defScope s_law) (own := [("number", 14)]) (by decide +kernel)) (fun _ _ _ _ _ => (n_gname 14 sc_law.nd)) (fun _ _ _ _ _ => n_tyes) (fun _ _ _ _ _ => (n_etup (n_acons (n_sh n_int) (n_acons (n_ev 14) (n_acons (n_sh n_int) n_anil)))))) n_anil)) n_anil))))))
    (n_cons (n_if (n_tup_ (n_tpcmp (op_neA hr.units) v2_ne (nomark _) (dp_var 3) (n_ptup n_panil))) (n_cons (n_set 8 sc_law.nd (n_callM 1 takes_body (ok__law_take T TB) (hr.mono (by omega)) T.g__law_take T.F__law_take.kp T.b__law_take (n_acons (n_epcb call_len vl_len T.z_len bt_len (n_pacons (dp_var 3) n_panil)) n_anil)))
    (n_cons (n_asg (n_sh (n_pix (dp_var 3) (dp_var 8))) (dg_tup (n := 3) rfl (dgs_cons (n_gname 11 sc_law.nd) (dgs_cons (n_gname 12 sc_law.nd) (dgs_cons (n_gname 13 sc_law.nd) dgs_nil)))))
    (n_cons (n_expr (n_app 7 (n_epop op_addA v2_add (n_pop op_addA v2_add (n_psl (dp_var 3) n_ono (n_osome (dp_var 8))) (n_ptup (n_pacons (n_pix (dp_var 3) (dp_var 8)) n_panil))) (n_psl (dp_var 3) (n_osome (dp_var 8)) n_ono))))
    (n_cons (n_for (passes_of rfl) rfl (n_isq (n_efz (n_elst (n_acons (n_sh n_non) (n_acons (n_elst (n_acons (n_ev 11) (n_acons (n_ev 12) (n_acons (n_ev 13) n_anil)))) (n_acons (n_etup (n_acons (n_ev 11) (n_acons (n_ev 12) n_anil))) (n_acons (n_etup (n_acons (n_ev 11) (n_acons (n_ev 12) (n_acons (n_ev 13) (n_acons (n_sh n_int) n_anil))))) (n_acons (n_etup (n_acons (n_epop op_addA v2_add (dp_var 2) n_int) (n_acons (n_sh n_int) (n_acons (n_ev 13) n_anil)))) (n_acons (n_etup (n_acons (n_ev 11) (n_acons (n_epop op_shl v2_shl n_int (dp_var 11)) (n_acons (n_ev 13) n_anil)))) (n_acons (n_etup (n_acons (n_ev 11) (n_acons (n_sh (n_pun un_neg v1_neg n_int)) (n_acons (n_ev 13) n_anil)))) n_anil)))))))))) (n_gname 9 sc_law.nd) (n_one (n_expr (n_app 7 (n_epop op_addA v2_add (n_pop op_addA v2_add (n_psl (dp_var 3) n_ono (n_osome (dp_var 8))) (n_ptup (n_pacons (dp_var 9) n_panil))) (n_psl (dp_var 3) (n_osome (n_pop op_addA v2_add (dp_var 8) n_int)) n_ono))))))
    (n_one (n_for (passes_of rfl) rfl (n_isq (n_elst (n_acons (n_sh n_int) (n_acons (n_sh (n_pun un_neg v1_neg n_int)) (n_acons (n_sh n_bl) (n_acons (n_sh n_str) (n_acons (n_etup (n_acons (n_sh n_int) n_anil)) n_anil))))))) (n_gname 10 sc_law.nd) (n_one (n_expr (n_app 7 (n_epop op_addA v2_add (n_pop op_addA v2_add (n_psl (dp_var 3) n_ono (n_osome (dp_var 8))) (n_ptup (n_pacons (n_ptup (n_pacons (dp_var 11) (n_pacons (dp_var 12) (n_pacons (dp_var 10) n_panil)))) n_panil))) (n_psl (dp_var 3) (n_osome (n_pop op_addA v2_add (dp_var 8) n_int)) n_ono))))))))))) n_nil)
    (n_cons (n_if (n_tup_ (n_tpcmp (op_gtA hr.units) v2_gtA (nomark _) (n_pcb call_len vl_len T.z_len bt_len (n_pacons (dp_var 3) n_panil)) n_int)) (n_one (n_expr (n_app 7 (n_erevT rfl T.z_tuple T.z_reversed (n_ev 3))))) n_nil)
    (n_one (n_ret (n_eand (n_ecmp (op_eqA hr.units) v2_eq (nomark _) (n_lc [("value", 10)] rfl sc_law.nd (n_isq (n_ev 7)) (blkOk_by (N := N_law) (sc := defScope s_law) (own := [("value", 10)]) (by decide +kernel)) (fun _ _ _ _ _ => (n_gname 10 sc_law.nd)) (fun _ _ _ _ _ => (dts_one (n_tnot (n_tval (n_ecall takes0N (ok__law_says T TB) (hr.mono (by omega)) T.g__law_says T.F__law_says.kp T.b__law_says (n_acons (n_ecall takes0N (ok_is_plan T TB) (hr.mono (by omega)) T.g_is_plan T.F_is_plan.kp T.b_is_plan (n_acons (n_ev 2) (n_acons (n_ev 10) n_anil))) (n_acons (n_sh n_bl) n_anil))))))) (fun _ _ _ _ _ => (n_ev 10))) (n_elst n_anil)) (de_one (n_ecmp DL.op_isBl DL.v2_isBl (nomark _) (n_ecall takes_body (ok_is_plan T TB) (hr.mono (by omega)) T.g_is_plan T.F_is_plan.kp T.b_is_plan (n_acons (n_sh n_int) (n_acons (n_ect call_tuple_of vl_tuple T.z_tuple bt_tuple (n_acons (n_lc [("number", 14)] rfl sc_law.nd (n_ir1 T.z_range (n_acons (n_sh n_int) n_anil)) (blkOk_by (N := N_law) (sc := defScope s_law) (own := [("number", 14)]) (by decide +kernel)) (fun _ _ _ _ _ => (n_gname 14 sc_law.nd)) (fun _ _ _ _ _ => n_tyes) (fun _ _ _ _ _ => (n_etup (n_acons (n_sh n_int) (n_acons (n_ev 14) (n_acons (n_sh n_int) n_anil)))))) n_anil)) n_anil))) (n_sh n_bl)))))))))))))))))) (fun _ _ => rfl)
end
theorem all_mk {l : PySem.W.OpenLaw} {w : World} {K : PySem.W.Frag} {h : Heap} {mg : Str → Option Value} {fa : Addr} {q : Program} (X : K.In h) (G : h.Ns mainGlobals mg) (hfa : mg "law" = some (.ref fa)) (tabs : Tabs q K h)
    {f0 : Addr} {od0 an0 : Option Addr} {sl0 : Array (Option Value)} {oc0 kV0 dc0 pm0 ct0 : Value} {cd0 : Value}
    {f1 : Addr} {od1 an1 : Option Addr} {sl1 : Array (Option Value)} {oc1 kV1 dc1 pm1 ct1 : Value} {cd1 : Value}
    {f2 : Addr} {od2 an2 : Option Addr} {sl2 : Array (Option Value)} {oc2 kV2 dc2 pm2 ct2 : Value} {cd2 : Value}
    {f3 : Addr} {od3 an3 : Option Addr} {sl3 : Array (Option Value)} {oc3 kV3 dc3 pm3 ct3 : Value} {cd3 : Value}
    {f4 : Addr} {od4 an4 : Option Addr} {sl4 : Array (Option Value)} {oc4 kV4 dc4 pm4 ct4 : Value} {cd4 : Value}
    {f5 : Addr} {od5 an5 : Option Addr} {sl5 : Array (Option Value)} {oc5 kV5 dc5 pm5 ct5 : Value} {cd5 : Value}
    {f6 : Addr} {od6 an6 : Option Addr} {sl6 : Array (Option Value)} {oc6 kV6 dc6 pm6 ct6 : Value} {cd6 : Value}
    {f7 : Addr} {od7 an7 : Option Addr} {sl7 : Array (Option Value)} {oc7 kV7 dc7 pm7 ct7 : Value} {cd7 : Value}
    {f8 : Addr} {od8 an8 : Option Addr} {sl8 : Array (Option Value)} {oc8 kV8 dc8 pm8 ct8 : Value} {cd8 : Value}
    {f9 : Addr} {od9 an9 : Option Addr} {sl9 : Array (Option Value)} {oc9 kV9 dc9 pm9 ct9 : Value} {cd9 : Value}
    {f10 : Addr} {od10 an10 : Option Addr} {sl10 : Array (Option Value)} {oc10 kV10 dc10 pm10 ct10 : Value} {cd10 : Addr}
    {f11 : Addr} {od11 an11 : Option Addr} {sl11 : Array (Option Value)} {oc11 kV11 dc11 pm11 ct11 : Value} {cd11 : Value}
    {f12 : Addr} {od12 an12 : Option Addr} {sl12 : Array (Option Value)} {oc12 kV12 dc12 pm12 ct12 : Value} {cd12 : Value}
    {f13 : Addr} {od13 an13 : Option Addr} {sl13 : Array (Option Value)} {oc13 kV13 dc13 pm13 ct13 : Value} {cd13 : Value}
    {f14 : Addr} {od14 an14 : Option Addr} {sl14 : Array (Option Value)} {oc14 kV14 dc14 pm14 ct14 : Value} {cd14 : Value}
    {f15 : Addr} {od15 an15 : Option Addr} {sl15 : Array (Option Value)} {oc15 kV15 dc15 pm15 ct15 : Value} {cd15 : Value}
    {f16 : Addr} {od16 an16 : Option Addr} {sl16 : Array (Option Value)} {oc16 kV16 dc16 pm16 ct16 : Value} {cd16 : Value}
    (a0 : PySem.W.nsIn K mainGlobals "_law_draws" = some (some (.ref f0))) (l0 : K.lookup f0 = some ⟨oc0, od0, .func (PySem.W.fnOf "_law_draws" "_law_draws" (defArgs s__law_draws) (defBody s__law_draws) (defScope s__law_draws) .none kV0 dc0 pm0 an0 cd0 ct0), sl0⟩) (c0 : PySem.W.codeIn K cd0 "_law_draws" = true) (k0 : PySem.W.keepIn K (.ref f0) = true)
    (a1 : PySem.W.nsIn K mainGlobals "_law_take" = some (some (.ref f1))) (l1 : K.lookup f1 = some ⟨oc1, od1, .func (PySem.W.fnOf "_law_take" "_law_take" (defArgs s__law_take) (defBody s__law_take) (defScope s__law_take) .none kV1 dc1 pm1 an1 cd1 ct1), sl1⟩) (c1 : PySem.W.codeIn K cd1 "_law_take" = true) (k1 : PySem.W.keepIn K (.ref f1) = true)
    (a2 : PySem.W.nsIn K mainGlobals "_law_plan" = some (some (.ref f2))) (l2 : K.lookup f2 = some ⟨oc2, od2, .func (PySem.W.fnOf "_law_plan" "_law_plan" (defArgs s__law_plan) (defBody s__law_plan) (defScope s__law_plan) .none kV2 dc2 pm2 an2 cd2 ct2), sl2⟩) (c2 : PySem.W.codeIn K cd2 "_law_plan" = true) (k2 : PySem.W.keepIn K (.ref f2) = true)
    (a3 : PySem.W.nsIn K mainGlobals "_law_exit" = some (some (.ref f3))) (l3 : K.lookup f3 = some ⟨oc3, od3, .func (PySem.W.fnOf "_law_exit" "_law_exit" (defArgs s__law_exit) (defBody s__law_exit) (defScope s__law_exit) .none kV3 dc3 pm3 an3 cd3 ct3), sl3⟩) (c3 : PySem.W.codeIn K cd3 "_law_exit" = true) (k3 : PySem.W.keepIn K (.ref f3) = true)
    (a4 : PySem.W.nsIn K mainGlobals "_law_exits" = some (some (.ref f4))) (l4 : K.lookup f4 = some ⟨oc4, od4, .func (PySem.W.fnOf "_law_exits" "_law_exits" (defArgs s__law_exits) (defBody s__law_exits) (defScope s__law_exits) .none kV4 dc4 pm4 an4 cd4 ct4), sl4⟩) (c4 : PySem.W.codeIn K cd4 "_law_exits" = true) (k4 : PySem.W.keepIn K (.ref f4) = true)
    (a5 : PySem.W.nsIn K mainGlobals "_law_alike" = some (some (.ref f5))) (l5 : K.lookup f5 = some ⟨oc5, od5, .func (PySem.W.fnOf "_law_alike" "_law_alike" (defArgs s__law_alike) (defBody s__law_alike) (defScope s__law_alike) .none kV5 dc5 pm5 an5 cd5 ct5), sl5⟩) (c5 : PySem.W.codeIn K cd5 "_law_alike" = true) (k5 : PySem.W.keepIn K (.ref f5) = true)
    (a6 : PySem.W.nsIn K mainGlobals "_law_says" = some (some (.ref f6))) (l6 : K.lookup f6 = some ⟨oc6, od6, .func (PySem.W.fnOf "_law_says" "_law_says" (defArgs s__law_says) (defBody s__law_says) (defScope s__law_says) .none kV6 dc6 pm6 an6 cd6 ct6), sl6⟩) (c6 : PySem.W.codeIn K cd6 "_law_says" = true) (k6 : PySem.W.keepIn K (.ref f6) = true)
    (a7 : PySem.W.nsIn K mainGlobals "is_number" = some (some (.ref f7))) (l7 : K.lookup f7 = some ⟨oc7, od7, .func (PySem.W.fnOf "is_number" "is_number" (defArgs s_is_number) (defBody s_is_number) (defScope s_is_number) .none kV7 dc7 pm7 an7 cd7 ct7), sl7⟩) (c7 : PySem.W.codeIn K cd7 "is_number" = true) (k7 : PySem.W.keepIn K (.ref f7) = true)
    (a8 : PySem.W.nsIn K mainGlobals "is_prefix" = some (some (.ref f8))) (l8 : K.lookup f8 = some ⟨oc8, od8, .func (PySem.W.fnOf "is_prefix" "is_prefix" (defArgs s_is_prefix) (defBody s_is_prefix) (defScope s_is_prefix) .none kV8 dc8 pm8 an8 cd8 ct8), sl8⟩) (c8 : PySem.W.codeIn K cd8 "is_prefix" = true) (k8 : PySem.W.keepIn K (.ref f8) = true)
    (a9 : PySem.W.nsIn K mainGlobals "is_exit" = some (some (.ref f9))) (l9 : K.lookup f9 = some ⟨oc9, od9, .func (PySem.W.fnOf "is_exit" "is_exit" (defArgs s_is_exit) (defBody s_is_exit) (defScope s_is_exit) .none kV9 dc9 pm9 an9 cd9 ct9), sl9⟩) (c9 : PySem.W.codeIn K cd9 "is_exit" = true) (k9 : PySem.W.keepIn K (.ref f9) = true)
    (a10 : PySem.W.nsIn K mainGlobals "is_plan" = some (some (.ref f10))) (l10 : K.lookup f10 = some ⟨oc10, od10, .func (PySem.W.fnOf "is_plan" "is_plan" (defArgs s_is_plan) (defBody s_is_plan) (defScope s_is_plan) .none kV10 dc10 pm10 an10 (.ref cd10) ct10), sl10⟩) (c10 : PySem.W.codeIn K (.ref cd10) "is_plan" = true) (k10 : PySem.W.keepIn K (.ref f10) = true)
    (a11 : PySem.W.nsIn K mainGlobals "covers" = some (some (.ref f11))) (l11 : K.lookup f11 = some ⟨oc11, od11, .func (PySem.W.fnOf "covers" "covers" (defArgs s_covers) (defBody s_covers) (defScope s_covers) .none kV11 dc11 pm11 an11 cd11 ct11), sl11⟩) (c11 : PySem.W.codeIn K cd11 "covers" = true) (k11 : PySem.W.keepIn K (.ref f11) = true)
    (a12 : PySem.W.nsIn K mainGlobals "exit_of" = some (some (.ref f12))) (l12 : K.lookup f12 = some ⟨oc12, od12, .func (PySem.W.fnOf "exit_of" "exit_of" (defArgs s_exit_of) (defBody s_exit_of) (defScope s_exit_of) .none kV12 dc12 pm12 an12 cd12 ct12), sl12⟩) (c12 : PySem.W.codeIn K cd12 "exit_of" = true) (k12 : PySem.W.keepIn K (.ref f12) = true)
    (a13 : PySem.W.nsIn K mainGlobals "ends" = some (some (.ref f13))) (l13 : K.lookup f13 = some ⟨oc13, od13, .func (PySem.W.fnOf "ends" "ends" (defArgs s_ends) (defBody s_ends) (defScope s_ends) .none kV13 dc13 pm13 an13 cd13 ct13), sl13⟩) (c13 : PySem.W.codeIn K cd13 "ends" = true) (k13 : PySem.W.keepIn K (.ref f13) = true)
    (a14 : PySem.W.nsIn K mainGlobals "borders" = some (some (.ref f14))) (l14 : K.lookup f14 = some ⟨oc14, od14, .func (PySem.W.fnOf "borders" "borders" (defArgs s_borders) (defBody s_borders) (defScope s_borders) .none kV14 dc14 pm14 an14 cd14 ct14), sl14⟩) (c14 : PySem.W.codeIn K cd14 "borders" = true) (k14 : PySem.W.keepIn K (.ref f14) = true)
    (a15 : PySem.W.nsIn K mainGlobals "spread" = some (some (.ref f15))) (l15 : K.lookup f15 = some ⟨oc15, od15, .func (PySem.W.fnOf "spread" "spread" (defArgs s_spread) (defBody s_spread) (defScope s_spread) .none kV15 dc15 pm15 an15 cd15 ct15), sl15⟩) (c15 : PySem.W.codeIn K cd15 "spread" = true) (k15 : PySem.W.keepIn K (.ref f15) = true)
    (a16 : PySem.W.nsIn K mainGlobals "law" = some (some (.ref f16))) (l16 : K.lookup f16 = some ⟨oc16, od16, .func (PySem.W.fnOf "law" "law" (defArgs s_law) (defBody s_law) (defScope s_law) .none kV16 dc16 pm16 an16 cd16 ct16), sl16⟩) (c16 : PySem.W.codeIn K cd16 "law" = true) (k16 : PySem.W.keepIn K (.ref f16) = true)
    (z_abs : PySem.W.nsIn K mainGlobals "abs" = some none)
    (z_all : PySem.W.nsIn K mainGlobals "all" = some none)
    (z_bool : PySem.W.nsIn K mainGlobals "bool" = some none)
    (z_int : PySem.W.nsIn K mainGlobals "int" = some none)
    (z_isinstance : PySem.W.nsIn K mainGlobals "isinstance" = some none)
    (z_len : PySem.W.nsIn K mainGlobals "len" = some none)
    (z_list : PySem.W.nsIn K mainGlobals "list" = some none)
    (z_min : PySem.W.nsIn K mainGlobals "min" = some none)
    (z_range : PySem.W.nsIn K mainGlobals "range" = some none)
    (z_reversed : PySem.W.nsIn K mainGlobals "reversed" = some none)
    (z_sorted : PySem.W.nsIn K mainGlobals "sorted" = some none)
    (z_str : PySem.W.nsIn K mainGlobals "str" = some none)
    (z_tuple : PySem.W.nsIn K mainGlobals "tuple" = some none)
    {u_MOST_EXIT : Tok} (w_MOST_EXIT : PySem.W.nsIn K mainGlobals "MOST_EXIT" = some (some (.int 99 u_MOST_EXIT)))
    {u_MOST_ROWS : Tok} (w_MOST_ROWS : PySem.W.nsIn K mainGlobals "MOST_ROWS" = some (some (.int 60 u_MOST_ROWS)))
    {dr10 : DefRec} {ce10 : Value} {cx10 : Option Addr} {cv10 : Array Value} {cs10 : Array (Option Value)} {tp10 : Addr} (q10 : (recsOf q).find? (fun e => e.name == ("is_plan" : Str)) = some dr10) (m10 : K.lookup cd10 = some ⟨ce10, cx10, .fields cv10, cs10⟩) (v10 : cv10[11]? = some (.ref tp10)) (n10 : K.lookup tp10 = none)
    (hm : ∀ ns : List Int, ns.length ≤ 63 → m_law [.scr ns] = .ok (.bl true)) :
    ∃ (fd : FuncData) (cs : List (Addr × Addr)), (∀ p ∈ cs, CTab K h p.1 p.2) ∧ (∀ (s : Shared) (v : Value), BindsTo s fd ⟨[v], []⟩ [("script", v)]) ∧ ∀ base : Heap, K.In base → base.Ns mainGlobals mg → (∀ p ∈ cs, LamX.TabB base mg p.1 p.2) → FnOk l.prog w K mg base (L2N.CX l.prog w) 42 fa fd ["script"] (spLaw K (cs.map (·.2))) := by
  have e := hfa.symm.trans (PySem.W.mg_of X G a16)
  cases e
  have F0 := fun_mk (st := s__law_draws) l0 c0 k0
  have B0 := F0.binds (ps := ["script"]) fun _ _ _ _ _ _ us hl => match us, hl with | [_], _ => rfl
  have F1 := fun_mk (st := s__law_take) l1 c1 k1
  have B1 := F1.binds (ps := ["draws", "bound"]) fun _ _ _ _ _ _ us hl => match us, hl with | [_, _], _ => rfl
  have F2 := fun_mk (st := s__law_plan) l2 c2 k2
  have B2 := F2.binds (ps := ["draws", "width", "most"]) fun _ _ _ _ _ _ us hl => match us, hl with | [_, _, _], _ => rfl
  have F3 := fun_mk (st := s__law_exit) l3 c3 k3
  have B3 := F3.binds (ps := ["width", "plan", "address"]) fun _ _ _ _ _ _ us hl => match us, hl with | [_, _, _], _ => rfl
  have F4 := fun_mk (st := s__law_exits) l4 c4 k4
  have B4 := F4.binds (ps := ["width", "plan"]) fun _ _ _ _ _ _ us hl => match us, hl with | [_, _], _ => rfl
  have F5 := fun_mk (st := s__law_alike) l5 c5 k5
  have B5 := F5.binds (ps := ["found", "due"]) fun _ _ _ _ _ _ us hl => match us, hl with | [_, _], _ => rfl
  have F6 := fun_mk (st := s__law_says) l6 c6 k6
  have B6 := F6.binds (ps := ["told", "due"]) fun _ _ _ _ _ _ us hl => match us, hl with | [_, _], _ => rfl
  have F7 := fun_mk (st := s_is_number) l7 c7 k7
  have B7 := F7.binds (ps := ["value", "least", "most"]) fun _ _ _ _ _ _ us hl => match us, hl with | [_, _, _], _ => rfl
  have F8 := fun_mk (st := s_is_prefix) l8 c8 k8
  have B8 := F8.binds (ps := ["width", "value"]) fun _ _ _ _ _ _ us hl => match us, hl with | [_, _], _ => rfl
  have F9 := fun_mk (st := s_is_exit) l9 c9 k9
  have B9 := F9.binds (ps := ["value"]) fun _ _ _ _ _ _ us hl => match us, hl with | [_], _ => rfl
  have F10 := fun_mk (st := s_is_plan) l10 c10 k10
  have B10 := F10.binds (ps := ["width", "value"]) fun _ _ _ _ _ _ us hl => match us, hl with | [_, _], _ => rfl
  have F11 := fun_mk (st := s_covers) l11 c11 k11
  have B11 := F11.binds (ps := ["width", "prefix", "address"]) fun _ _ _ _ _ _ us hl => match us, hl with | [_, _, _], _ => rfl
  have F12 := fun_mk (st := s_exit_of) l12 c12 k12
  have B12 := F12.binds (ps := ["width", "plan", "address"]) fun _ _ _ _ _ _ us hl => match us, hl with | [_, _, _], _ => rfl
  have F13 := fun_mk (st := s_ends) l13 c13 k13
  have B13 := F13.binds (ps := ["width", "prefix"]) fun _ _ _ _ _ _ us hl => match us, hl with | [_, _], _ => rfl
  have F14 := fun_mk (st := s_borders) l14 c14 k14
  have B14 := F14.binds (ps := ["width", "plans"]) fun _ _ _ _ _ _ us hl => match us, hl with | [_, _], _ => rfl
  have F15 := fun_mk (st := s_spread) l15 c15 k15
  have B15 := F15.binds (ps := ["width", "plan"]) fun _ _ _ _ _ _ us hl => match us, hl with | [_, _], _ => rfl
  have F16 := fun_mk (st := s_law) l16 c16 k16
  have B16 := F16.binds (ps := ["script"]) fun _ _ _ _ _ _ us hl => match us, hl with | [_], _ => rfl
  let T : Txt K mg := { f__law_draws := f0, d__law_draws := _, F__law_draws := F0, g__law_draws := PySem.W.mg_of X G a0, b__law_draws := B0, f__law_take := f1, d__law_take := _, F__law_take := F1, g__law_take := PySem.W.mg_of X G a1, b__law_take := B1, f__law_plan := f2, d__law_plan := _, F__law_plan := F2, g__law_plan := PySem.W.mg_of X G a2, b__law_plan := B2, f__law_exit := f3, d__law_exit := _, F__law_exit := F3, g__law_exit := PySem.W.mg_of X G a3, b__law_exit := B3, f__law_exits := f4, d__law_exits := _, F__law_exits := F4, g__law_exits := PySem.W.mg_of X G a4, b__law_exits := B4, f__law_alike := f5, d__law_alike := _, F__law_alike := F5, g__law_alike := PySem.W.mg_of X G a5, b__law_alike := B5, f__law_says := f6, d__law_says := _, F__law_says := F6, g__law_says := PySem.W.mg_of X G a6, b__law_says := B6, f_is_number := f7, d_is_number := _, F_is_number := F7, g_is_number := PySem.W.mg_of X G a7, b_is_number := B7, f_is_prefix := f8, d_is_prefix := _, F_is_prefix := F8, g_is_prefix := PySem.W.mg_of X G a8, b_is_prefix := B8, f_is_exit := f9, d_is_exit := _, F_is_exit := F9, g_is_exit := PySem.W.mg_of X G a9, b_is_exit := B9, f_is_plan := f10, d_is_plan := _, F_is_plan := F10, g_is_plan := PySem.W.mg_of X G a10, b_is_plan := B10, f_covers := f11, d_covers := _, F_covers := F11, g_covers := PySem.W.mg_of X G a11, b_covers := B11, f_exit_of := f12, d_exit_of := _, F_exit_of := F12, g_exit_of := PySem.W.mg_of X G a12, b_exit_of := B12, f_ends := f13, d_ends := _, F_ends := F13, g_ends := PySem.W.mg_of X G a13, b_ends := B13, f_borders := f14, d_borders := _, F_borders := F14, g_borders := PySem.W.mg_of X G a14, b_borders := B14, f_spread := f15, d_spread := _, F_spread := F15, g_spread := PySem.W.mg_of X G a15, b_spread := B15, f_law := fa, d_law := _, F_law := F16, g_law := PySem.W.mg_of X G a16, b_law := B16, z_abs := PySem.W.mg_none_of X G z_abs, z_all := PySem.W.mg_none_of X G z_all, z_bool := PySem.W.mg_none_of X G z_bool, z_int := PySem.W.mg_none_of X G z_int, z_isinstance := PySem.W.mg_none_of X G z_isinstance, z_len := PySem.W.mg_none_of X G z_len, z_list := PySem.W.mg_none_of X G z_list, z_min := PySem.W.mg_none_of X G z_min, z_range := PySem.W.mg_none_of X G z_range, z_reversed := PySem.W.mg_none_of X G z_reversed, z_sorted := PySem.W.mg_none_of X G z_sorted, z_str := PySem.W.mg_none_of X G z_str, z_tuple := PySem.W.mg_none_of X G z_tuple, w_MOST_EXIT := ⟨_, PySem.W.mg_of X G w_MOST_EXIT⟩, w_MOST_ROWS := ⟨_, PySem.W.mg_of X G w_MOST_ROWS⟩, c_is_plan := cd10, t_is_plan := tp10, e_is_plan := rfl }
  have t10 := tabs _ _ _ _ q10 (tabIn_of a10 l10 rfl m10 v10) n10
  exact ⟨PySem.W.fnOf "law" "law" (defArgs s_law) (defBody s_law) (defScope s_law) .none kV16 dc16 pm16 an16 cd16 ct16, T.cs, fun p hp => by simp only [Txt.cs, List.mem_cons, List.not_mem_nil, or_false] at hp; rcases hp with rfl <;> assumption, fun s v => .of_eq rfl, fun base _ _ TB => law_imp rfl (ok_law T TB) hm⟩
end Lw

/-! P06: plans, plain. -/
namespace Pl
abbrev PRow := (Nat × Nat) × Option Nat
def ltK (k k' : Nat × Nat) : Bool := decide (k.1 < k'.1) || (decide (k.1 = k'.1) && decide (k.2 < k'.2))
theorem ltK_iff {k k' : Nat × Nat} : ltK k k' = true ↔ k.1 < k'.1 ∨ (k.1 = k'.1 ∧ k.2 < k'.2) := by simp [ltK]
theorem ltK_irr {k : Nat × Nat} : ltK k k = false := by
  cases h : ltK k k with
  | false => rfl
  | true => rw [ltK_iff] at h; omega
theorem ltK_asy {k k' : Nat × Nat} (h : ltK k k' = true) : ltK k' k = false := by
  cases h' : ltK k' k with
  | false => rfl
  | true => rw [ltK_iff] at h h'; omega
structure OkR (w : Nat) (r : PRow) : Prop where
  l : r.1.1 ≤ w
  b : r.1.2 < 2 ^ r.1.1
  x : ∀ x, r.2 = some x → x ≤ 99
structure Ok (w : Nat) (p : List PRow) : Prop where
  rows : ∀ r ∈ p, OkR w r
  ord : p.Pairwise fun r r' => ltK r.1 r'.1 = true
def covB (w : Nat) (r : PRow) (a : Nat) : Bool := decide (a / 2 ^ (w - r.1.1) = r.1.2)
def exitF (w : Nat) (p : List PRow) (a : Nat) : Option Nat := p.foldl (fun f r => if covB w r a = true then r.2 else f) none
def lexB (w : Nat) (p : List PRow) (a : Nat) (b0 : Int × Option Nat) : Int × Option Nat := p.foldl (fun b r => if covB w r a = true ∧ b.1 < r.1.1 then (r.1.1, r.2) else b) b0
theorem lex_eq {w a : Nat} : ∀ {p : List PRow} {b : Int × Option Nat}, p.Pairwise (fun r r' => ltK r.1 r'.1 = true) → (∀ r ∈ p, covB w r a = true → b.1 < r.1.1) →
    (lexB w p a b).2 = p.foldl (fun f r => if covB w r a = true then r.2 else f) b.2
  | [], _, _, _ => rfl
  | r :: p, b, hp, h => by
    have hp' := List.pairwise_cons.mp hp
    unfold lexB
    rw [List.foldl_cons, List.foldl_cons]
    by_cases c : covB w r a = true
    · have c2 := h r (by simp) c
      rw [if_pos ⟨c, c2⟩, if_pos c]
      refine lex_eq (b := (r.1.1, r.2)) hp'.2 fun r' hr' c' => ?_
      have lt := hp'.1 r' hr'
      rw [ltK_iff] at lt
      show ((r.1.1 : Nat) : Int) < r'.1.1
      rcases lt with lt | ⟨e, lt⟩
      · omega
      · unfold covB at c c'
        rw [decide_eq_true_eq] at c c'
        rw [← e, c] at c'
        omega
    · rw [if_neg (fun z => c z.1), if_neg c]
      exact lex_eq hp'.2 fun r' hr' => h r' (by simp [hr'])
theorem lex_exit {w a : Nat} {p : List PRow} (h : Ok w p) : (lexB w p a (-1, none)).2 = exitF w p a := lex_eq h.ord fun r _ _ => by show (-1 : Int) < _; omega
/-! ### where exits change -/
def foR (w : Nat) (r : PRow) : List Nat := [r.1.2 * 2 ^ (w - r.1.1), (r.1.2 + 1) * 2 ^ (w - r.1.1)]
def foP (w : Nat) (p : List PRow) : List Nat := p.flatMap (foR w)
def foF (w : Nat) (ps : List (List PRow)) : List Nat := 0 :: ps.flatMap (foP w)
theorem cov_iff {w a : Nat} {r : PRow} : covB w r a = true ↔ r.1.2 * 2 ^ (w - r.1.1) ≤ a ∧ a < (r.1.2 + 1) * 2 ^ (w - r.1.1) := by
  unfold covB
  rw [decide_eq_true_eq]
  have hp : 0 < 2 ^ (w - r.1.1) := Nat.pow_pos (by decide)
  generalize 2 ^ (w - r.1.1) = d at *
  constructor
  · intro e
    rw [← e]
    exact ⟨Nat.div_mul_le_self a d, by have := Nat.lt_div_mul_add (a := a) hp; rw [Nat.add_mul, Nat.one_mul]; exact this⟩
  · rintro ⟨h1, h2⟩
    exact Nat.le_antisymm (Nat.lt_succ_iff.mp ((Nat.div_lt_iff_lt_mul hp).mpr h2)) ((Nat.le_div_iff_mul_le hp).mpr h1)
/-- from m on to a nothing begins and nothing ends -/
theorem cov_same {w m a : Nat} {r : PRow} (hma : m ≤ a) (h : ∀ x ∈ foR w r, ¬ (m < x ∧ x ≤ a)) : covB w r a = covB w r m := by
  have h1 := h _ (by simp [foR] : r.1.2 * 2 ^ (w - r.1.1) ∈ foR w r)
  have h2 := h _ (by simp [foR] : (r.1.2 + 1) * 2 ^ (w - r.1.1) ∈ foR w r)
  rw [Bool.eq_iff_iff, cov_iff, cov_iff]
  omega
theorem foldl_same {α β : Type} {f g : β → α → β} : ∀ {l : List α} {b : β}, (∀ a ∈ l, ∀ b, f b a = g b a) → l.foldl f b = l.foldl g b
  | [], _, _ => rfl
  | a :: l, b, h => by
    rw [List.foldl_cons, List.foldl_cons, h a (by simp)]
    exact foldl_same fun a' ha b => h a' (by simp [ha]) b
theorem exit_same {w m a : Nat} {p : List PRow} (hma : m ≤ a) (h : ∀ x ∈ foP w p, ¬ (m < x ∧ x ≤ a)) : exitF w p a = exitF w p m := by
  unfold exitF
  refine foldl_same fun r hr b => ?_
  rw [cov_same hma fun x hx => h x (List.mem_flatMap.mpr ⟨r, hr, hx⟩)]
/-! ### spans with one exit -/
abbrev PSp := Nat × Nat × Option Nat
def push (F : List PSp) (q : PSp) : List PSp := match F.getLast? with
  | some l => if l.2.2 = q.2.2 then F.dropLast ++ [(l.1, q.2.1, q.2.2)] else F ++ [q]
  | none => [q]
theorem push_nil {q : PSp} : push [] q = [q] := rfl
theorem push_app {F : List PSp} {l q : PSp} : push (F ++ [l]) q = if l.2.2 = q.2.2 then F ++ [(l.1, q.2.1, q.2.2)] else F ++ [l] ++ [q] := by
  unfold push
  rw [List.getLast?_concat]
  dsimp only
  rw [List.dropLast_concat]
theorem push_end {F : List PSp} {q : PSp} : ∃ F' f, push F q = F' ++ [(f, q.2.1, q.2.2)] := by
  rcases List.eq_nil_or_concat F with rfl | ⟨F, l, rfl⟩
  · exact ⟨[], q.1, rfl⟩
  · rw [List.concat_eq_append, push_app]
    split
    · exact ⟨F, l.1, rfl⟩
    · exact ⟨F ++ [l], q.1, rfl⟩
theorem push_push {F : List PSp} {a b c d : Nat} {x : Option Nat} : push (push F (a, b, x)) (c, d, x) = push F (a, d, x) := by
  rcases List.eq_nil_or_concat F with rfl | ⟨F, l, rfl⟩
  · rw [push_nil, push_nil, show [((a, b, x) : PSp)] = [] ++ [(a, b, x)] from rfl, push_app, if_pos rfl]
    rfl
  · rw [List.concat_eq_append, push_app, push_app]
    split
    · rename_i h
      rw [push_app, if_pos rfl]
    · rename_i h
      rw [push_app, if_pos rfl]
def addr (e : Nat → Option Nat) (F : List PSp) (m n : Nat) : List PSp := (List.range' m n).foldl (fun F a => push F (a, a, e a)) F
theorem addr_add {e : Nat → Option Nat} {F : List PSp} {m n k : Nat} : addr e F m (n + k) = addr e (addr e F m n) (m + n) k := by
  unfold addr
  rw [← List.foldl_append]
  congr 1
  have := List.range'_append (s := m) (m := n) (n := k) (step := 1)
  rw [Nat.one_mul] at this
  exact this.symm
theorem addr_const {e : Nat → Option Nat} {F : List PSp} {m : Nat} {x : Option Nat} : ∀ n : Nat, (∀ a, m ≤ a → a ≤ m + n → e a = x) → addr e F m (n + 1) = push F (m, m + n, x)
  | 0, h => by
    show push F (m, m, e m) = _
    rw [h m (by omega) (by omega)]
    rfl
  | n + 1, h => by
    rw [addr_add, addr_const n fun a h1 h2 => h a h1 (by omega)]
    show push _ (m + (n + 1), m + (n + 1), e (m + (n + 1))) = _
    rw [h _ (by omega) (by omega), push_push]
def due (e : Nat → Option Nat) (n : Nat) : List PSp := addr e [] 0 n
/-- marks: M 0 = 0 < M 1 < .. < M k, one exit from each to the next -/
def blk (e : Nat → Option Nat) (M : Nat → Nat) (k : Nat) : List PSp := (List.range k).foldl (fun F i => push F (M i, M (i + 1) - 1, e (M i))) []
theorem blk_due {e : Nat → Option Nat} {M : Nat → Nat} : ∀ {k : Nat}, M 0 = 0 → (∀ i < k, M i < M (i + 1)) → (∀ i < k, ∀ a, M i ≤ a → a < M (i + 1) → e a = e (M i)) → blk e M k = due e (M k)
  | 0, h0, _, _ => by rw [due, h0]; rfl
  | k + 1, h0, h1, h2 => by
    have ih := blk_due (k := k) h0 (fun i hi => h1 i (by omega)) fun i hi => h2 i (by omega)
    unfold blk at ih ⊢
    rw [List.range_succ, List.foldl_append, ih, List.foldl_cons, List.foldl_nil]
    have lt := h1 k (by omega)
    obtain ⟨n, hn⟩ : ∃ n, M (k + 1) = M k + (n + 1) := ⟨M (k + 1) - M k - 1, by omega⟩
    unfold due
    rw [hn, addr_add, Nat.zero_add, addr_const (x := e (M k)) n fun a ha hb => h2 k (by omega) a ha (by omega)]
    rfl
/-! ### ascending -/
def ascB (p : List PRow) : Bool := (List.range (p.length - 1)).all fun j => match p[j]?, p[j + 1]? with
  | some r, some r' => ltK r.1 r'.1
  | _, _ => true
theorem asc_ok {p : List PRow} (h : p.Pairwise fun r r' => ltK r.1 r'.1 = true) : ascB p = true := by
  unfold ascB
  rw [List.all_eq_true]
  intro j hj
  have hj := List.mem_range.mp hj
  rw [List.getElem?_eq_getElem (by omega), List.getElem?_eq_getElem (by omega)]
  exact List.pairwise_iff_getElem.mp h j (j + 1) (by omega) (by omega) (by omega)
theorem asc_no {p : List PRow} (j : Nat) {r r' : PRow} (h1 : p[j]? = some r) (h2 : p[j + 1]? = some r') (h : ltK r.1 r'.1 = false) : ascB p = false := by
  unfold ascB
  rw [List.all_eq_false]
  have := (List.getElem?_eq_some_iff.mp h2).1
  refine ⟨j, List.mem_range.mpr (by omega), ?_⟩
  rw [h1, h2]
  dsimp only
  rw [h]
  decide
end Pl

namespace Lw
open PySem PySem.Spec PyProof.Rows L2 DL Pl
theorem d_draws : m__law_draws = m_drawsB := rfl
theorem d_take : m__law_take = m_takeB := rfl
theorem d_says : m__law_says = m_says := rfl
theorem d_alike : ∀ n, m__law_alike n = m_alike n
  | 0 => funext fun _ => rfl
  | n + 1 => funext fun ds => by
    rw [m__law_alike, m_alike, d_alike n]
    rfl
theorem take_nat {L : List Int} {b : Int} (hb : 0 < b) : ∃ (x : Nat) (L' : List Int), m_takeB [iL L, .int b] = .ok (.int x) (iL L') ∧ (x : Int) < b := by
  obtain ⟨x, L', e, h0, h1⟩ := take_okB (L := L) hb
  obtain ⟨n, rfl⟩ := Int.eq_ofNat_of_zero_le h0
  exact ⟨n, L', e, h1⟩
/-! ### rows as data -/
abbrev nD (n : Nat) : D := .int n
def xD : Option Nat → D
  | none => .non
  | some n => .int n
def rowD (r : PRow) : D := .tup [.int r.1.1, .int r.1.2, xD r.2]
def plD (p : List PRow) : D := .tup (p.map rowD)
@[simp] theorem sh_xD {x : Option Nat} : (xD x).sh = true := by cases x <;> rfl
@[simp] theorem dep_xD {x : Option Nat} : (xD x).dep = 0 := by cases x <;> simp [xD]
@[simp] theorem frz_xD {x : Option Nat} : (xD x).frz = xD x := frz_sh _ sh_xD
@[simp] theorem sh_rowD {r : PRow} : (rowD r).sh = true := by simp [rowD]
@[simp] theorem frz_rowD {r : PRow} : (rowD r).frz = rowD r := frz_sh _ sh_rowD
@[simp] theorem shL_rows {p : List PRow} : D.shL (p.map rowD) = true := shL_map fun _ _ => sh_rowD
@[simp] theorem sh_plD {p : List PRow} : (plD p).sh = true := by simp [plD]
@[simp] theorem frz_plD {p : List PRow} : (plD p).frz = plD p := frz_sh _ sh_plD
theorem eqv_xD {x y : Option Nat} : D.eqv (xD x) (xD y) = decide (x = y) := by
  cases x <;> cases y <;> simp [xD, D.eqv]
  rw [Bool.eq_iff_iff]; simp; omega
@[simp] theorem dEq_xD {x y : Option Nat} : dEq (xD x) (xD y) = some (.bl (decide (x = y))) := by
  rw [dEq_dep (by simp) (by simp), eqv_xD]
@[simp] theorem dNe_xD {x y : Option Nat} : dNe (xD x) (xD y) = some (.bl (!decide (x = y))) := by
  rw [dNe_dep (by simp) (by simp), eqv_xD]
/-! ### judging -/
theorem e_num {v lo hi : Int} : m_is_number [.int v, .int lo, .int hi] = .ok (.bl (decide (lo ≤ v ∧ v ≤ hi))) := by
  unfold m_is_number b_is_number
  by_cases h1 : lo ≤ v <;> by_cases h2 : v ≤ hi <;> simp [h1, h2]
theorem e_numB {v : Bool} {x y : D} (hx : x.sh = true) (hy : y.sh = true) : m_is_number [.bl v, x, y] = .ok (.bl false) := by
  unfold m_is_number b_is_number
  simp
theorem e_numN {x y : D} (hx : x.sh = true) (hy : y.sh = true) : m_is_number [.non, x, y] = .ok (.bl false) := by
  unfold m_is_number b_is_number
  simp
theorem e_numS {z : Str} {x y : D} (hx : x.sh = true) (hy : y.sh = true) : m_is_number [.str z, x, y] = .ok (.bl false) := by
  unfold m_is_number b_is_number
  simp
theorem e_numT {z : List D} {x y : D} (hz : D.shL z = true) (hx : x.sh = true) (hy : y.sh = true) : m_is_number [.tup z, x, y] = .ok (.bl false) := by
  unfold m_is_number b_is_number
  simp [hz]
theorem e_pre {w : Nat} {l b : Int} (hw : w ≤ 16) : m_is_prefix [.int w, .tup [.int l, .int b]] = .ok (.bl (decide (0 ≤ l ∧ l ≤ w ∧ 0 ≤ b ∧ b < 2 ^ l.toNat))) := by
  unfold m_is_prefix b_is_prefix
  refine outP_eq ?_
  by_cases h1 : 0 ≤ l ∧ l ≤ w
  · have h3 : l ≤ 1000000 := by omega
    have h5 : (0 ≤ b ∧ b ≤ 2 ^ l.toNat - 1) ↔ (0 ≤ l ∧ l ≤ w ∧ 0 ≤ b ∧ b < 2 ^ l.toNat) := by omega
    have h4 : (decide (0 ≤ b ∧ b ≤ 2 ^ l.toNat - 1)) = decide (0 ≤ l ∧ l ≤ w ∧ 0 ≤ b ∧ b < 2 ^ l.toNat) := by rw [Bool.eq_iff_iff, decide_eq_true_eq, decide_eq_true_eq]; exact h5
    rw [← h4]
    simp [List.replicate, e_num, h1.1, h1.2, h3]
  · have h4 : decide (0 ≤ l ∧ l ≤ w ∧ 0 ≤ b ∧ b < 2 ^ l.toNat) = false := decide_eq_false fun z => h1 ⟨z.1, z.2.1⟩
    rw [h4]
    simp [List.replicate, e_num, h1]
theorem e_exit {x : Option Nat} (h : ∀ v, x = some v → v ≤ 99) : m_is_exit [xD x] = .ok (.bl true) := by
  unfold m_is_exit b_is_exit
  cases x with
  | none => simp [xD]
  | some n =>
    have := h n rfl
    simp [xD, e_num]
    omega
def rowT : BE := tUp (tpOr (tpNot (bP (pUn (dIsi .tuple) (getP 2)))) (tpOr (bP (pOp dNe (pCB dLen (paCons (getP 2) paNil)) (pC (.int 3)))) (tpOr (tpNot (bP (pCall 2 m_is_prefix (paCons (getP 0) (paCons (pSl (getP 2) oNo (oSome (pC (.int 2)))) paNil))))) (tpNot (bP (pCall 1 m_is_exit (paCons (pIx (getP 2) (pC (.int 2))) paNil)))))))
def BadR (w : Nat) (d : D) : Prop := d.sh = true ∧ ∀ v : D, rowT [some (.int w), some v, some d, none] = .ok true [some (.int w), some v, some d, none]
theorem sl3 {a b c : D} (h : D.shL [a, b, c] = true) : dSl none (some 2) (.tup [a, b, c]) = some (.tup [a, b]) := by
  rw [dSl_t h]
  rfl
theorem row_ok {w : Nat} {r : PRow} {v : D} (hw : w ≤ 16) (h : OkR w r) : rowT [some (.int w), some v, some (rowD r), none] = .ok false [some (.int w), some v, some (rowD r), none] := by
  have e1 := e_pre (w := w) (l := r.1.1) (b := r.1.2) hw
  have hb : ((r.1.2 : Nat) : Int) < 2 ^ r.1.1 := by exact_mod_cast h.b
  have hl := h.l
  have e2 : (decide ((0 : Int) ≤ (r.1.1 : Nat) ∧ ((r.1.1 : Nat) : Int) ≤ w ∧ (0 : Int) ≤ (r.1.2 : Nat) ∧ ((r.1.2 : Nat) : Int) < 2 ^ ((r.1.1 : Nat) : Int).toNat)) = true := by
    rw [decide_eq_true_eq, Int.toNat_natCast]
    exact ⟨by omega, by omega, by omega, hb⟩
  rw [e2] at e1
  have e3 := e_exit h.x
  have e4 := sl3 (a := .int r.1.1) (b := .int r.1.2) (c := xD r.2) (by simp)
  simp [rowT, rowD, e1, e3, e4]
theorem bad_non {w : Nat} : BadR w .non := ⟨by simp, fun v => by simp [rowT]⟩
theorem bad_lst {w : Nat} {ds : List D} (h : D.shL ds = true) : BadR w (.lst false ds) := ⟨by simp [h], fun v => by simp [rowT]⟩
theorem bad_len {w : Nat} {ds : List D} (h : D.shL ds = true) (hl : ds.length ≠ 3) : BadR w (.tup ds) := ⟨by simp [h], fun v => by
  have : ¬ ((ds.length : Int) = 3) := by omega
  simp [rowT, this]⟩
theorem bad_pre {w : Nat} {l b : Int} {x : D} (hw : w ≤ 16) (hx : x.sh = true) (h : ¬ (0 ≤ l ∧ l ≤ w ∧ 0 ≤ b ∧ b < 2 ^ l.toNat)) : BadR w (.tup [.int l, .int b, x]) := ⟨by simp [hx], fun v => by
  have e1 := e_pre (w := w) (l := l) (b := b) hw
  rw [decide_eq_false h] at e1
  have e4 := sl3 (a := .int l) (b := .int b) (c := x) (by simp [hx])
  simp [rowT, e1, e4]⟩
theorem bad_exit {w l b : Nat} {x : D} (hw : w ≤ 16) (hx : x.sh = true) (hl : l ≤ w) (hb : b < 2 ^ l) (he : m_is_exit [x] = .ok (.bl false)) : BadR w (.tup [.int l, .int b, x]) := ⟨by simp [hx], fun v => by
  have e1 := e_pre (w := w) (l := l) (b := b) hw
  have hb : ((b : Nat) : Int) < 2 ^ l := by exact_mod_cast hb
  have e2 : (decide ((0 : Int) ≤ (l : Nat) ∧ ((l : Nat) : Int) ≤ w ∧ (0 : Int) ≤ (b : Nat) ∧ ((b : Nat) : Int) < 2 ^ ((l : Nat) : Int).toNat)) = true := by
    rw [decide_eq_true_eq, Int.toNat_natCast]
    exact ⟨by omega, by omega, by omega, hb⟩
  rw [e2] at e1
  have e4 := sl3 (a := .int l) (b := .int b) (c := x) (by simp [hx])
  simp [rowT, e1, e4, he, hx]⟩
theorem ex_int {i : Int} (h : i < 0 ∨ 99 < i) : m_is_exit [.int i] = .ok (.bl false) := by
  unfold m_is_exit b_is_exit
  have : ¬ (0 ≤ i ∧ i ≤ 99) := by omega
  simp [e_num, this]
theorem ex_bl {b : Bool} : m_is_exit [.bl b] = .ok (.bl false) := by
  unfold m_is_exit b_is_exit
  simp [e_numB]
theorem ex_str {z : Str} : m_is_exit [.str z] = .ok (.bl false) := by
  unfold m_is_exit b_is_exit
  simp [e_numS]
theorem ex_tup {z : List D} (h : D.shL z = true) : m_is_exit [.tup z] = .ok (.bl false) := by
  unfold m_is_exit b_is_exit
  simp [e_numT, h]
end Lw

namespace Lw
open PySem PySem.Spec PyProof.Rows L2 DL Pl
def rowS : DL.Env → SR := sIf rowT (sRet (eSh (pC (.bl false)))) (.nx)
def ordE : EE := eAA true (setG 3) tYes (eSh (pOp dLtA (pSl (pIx (getP 1) (pOp dSub (getP 3) (pC (.int 1)))) oNo (oSome (pC (.int 2)))) (pSl (pIx (getP 1) (getP 3)) oNo (oSome (pC (.int 2)))))) [3] (iR2 (aCons (eSh (pC (.int 1))) (aCons (epCB dLen (paCons (getP 1) paNil)) aNil)))
theorem b_plan : b_is_plan = sSeq (sIf (tUp (tpOr (tpNot (bP (pUn (dIsi .tuple) (getP 1)))) (bP (pOp dGtA (pCB dLen (paCons (getP 1) paNil)) (pC (.int 60)))))) (sRet (eSh (pC (.bl false)))) (.nx)) (sSeq (sFor (iSq (eV 1)) (setG 2) rowS) (sRet ordE)) := rfl
theorem plan_non {w : Nat} : m_is_plan [.int w, .non] = .ok (.bl false) := by
  unfold m_is_plan
  rw [b_plan]
  refine outP_eq ?_
  simp [List.replicate]
theorem plan_lst {w : Nat} {ds : List D} (h : D.shL ds = true) : m_is_plan [.int w, .lst false ds] = .ok (.bl false) := by
  unfold m_is_plan
  rw [b_plan]
  refine outP_eq ?_
  simp [List.replicate, h]
theorem plan_long {w : Nat} {ds : List D} (h : D.shL ds = true) (hl : 60 < ds.length) : m_is_plan [.int w, .tup ds] = .ok (.bl false) := by
  unfold m_is_plan
  rw [b_plan]
  refine outP_eq ?_
  have : (60 : Int) < ds.length := by omega
  simp [List.replicate, h, this]
theorem rows_pass {w : Nat} {v : D} {es : List D} (hw : w ≤ 16) : ∀ {p : List PRow} {x2 : Option D}, (∀ r ∈ p, OkR w r) →
    ∃ x2', forL (setG 2) rowS (p.map rowD ++ es) [some (.int w), some v, x2, none] = forL (setG 2) rowS es [some (.int w), some v, x2', none]
  | [], x2, _ => ⟨x2, rfl⟩
  | r :: p, x2, h => by
    obtain ⟨x2', e⟩ := rows_pass (es := es) (v := v) hw (p := p) (x2 := some (rowD r)) fun r hr => h r (by simp [hr])
    refine ⟨x2', ?_⟩
    rw [List.map_cons, List.cons_append, forL_cons (setG_lt (by simp))]
    have e1 := row_ok (v := v) hw (h r (by simp))
    show (rowS [some (.int w), some v, some (rowD r), none]).loop _ = _
    rw [← e]
    simp [rowS, e1]
theorem plan_bad {w : Nat} {p : List PRow} {d : D} {es : List D} (hw : w ≤ 16) (hp : ∀ r ∈ p, OkR w r) (hd : BadR w d) (hs : D.shL es = true) (hl : p.length + es.length < 60) : m_is_plan [.int w, .tup (p.map rowD ++ d :: es)] = .ok (.bl false) := by
  unfold m_is_plan
  rw [b_plan]
  refine outP_eq ?_
  obtain ⟨h1, h2⟩ := hd
  have hsh : D.shL (p.map rowD ++ d :: es) = true := by simp [h1, hs]
  have hll : (p.map rowD ++ d :: es).length ≤ 60 := by simp; omega
  generalize hV : p.map rowD ++ d :: es = V at *
  have hn : ¬ ((60 : Int) < V.length) := by omega
  simp [List.replicate, hsh, hn]
  obtain ⟨x2', e⟩ := rows_pass (v := .tup V) (es := d :: es) hw (p := p) (x2 := none) hp
  rw [← hV, hV, ← hV] at e
  rw [← hV]
  rw [e, forL_cons (setG_lt (by simp)), sat_loop]
  show (rowS [some (.int w), some (.tup (p.map rowD ++ d :: es)), some d, none]).sat _
  rw [hV]
  simp [rowS, h2]
theorem ltb_key {r r' : PRow} : dLtA (.tup [.int r.1.1, .int r.1.2]) (.tup [.int r'.1.1, .int r'.1.2]) = some (.bl (ltK r.1 r'.1)) := by
  have e : D.ltb (.tup [.int r.1.1, .int r.1.2]) (.tup [.int r'.1.1, .int r'.1.2]) = ltK r.1 r'.1 := by
    rw [ltb_tup_int, ltb_tup_int, Bool.eq_iff_iff, ltK_iff]
    have z : D.ltb (.tup []) (.tup []) = false := by rw [ltb_tup]; exact PyProof.Rows.lex_irrefl _
    rw [z]
    by_cases h1 : r.1.1 = r'.1.1
    · by_cases h2 : r.1.2 = r'.1.2
      · simp [h1, h2]
      · simp [h1]
        omega
    · simp [h1]
      intro z
      exact absurd (by exact_mod_cast z) h1
  unfold dLtA dCmpD
  rw [e]
  rfl
theorem plan_rows {w : Nat} {p : List PRow} (hw : w ≤ 16) (hp : ∀ r ∈ p, OkR w r) (hl : p.length ≤ 60) : m_is_plan [.int w, plD p] = .ok (.bl (ascB p)) := by
  unfold m_is_plan
  rw [b_plan]
  refine outP_eq ?_
  have hn : ¬ ((60 : Int) < p.length) := by omega
  simp [List.replicate, plD, hn]
  obtain ⟨x2', e⟩ := rows_pass (v := .tup (p.map rowD)) (es := []) hw (p := p) (x2 := none) hp
  rw [List.append_nil] at e
  rw [e, forL_nil]
  have key : allL true (setG 3) tYes (eSh (pOp dLtA (pSl (pIx (getP 1) (pOp dSub (getP 3) (pC (.int 1)))) oNo (oSome (pC (.int 2)))) (pSl (pIx (getP 1) (getP 3)) oNo (oSome (pC (.int 2)))))) [3] (rgI 1 (p.length - 1)) [some (.int w), some (.tup (p.map rowD)), x2', none] = .ok (ascB p) [some (.int w), some (.tup (p.map rowD)), x2', none] := by
    refine all_map (g := fun (j : Nat) => D.int (1 + (j : Nat))) (fun j => match p[j]?, p[j + 1]? with
      | some r, some r' => ltK r.1 r'.1
      | _, _ => true) (List.range (p.length - 1)) fun j hj => ?_
    have hj := List.mem_range.mp hj
    have g1 : p[j]? = some p[j] := List.getElem?_eq_getElem (by omega)
    have g2 : p[j + 1]? = some p[j + 1] := List.getElem?_eq_getElem (by omega)
    refine ⟨_, setG_lt (by simp), ?_, rfl⟩
    have a1 : atI (p.map rowD) ((1 : Int) + (j : Nat) - 1) = some (rowD p[j]) := atI_nat (by omega) (by rw [show ((1 : Int) + (j : Nat) - 1).toNat = j by omega, List.getElem?_map, g1]; rfl)
    have a2 : atI (p.map rowD) ((1 : Int) + (j : Nat)) = some (rowD p[j + 1]) := atI_nat (by omega) (by rw [show ((1 : Int) + (j : Nat)).toNat = j + 1 by omega, List.getElem?_map, g2]; rfl)
    have s1 := sl3 (a := .int p[j].1.1) (b := .int p[j].1.2) (c := xD p[j].2) (by simp)
    have s2 := sl3 (a := .int p[j + 1].1.1) (b := .int p[j + 1].1.2) (c := xD p[j + 1].2) (by simp)
    have l1 := ltb_key (r := p[j]) (r' := p[j + 1])
    rw [g1, g2]
    dsimp only
    simp [a1, a2]
    simp [rowD, s1, s2, l1]
  have e2 : ((p.length : Int) - 1).toNat = p.length - 1 := by omega
  have b1 : (p.length : Int) < 4611686018427387904 := by omega
  have b2 : (-4611686018427387904 : Int) ≤ p.length := by omega
  simp [ordE, e2, key, b1, b2]
end Lw

namespace Lw
open PySem PySem.Spec PyProof.Rows L2 DL Pl
theorem pow_int {n : Nat} : (2 : Int) ^ n = ((2 ^ n : Nat) : Int) := by simp
theorem foldl_take {α β : Type} {f : β → α → β} {b : β} {l : List α} {j : Nat} {a : α} (h : l[j]? = some a) : (l.take (j + 1)).foldl f b = f ((l.take j).foldl f b) a := by
  have hj : j < l.length := (List.getElem?_eq_some_iff.mp h).1
  have ha : l[j] = a := (List.getElem?_eq_some_iff.mp h).2
  rw [List.take_succ_eq_append_getElem hj, List.foldl_append, ha]
  rfl
theorem e_cov {w a : Nat} {r : PRow} (hl : r.1.1 ≤ w) : m_covers [.int w, .tup [.int r.1.1, .int r.1.2], .int a] = .ok (.bl (covB w r a)) := by
  unfold m_covers b_covers
  refine outP_eq ?_
  have h1 : (r.1.1 : Int) ≤ (w : Int) := by omega
  have h2 : ((w : Int) - (r.1.1 : Int)).toNat = w - r.1.1 := by omega
  have h3 : ((a : Int) / 2 ^ (w - r.1.1)) = ((a / 2 ^ (w - r.1.1) : Nat) : Int) := by simp
  have h4 : (0 : Int) ≤ (w : Int) - (r.1.1 : Int) := by omega
  have e1 : dShr (.int (a : Int)) (.int ((w : Int) - (r.1.1 : Int))) = some (.int ((a / 2 ^ (w - r.1.1) : Nat) : Int)) := by rw [dShr_int h4, h2, h3]
  have hc : (((a / 2 ^ (w - r.1.1) : Nat) : Int) == (r.1.2 : Int)) = covB w r a := by
    unfold covB
    rw [Bool.eq_iff_iff]
    simp only [beq_iff_eq, decide_eq_true_eq]
    omega
  generalize a / 2 ^ (w - r.1.1) = q at *
  simp [List.replicate, e1, hc]
def ExI (w a : Nat) (p : List PRow) (j : Nat) (r : DL.Env) : Prop := ∃ x4 x5 x6 : Option D, r = [some (.int w), some (plD p), some (.int a), some (xD (exitF w (p.take j) a)), x4, x5, x6]
theorem e_exit_of {w a : Nat} {p : List PRow} (hp : ∀ r ∈ p, OkR w r) : m_exit_of [.int w, plD p, .int a] = .ok (xD (exitF w p a)) := by
  unfold m_exit_of b_exit_of
  refine outP_eq ?_
  simp [List.replicate]
  rw [show itemsE (plD p) = itemsE (.tup (p.map rowD)) from rfl, itemsE_tup (by simp)]
  simp
  refine sat_forM (ExI w a p) ⟨none, none, none, by simp [exitF, xD]⟩ ?_ ?_
  · rintro j r e hj ⟨x4, x5, x6, rfl⟩
    have hr := hp r (List.mem_of_getElem? hj)
    have e1 := e_cov (a := a) hr.l
    refine ⟨_, by rw [rowD, tupG_tup (by simp) (by simp)]; simp; rfl, ?_⟩
    have e2 : exitF w (p.take (j + 1)) a = if covB w r a = true then r.2 else exitF w (p.take j) a := foldl_take hj
    simp [e1]
    cases hc : covB w r a with
    | true =>
      rw [hc, if_pos rfl] at e2
      simp
      exact ⟨_, _, _, by rw [e2]⟩
    | false =>
      rw [hc, if_neg (by decide)] at e2
      simp
      exact ⟨_, _, _, by rw [e2]⟩
  · rintro r ⟨x4, x5, x6, rfl⟩
    rw [List.take_length]
    simp
def LxI (w a : Nat) (p : List PRow) (j : Nat) (r : DL.Env) : Prop := ∃ x4 x5 x6 : Option D, r = [some (.int w), some (plD p), some (.int a), some (.tup [.int (lexB w (p.take j) a (-1, none)).1, xD (lexB w (p.take j) a (-1, none)).2]), x4, x5, x6]
theorem e_law_exit {w a : Nat} {p : List PRow} (hw : w ≤ 16) (hp : ∀ r ∈ p, OkR w r) : m__law_exit [.int w, plD p, .int a] = .ok (xD (lexB w p a (-1, none)).2) := by
  unfold m__law_exit b__law_exit
  refine outP_eq ?_
  simp [List.replicate]
  rw [show itemsE (plD p) = itemsE (.tup (p.map rowD)) from rfl, itemsE_tup (by simp)]
  simp
  refine sat_forM (LxI w a p) ⟨none, none, none, rfl⟩ ?_ ?_
  · rintro j r e hj ⟨x4, x5, x6, rfl⟩
    have hr := hp r (List.mem_of_getElem? hj)
    refine ⟨_, by rw [rowD, tupG_tup (by simp) (by simp)]; simp; rfl, ?_⟩
    have e2 : lexB w (p.take (j + 1)) a (-1, none) = if covB w r a = true ∧ (lexB w (p.take j) a (-1, none)).1 < r.1.1 then ((r.1.1 : Int), r.2) else lexB w (p.take j) a (-1, none) := foldl_take hj
    have h1 : (r.1.1 : Int) ≤ (w : Int) := by have := hr.l; omega
    have h2 : ((w : Int) - (r.1.1 : Int)).toNat = w - r.1.1 := by omega
    have h3 : ((a : Int) / 2 ^ (w - r.1.1)) = ((a / 2 ^ (w - r.1.1) : Nat) : Int) := by simp
    have h4 : (0 : Int) ≤ (w : Int) - (r.1.1 : Int) := by omega
    have h5 : (w : Int) - (r.1.1 : Int) ≤ 1000000 := by omega
    have h6 : (0 : Int) < 2 ^ (w - r.1.1) := by
      have : 0 < 2 ^ (w - r.1.1) := Nat.pow_pos (by decide)
      rw [pow_int]; omega
    have h7 : (2 : Int) ^ (w - r.1.1) < 1073741824 := by
      have : 2 ^ (w - r.1.1) ≤ 65536 := Nat.pow_le_pow_right (n := 2) (j := 16) (by decide) (by omega)
      rw [pow_int]
      omega
    generalize hB : lexB w (p.take j) a (-1, none) = B at *
    have hc : (((a / 2 ^ (w - r.1.1) : Nat) : Int) == (r.1.2 : Int)) = covB w r a := by
      unfold covB
      rw [Bool.eq_iff_iff]
      simp only [beq_iff_eq, decide_eq_true_eq]
      omega
    have s1 : dShl (.int 1) (.int ((w : Int) - (r.1.1 : Int))) = some (.int (2 ^ (w - r.1.1))) := by rw [dShl_int (CPow_iff.mpr ⟨h4, h5, by decide⟩), h2, Int.one_mul]
    have s2 : dFdiv (.int (a : Int)) (.int (2 ^ (w - r.1.1))) = some (.int ((a / 2 ^ (w - r.1.1) : Nat) : Int)) := by rw [dFdiv_int (CDiv_iff.mpr ⟨h6, h7⟩), h3]
    generalize a / 2 ^ (w - r.1.1) = q at *
    generalize (2 : Int) ^ (w - r.1.1) = z at *
    simp [s1, s2, hc]
    cases hcc : covB w r a with
    | true =>
      by_cases hd : B.1 < r.1.1
      · rw [if_pos ⟨hcc, hd⟩] at e2
        simp [hd]
        exact ⟨⟨_, _, _, by rw [e2]⟩, fun z => absurd z (by omega)⟩
      · rw [if_neg (fun z => hd z.2)] at e2
        simp [hd]
        intros
        exact ⟨_, _, _, by rw [e2]⟩
    | false =>
      rw [if_neg (fun z => by rw [hcc] at z; exact absurd z.1 (by decide))] at e2
      simp
      intros
      exact ⟨_, _, _, by rw [e2]⟩
  · rintro r ⟨x4, x5, x6, rfl⟩
    rw [List.take_length]
    generalize lexB w p a (-1, none) = B
    simp
def exD (w : Nat) (p : List PRow) : List D := (List.range (2 ^ w)).map fun a => xD (exitF w p a)
theorem e_law_exits {w : Nat} {p : List PRow} (hw : w ≤ 16) (h : Ok w p) : m__law_exits [.int w, plD p] = .ok (.lst true (exD w p)) := by
  unfold m__law_exits b__law_exits
  refine outP_eq ?_
  have hp : 2 ^ w ≤ 65536 := Nat.pow_le_pow_right (n := 2) (by decide) hw
  have h1 : (w : Int) ≤ 1000000 := by omega
  have h2 : (2 : Int) ^ w = ((2 ^ w : Nat) : Int) := by simp
  have h3 : ((2 ^ w : Nat) : Int) < 4611686018427387904 := by omega
  have h4 : (-4611686018427387904 : Int) ≤ ((2 ^ w : Nat) : Int) := by have : (0 : Int) ≤ ((2 ^ w : Nat) : Int) := Int.natCast_nonneg _; omega
  have key : lcL (setG 2) tYes (eUp (pCall 3 m__law_exit (paCons (getP 0) (paCons (getP 1) (paCons (getP 2) paNil))))) [2] (rgI 0 (2 ^ w)) [] [some (.int w), some (plD p), none] = .ok ([] ++ exD w p) [some (.int w), some (plD p), none] := by
    refine lcL_rngT (fun a => xD (exitF w p a)) (by simp; omega) fun a ha => ?_
    refine ⟨_, setG_lt (by simp), ?_, rfl⟩
    have e1 := e_law_exit (a := a) hw h.rows
    rw [lex_exit h] at e1
    simp [e1]
  generalize 2 ^ w = n at *
  simp [List.replicate, h1, h2, h3, h4, key]
end Lw

namespace Lw
open PySem PySem.Spec PyProof.Rows L2 DL Pl
theorem e_ends {w : Nat} {r : PRow} (hw : w ≤ 16) (h : OkR w r) : m_ends [.int w, .tup [.int r.1.1, .int r.1.2]] = .ok (.tup [nD (r.1.2 * 2 ^ (w - r.1.1)), .int (((r.1.2 + 1) * 2 ^ (w - r.1.1) : Nat) - 1 : Int)]) := by
  unfold m_ends b_ends
  refine outP_eq ?_
  have hl := h.l
  have h2 : ((w : Int) - (r.1.1 : Int)).toNat = w - r.1.1 := by omega
  have h4 : (0 : Int) ≤ (w : Int) - (r.1.1 : Int) := by omega
  have h5 : (w : Int) - (r.1.1 : Int) ≤ 1000000 := by omega
  have h64 : r.1.2 < 65536 := Nat.lt_of_lt_of_le h.b (Nat.pow_le_pow_right (n := 2) (j := 16) (by decide) (by omega))
  have s1 : dShl (.int (r.1.2 : Int)) (.int ((w : Int) - (r.1.1 : Int))) = some (nD (r.1.2 * 2 ^ (w - r.1.1))) := by
    rw [dShl_int (CPow_iff.mpr ⟨h4, h5, by omega⟩), h2, pow_int]
    exact congrArg (fun z => some (D.int z)) (Int.natCast_mul _ _).symm
  have s2 : dShl (.int ((r.1.2 : Int) + 1)) (.int ((w : Int) - (r.1.1 : Int))) = some (nD ((r.1.2 + 1) * 2 ^ (w - r.1.1))) := by
    rw [dShl_int (CPow_iff.mpr ⟨h4, h5, by omega⟩), h2, pow_int]
    exact congrArg (fun z => some (D.int z)) (Int.natCast_mul _ _).symm
  generalize r.1.2 * 2 ^ (w - r.1.1) = x at *
  generalize (r.1.2 + 1) * 2 ^ (w - r.1.1) = y at *
  simp [List.replicate, s1, s2]
def InI (w : Nat) (ps : List (List PRow)) (base : List Nat) (p : List PRow) (i : Nat) (r : DL.Env) : Prop := ∃ x4 x5 x6 x7 x8 : Option D,
  r = [some (.int w), some (.lst false (ps.map plD)), some (.lst true ((base ++ (p.take i).flatMap (foR w)).map nD)), some (plD p), x4, x5, x6, x7, x8, none]
def OuI (w : Nat) (ps : List (List PRow)) (j : Nat) (r : DL.Env) : Prop := ∃ x3 x4 x5 x6 x7 x8 : Option D,
  r = [some (.int w), some (.lst false (ps.map plD)), some (.lst true ((0 :: (ps.take j).flatMap (foP w)).map nD)), x3, x4, x5, x6, x7, x8, none]
theorem fm_take {α β : Type} {f : α → List β} {l : List α} {j : Nat} {a : α} (h : l[j]? = some a) : (l.take (j + 1)).flatMap f = (l.take j).flatMap f ++ f a := by
  have hj : j < l.length := (List.getElem?_eq_some_iff.mp h).1
  have ha : l[j] = a := (List.getElem?_eq_some_iff.mp h).2
  rw [List.take_succ_eq_append_getElem hj, List.flatMap_append, ha]
  simp
theorem fm_len {α β : Type} {f : α → List β} {l : List α} {j : Nat} : ((l.take j).flatMap f).length ≤ (l.flatMap f).length := by
  conv => rhs; rw [← List.take_append_drop j l, List.flatMap_append, List.length_append]
  omega
def inS : DL.Env → SR := sSeq (sAsg (tupG 2 (consG (setG 7) (consG (setG 8) nilG))) (eUp (pCall 2 m_ends (paCons (getP 0) (paCons (pTup (paCons (getP 4) (paCons (getP 5) paNil))) paNil)))))
    (sExpr (eExt 2 (eLst (aCons (eV 7) (aCons (eUp (pOp dAdd (getP 8) (pC (.int 1)))) aNil)))))
theorem shL_nD {l : List Nat} : D.shL (l.map nD) = true := shL_map fun _ _ => rfl
theorem in_loop {w : Nat} {ps : List (List PRow)} {base : List Nat} {p : List PRow} {x4 x5 x6 x7 x8 : Option D} {po : Po} (hw : w ≤ 16) (hp : ∀ r ∈ p, OkR w r) (hl : (base ++ p.flatMap (foR w)).length ≤ 1000) (hb : base.map nD = base.map nD)
    (q : ∀ r, InI w ps base p p.length r → po.nx r) : (sFor (iSq (eV 3)) (tupG 3 (consG (setG 4) (consG (setG 5) (consG (setG 6) nilG)))) inS [some (.int w), some (.lst false (ps.map plD)), some (.lst true (base.map nD)), some (plD p), x4, x5, x6, x7, x8, none]).sat po := by
  simp
  rw [show itemsE (plD p) = itemsE (.tup (p.map rowD)) from rfl, itemsE_tup (by simp)]
  simp
  refine sat_forM (InI w ps base p) ⟨x4, x5, x6, x7, x8, by simp⟩ ?_ q
  rintro j r e hj ⟨y4, y5, y6, y7, y8, rfl⟩
  have hr := hp r (List.mem_of_getElem? hj)
  have e1 := e_ends hw hr
  have e2 : (base ++ (p.take (j + 1)).flatMap (foR w)).map nD = (base ++ (p.take j).flatMap (foR w)).map nD ++ [nD (r.1.2 * 2 ^ (w - r.1.1)), nD ((r.1.2 + 1) * 2 ^ (w - r.1.1))] := by
    rw [fm_take hj, ← List.append_assoc, List.map_append]
    rfl
  have e3 : (base ++ (p.take j).flatMap (foR w)).length ≤ 1000 := by
    have := fm_len (f := foR w) (l := p) (j := j)
    rw [List.length_append] at hl ⊢
    omega
  have e4 : D.shL ((base ++ (p.take j).flatMap (foR w)).map nD) = true := shL_nD
  have e5 : ((base ++ (p.take j).flatMap (foR w)).map nD).length ≤ 1000 := by rw [List.length_map]; exact e3
  have g : InI w ps base p (j + 1) = fun r => ∃ x4 x5 x6 x7 x8 : Option D, r = [some (.int w), some (.lst false (ps.map plD)), some (.lst true ((base ++ (p.take (j + 1)).flatMap (foR w)).map nD)), some (plD p), x4, x5, x6, x7, x8, none] := rfl
  rw [e2] at g
  generalize (base ++ (p.take j).flatMap (foR w)).map nD = Z at *
  generalize r.1.2 * 2 ^ (w - r.1.1) = x at *
  generalize (r.1.2 + 1) * 2 ^ (w - r.1.1) = y at *
  have e6 : Z.length + 2 ≤ 16777216 := by omega
  refine ⟨_, by rw [rowD, tupG_tup (by simp) (by simp)]; simp; rfl, ?_⟩
  simp [inS, e1, extE_ok (ds := Z) (es := [nD x, nD y]), e6]
  rw [g]
  exact ⟨_, _, _, _, _, rfl⟩
end Lw

namespace Lw
open PySem PySem.Spec PyProof.Rows L2 DL Pl
def boI (w : Nat) (ps : List (List PRow)) : List Int := srt (insAll [] (((foF w ps).filter fun x => decide (x < 2 ^ w)).map fun (x : Nat) => (x : Int)))
def boN (w : Nat) (ps : List (List PRow)) : List Nat := (boI w ps).map Int.toNat
theorem mem_boI {w : Nat} {ps : List (List PRow)} {x : Int} : x ∈ boI w ps ↔ ∃ n ∈ foF w ps, n < 2 ^ w ∧ x = (n : Int) := by
  unfold boI
  rw [(srt_perm _).mem_iff, mem_insAll, List.mem_map]
  constructor
  · rintro (h | ⟨n, hn, rfl⟩)
    · cases h
    · rw [List.mem_filter, decide_eq_true_eq] at hn
      exact ⟨n, hn.1, hn.2, rfl⟩
  · rintro ⟨n, h1, h2, rfl⟩
    exact .inr ⟨n, List.mem_filter.mpr ⟨h1, decide_eq_true h2⟩, rfl⟩
theorem boI_lt {w : Nat} {ps : List (List PRow)} : (boI w ps).Pairwise (· < ·) := by
  have nd : (boI w ps).Nodup := (srt_perm _).nodup_iff.mpr (insAll_nd .nil)
  have le : (boI w ps).Pairwise (· ≤ ·) := srt_le _
  exact (List.pairwise_and_iff.mpr ⟨le, nd⟩).imp fun ⟨h1, h2⟩ => by omega
theorem boI_boN {w : Nat} {ps : List (List PRow)} : (boI w ps).map D.int = (boN w ps).map nD := by
  unfold boN
  rw [List.map_map]
  refine List.map_congr_left fun x hx => ?_
  obtain ⟨n, _, _, rfl⟩ := mem_boI.mp hx
  rfl
theorem mem_boN {w : Nat} {ps : List (List PRow)} {n : Nat} : n ∈ boN w ps ↔ n ∈ foF w ps ∧ n < 2 ^ w := by
  unfold boN
  rw [List.mem_map]
  constructor
  · rintro ⟨x, hx, rfl⟩
    obtain ⟨n, h1, h2, rfl⟩ := mem_boI.mp hx
    exact ⟨h1, h2⟩
  · rintro ⟨h1, h2⟩
    exact ⟨(n : Int), mem_boI.mpr ⟨n, h1, h2, rfl⟩, rfl⟩
theorem boN_lt {w : Nat} {ps : List (List PRow)} : (boN w ps).Pairwise (· < ·) := by
  unfold boN
  rw [List.pairwise_map]
  refine boI_lt.imp_of_mem fun ha hb h => ?_
  obtain ⟨n, _, _, rfl⟩ := mem_boI.mp ha
  obtain ⟨m, _, _, rfl⟩ := mem_boI.mp hb
  show n < m
  omega
theorem b_bord : b_borders = sSeq (sSet 2 (eLst (aCons (eSh (pC (.int 0))) aNil)))
    (sSeq (sFor (iSq (eV 1)) (setG 3) (sFor (iSq (eV 3)) (tupG 3 (consG (setG 4) (consG (setG 5) (consG (setG 6) nilG)))) inS))
    (sRet (eSrtS (setG 9) (tUp (bP (pOp dLtA (getP 9) (pOp dShl (pC (.int 1)) (getP 0))))) (eV 9) [9] (iSq (eV 2))))) := rfl
theorem e_borders {w : Nat} {ps : List (List PRow)} (hw : w ≤ 16) (hp : ∀ p ∈ ps, ∀ r ∈ p, OkR w r) (hl : (foF w ps).length ≤ 60) : m_borders [.int w, .lst false (ps.map plD)] = .ok (.lst true ((boN w ps).map nD)) := by
  unfold m_borders
  rw [b_bord]
  refine outP_eq ?_
  have hs : D.shL (ps.map plD) = true := shL_map fun _ _ => sh_plD
  simp [List.replicate, hs]
  refine sat_forM (OuI w ps) ⟨none, none, none, none, none, none, rfl⟩ ?_ ?_
  · rintro j p r hj ⟨x3, x4, x5, x6, x7, x8, rfl⟩
    refine ⟨_, setG_lt (by simp), ?_⟩
    have hpm := List.mem_of_getElem? hj
    have hl2 : ((0 :: (ps.take j).flatMap (foP w)) ++ p.flatMap (foR w)).length ≤ 1000 := by
      have e := fm_take (f := foP w) hj
      have := fm_len (f := foP w) (l := ps) (j := j + 1)
      rw [e, List.length_append] at this
      unfold foF at hl
      rw [List.length_cons] at hl
      simp only [List.cons_append, List.length_cons, List.length_append]
      unfold foP at this hl ⊢
      omega
    refine in_loop (base := 0 :: (ps.take j).flatMap (foP w)) hw (hp p hpm) hl2 rfl fun r hr => ?_
    obtain ⟨y4, y5, y6, y7, y8, rfl⟩ := hr
    rw [List.take_length]
    exact ⟨_, _, _, _, _, _, by rw [fm_take hj]; rfl⟩
  · rintro r ⟨x3, x4, x5, x6, x7, x8, rfl⟩
    rw [List.take_length]
    have hsf : D.shL ((foF w ps).map nD) = true := shL_nD
    have key : lcS (setG 9) (tUp (bP (pOp dLtA (getP 9) (pOp dShl (pC (.int 1)) (getP 0))))) (eV 9) [9] ((foF w ps).map nD) [] [some (.int w), some (.lst false (ps.map plD)), some (.lst false ((foF w ps).map nD)), x3, x4, x5, x6, x7, x8, none] =
        .ok (insAll [] (((foF w ps).filter fun x => decide (x < 2 ^ w)).map fun (x : Nat) => (x : Int))) [some (.int w), some (.lst false (ps.map plD)), some (.lst false ((foF w ps).map nD)), x3, x4, x5, x6, x7, x8, none] := by
      refine lcS_map (fun x => decide (x < 2 ^ w)) (fun (x : Nat) => (x : Int)) _ [] (by simpa using hl) fun x hx => ?_
      refine ⟨_, setG_lt (by simp), ?_, ?_, rfl⟩
      · have h1 : (w : Int) ≤ 1000000 := by omega
        have h2 : (decide ((x : Int) < 2 ^ w)) = decide (x < 2 ^ w) := by rw [pow_int, Bool.eq_iff_iff, decide_eq_true_eq, decide_eq_true_eq]; omega
        have h3 : dShl (.int 1) (.int (w : Int)) = some (.int (2 ^ w)) := by rw [dShl_int (CPow_iff.mpr ⟨by omega, h1, by decide⟩), Int.toNat_natCast, Int.one_mul]
        generalize (foF w ps).map nD = Z at *
        generalize (2 : Int) ^ w = z at *
        simp [h3]
        exact decide_eq_decide.mp h2
      · intro _
        simp
    show (sRet _ [some (.int w), some (.lst false (ps.map plD)), some (.lst true ((foF w ps).map nD)), x3, x4, x5, x6, x7, x8, none]).sat _
    rw [← boI_boN]
    unfold boI
    generalize insAll [] (((foF w ps).filter fun x => decide (x < 2 ^ w)).map fun (x : Nat) => (x : Int)) = B at *
    generalize (foF w ps).map nD = Z at *
    simp [hsf, key]
end Lw

namespace Lw
open PySem PySem.Spec PyProof.Rows L2 DL Pl
def spD (q : PSp) : D := .tup [nD q.1, nD q.2.1, xD q.2.2]
@[simp] theorem sh_spD {q : PSp} : (spD q).sh = true := by simp [spD]
@[simp] theorem frz_spD {q : PSp} : (spD q).frz = spD q := frz_sh _ sh_spD
@[simp] theorem shL_sp {F : List PSp} : D.shL (F.map spD) = true := shL_map fun _ _ => sh_spD
theorem ix_last {n : Nat} : ixN (n + 1) (-1) = some n := by
  unfold ixN
  rw [if_neg (by omega), if_pos (by omega)]
  congr 1
  omega
theorem at_last {xs : List D} {x : D} : atI (xs ++ [x]) (-1) = some x := by
  unfold atI
  rw [List.length_append, List.length_singleton, ix_last]
  simp
theorem set_last {xs : List D} {x y : D} : (xs ++ [x]).set xs.length y = xs ++ [y] := by simp
theorem push_len {F : List PSp} {q : PSp} : (push F q).length ≤ F.length + 1 := by
  rcases List.eq_nil_or_concat F with rfl | ⟨F, l, rfl⟩
  · simp [push_nil]
  · rw [List.concat_eq_append, push_app]
    split <;> simp
theorem blk_len {e : Nat → Option Nat} {M : Nat → Nat} : ∀ {k : Nat}, (blk e M k).length ≤ k
  | 0 => by simp [blk]
  | k + 1 => by
    have ih := blk_len (e := e) (M := M) (k := k)
    unfold blk at ih ⊢
    rw [List.range_succ, List.foldl_append, List.foldl_cons, List.foldl_nil]
    exact Nat.le_trans push_len (by omega)
theorem blk_succ {e : Nat → Option Nat} {M : Nat → Nat} {k : Nat} : blk e M (k + 1) = push (blk e M k) (M k, M (k + 1) - 1, e (M k)) := by
  unfold blk
  rw [List.range_succ, List.foldl_append, List.foldl_cons, List.foldl_nil]
def mk (w : Nat) (ps : List (List PRow)) : List Nat := boN w ps ++ [2 ^ w]
def mkF (w : Nat) (ps : List (List PRow)) (i : Nat) : Nat := (mk w ps).getD i 0
section
variable {w : Nat} {ps : List (List PRow)}
theorem mk_len : (mk w ps).length = (boN w ps).length + 1 := by unfold mk; simp
theorem mk_lt : (mk w ps).Pairwise (· < ·) := by
  unfold mk
  refine List.pairwise_append.mpr ⟨boN_lt, by simp, fun a ha b hb => ?_⟩
  obtain rfl := List.mem_singleton.mp hb
  exact (mem_boN.mp ha).2
theorem mkF_get {i : Nat} (h : i < (mk w ps).length) : mkF w ps i = (mk w ps)[i] := by
  unfold mkF
  rw [List.getD_eq_getElem?_getD, List.getElem?_eq_getElem h]
  rfl
theorem mkF_mono {i j : Nat} (h : i < j) (hj : j ≤ (boN w ps).length) : mkF w ps i < mkF w ps j := by
  have l := mk_len (w := w) (ps := ps)
  rw [mkF_get (by omega), mkF_get (by omega)]
  exact List.pairwise_iff_getElem.mp mk_lt i j (by omega) (by omega) h
theorem mkF_last : mkF w ps (boN w ps).length = 2 ^ w := by
  unfold mkF mk
  rw [List.getD_eq_getElem?_getD, List.getElem?_append_right (by omega)]
  simp
theorem mkF_mem {x : Nat} (h : x ∈ boN w ps) : ∃ k, k < (boN w ps).length ∧ mkF w ps k = x := by
  obtain ⟨k, hk, e⟩ := List.mem_iff_getElem.mp h
  refine ⟨k, hk, ?_⟩
  have l := mk_len (w := w) (ps := ps)
  rw [mkF_get (by omega)]
  unfold mk
  rw [List.getElem_append_left hk]
  exact e
theorem mkF_in {k : Nat} (h : k < (boN w ps).length) : mkF w ps k ∈ boN w ps := by
  have l := mk_len (w := w) (ps := ps)
  rw [mkF_get (by omega)]
  unfold mk
  rw [List.getElem_append_left h]
  exact List.getElem_mem h
theorem boN_pos : 0 < (boN w ps).length := by
  have : 0 ∈ boN w ps := mem_boN.mpr ⟨by simp [foF], Nat.pow_pos (by decide)⟩
  exact List.length_pos_of_mem this
theorem mkF_zero : mkF w ps 0 = 0 := by
  obtain ⟨k, hk, e⟩ := mkF_mem (w := w) (ps := ps) (x := 0) (mem_boN.mpr ⟨by simp [foF], Nat.pow_pos (by decide)⟩)
  rcases Nat.eq_zero_or_pos k with rfl | h
  · exact e
  · have := mkF_mono (w := w) (ps := ps) h (by omega)
    omega
theorem mkF_const {p : List PRow} (hp : p ∈ ps) {i a : Nat} (hi : i < (boN w ps).length) (h1 : mkF w ps i ≤ a) (h2 : a < mkF w ps (i + 1)) : exitF w p a = exitF w p (mkF w ps i) := by
  refine exit_same h1 fun x hx ⟨z1, z2⟩ => ?_
  have l2 : mkF w ps (i + 1) ≤ 2 ^ w := by
    by_cases e : i + 1 = (boN w ps).length
    · rw [e, mkF_last]; exact Nat.le_refl _
    · have := mkF_mono (w := w) (ps := ps) (i := i + 1) (j := (boN w ps).length) (by omega) (Nat.le_refl _)
      rw [mkF_last] at this
      omega
  obtain ⟨k, hk, e⟩ := mkF_mem (w := w) (ps := ps) (x := x) (mem_boN.mpr ⟨by
    unfold foF
    exact List.mem_cons_of_mem _ (List.mem_flatMap.mpr ⟨p, hp, hx⟩), by omega⟩)
  rcases Nat.lt_trichotomy k i with h | h | h
  · have := mkF_mono (w := w) (ps := ps) h (by omega); omega
  · subst h; omega
  · by_cases e2 : k = i + 1
    · subst e2; omega
    · have := mkF_mono (w := w) (ps := ps) (i := i + 1) (j := k) (by omega) (by omega); omega
theorem blk_is {p : List PRow} (hp : p ∈ ps) : blk (exitF w p) (mkF w ps) (boN w ps).length = due (exitF w p) (2 ^ w) := by
  rw [blk_due (e := exitF w p) (M := mkF w ps) (k := (boN w ps).length) mkF_zero (fun i hi => mkF_mono (by omega) (by omega)) (fun i hi a h1 h2 => mkF_const hp hi h1 h2), mkF_last]
end
def SpI (w : Nat) (p : List PRow) (j : Nat) (r : DL.Env) : Prop := ∃ x4 x5 : Option D, r = [some (.int w), some (plD p), some (.lst true ((blk (exitF w p) (mkF w [p]) j).map spD)), some (.lst true ((mk w [p]).map nD)), x4, x5]
theorem e_spread {w : Nat} {p : List PRow} (hw : w ≤ 16) (hp : ∀ r ∈ p, OkR w r) (hl : (foF w [p]).length ≤ 60) (hb : (boN w [p]).length ≤ 60) : m_spread [.int w, plD p] = .ok (.tup ((due (exitF w p) (2 ^ w)).map spD)) := by
  rw [← blk_is (w := w) (ps := [p]) (p := p) (by simp)]
  unfold m_spread b_spread
  refine outP_eq ?_
  have eb := e_borders (ps := [p]) hw (by simpa using hp) hl
  rw [List.map_singleton] at eb
  have h1 : (w : Int) ≤ 1000000 := by omega
  have h3 : dShl (.int 1) (.int (w : Int)) = some (nD (2 ^ w)) := by rw [dShl_int (CPow_iff.mpr ⟨by omega, h1, by decide⟩), Int.toNat_natCast, Int.one_mul, pow_int]
  have hm : (mk w [p]).map nD = (boN w [p]).map nD ++ [nD (2 ^ w)] := by unfold mk; rw [List.map_append]; rfl
  have hml := mk_len (w := w) (ps := [p])
  have hsB : D.shL ((boN w [p]).map nD) = true := shL_nD
  have hsm : D.shL ((mk w [p]).map nD) = true := shL_nD
  have hmg : ∀ i, i < (mk w [p]).length → atI ((mk w [p]).map nD) (i : Int) = some (nD (mkF w [p] i)) := fun i hi => atI_nat (by omega) (by
    rw [Int.toNat_natCast, List.getElem?_map, List.getElem?_eq_getElem hi, mkF_get hi]
    rfl)
  have hmk : ∀ i, i < (boN w [p]).length → 1 ≤ mkF w [p] (i + 1) := fun i hi => by
    have := mkF_mono (w := w) (ps := [p]) (i := i) (j := i + 1) (by omega) (by omega)
    omega
  have hBl : ((boN w [p]).map nD).length = (boN w [p]).length := List.length_map ..
  have hZl : ((mk w [p]).map nD).length = (boN w [p]).length + 1 := by rw [List.length_map, hml]
  have hI : SpI w p = fun j r => ∃ x4 x5 : Option D, r = [some (.int w), some (plD p), some (.lst true ((blk (exitF w p) (mkF w [p]) j).map spD)), some (.lst true ((mk w [p]).map nD)), x4, x5] := rfl
  have hw2 : (1 : Int) ≤ 4611686018427387904 := by decide
  simp only [hml] at hmg
  generalize hn : (boN w [p]).length = n at *
  generalize (boN w [p]).map nD = B at *
  generalize hZ : (mk w [p]).map nD = Z at *
  have c1 : (n : Int) < 4611686018427387904 := by omega
  have c2 : (-4611686018427387904 : Int) ≤ n := by omega
  have c3 : B.length + 1 ≤ 16777216 := by omega
  simp [List.replicate, eb, h3, hsB, hZl, c1, c2, c3]
  rw [← hm]
  simp [hBl, c1, c2]
  have hbl : ∀ j, (blk (exitF w p) (mkF w [p]) j).length ≤ j := fun j => blk_len
  have hbs : ∀ j, blk (exitF w p) (mkF w [p]) (j + 1) = push (blk (exitF w p) (mkF w [p]) j) (mkF w [p] j, mkF w [p] (j + 1) - 1, exitF w p (mkF w [p] j)) := fun j => blk_succ
  have he : ∀ a : Nat, m_exit_of [.int w, plD p, .int a] = .ok (xD (exitF w p a)) := fun a => e_exit_of hp
  generalize blk (exitF w p) (mkF w [p]) = bl at *
  generalize mkF w [p] = M at *
  refine sat_forR (SpI w p) (by rw [hI]; exact ⟨none, none, by rw [show bl 0 = [] from List.length_eq_zero_iff.mp (Nat.le_zero.mp (hbl 0))]; rfl⟩) ?_ ?_
  · intro j r hj hr
    rw [hI] at hr
    obtain ⟨x4, x5, rfl⟩ := hr
    refine ⟨_, setG_lt (by simp), ?_⟩
    rw [hI]
    dsimp only
    have b1 := hbs j
    have b2 := hbl j
    rw [b1]
    generalize bl j = F at *
    have a1 : atI Z (j : Int) = some (nD (M j)) := hmg j (by omega)
    have a2 : atI Z ((j : Int) + 1) = some (nD (M (j + 1))) := by have := hmg (j + 1) (by omega); rwa [show ((j + 1 : Nat) : Int) = (j : Int) + 1 by omega] at this
    have a3 : ((M (j + 1) : Nat) : Int) - 1 = ((M (j + 1) - 1 : Nat) : Int) := by have := hmk j hj; omega
    have a4 := he (M j)
    generalize M j = m at *
    generalize M (j + 1) = m' at *
    generalize exitF w p m = x at *
    generalize hz : ((m' - 1 : Nat) : Int) = z at *
    rcases List.eq_nil_or_concat F with rfl | ⟨F', l, rfl⟩
    · simp [a1, a2, a3, a4, push_nil, hz]
      rw [spD, ← hz]
    · rw [List.concat_eq_append, push_app]
      have hF : (F' ++ [l]).map spD = F'.map spD ++ [spD l] := by simp
      rw [hF]
      have l1 : (F'.map spD).length ≤ 60 := by rw [List.length_map]; rw [List.concat_eq_append, List.length_append] at b2; omega
      generalize hG : F'.map spD = G at *
      have a5 : dIx (.lst true (G ++ [spD l])) (.int (-1)) = some (.tup [nD l.1, nD l.2.1, xD l.2.2]) := at_last
      have a6 : ixN (G ++ [spD l]).length (-1) = some G.length := by rw [List.length_append]; exact ix_last
      have a7 : ∀ d : D, (G ++ [spD l]).set G.length d = G ++ [d] := fun d => set_last
      have a8 : (G ++ [spD l]).length < 16777216 := by rw [List.length_append, List.length_singleton]; omega
      by_cases hx : l.2.2 = x
      · rw [if_pos hx]
        have st : strL 2 (.tup [nD l.1, .int z, xD x]) (.int (-1)) [some (.int w), some (plD p), some (.lst true (G ++ [spD l])), some (.lst true Z), some (.int j), some (xD x)] =
            .nx [some (.int w), some (plD p), some (.lst true (G ++ [.tup [nD l.1, .int z, xD x]])), some (.lst true Z), some (.int j), some (xD x)] := by
          rw [strL_ok rfl a6 (by simp), a7]
          rfl
        simp [a1, a2, a3, a4, a5, hz, hx, st]
        rw [hG]
        have e9 : spD (l.1, m' - 1, x) = .tup [nD l.1, .int z, xD x] := by unfold spD; rw [← hz]
        rw [e9]
        exact ⟨rfl, rfl⟩
      · rw [if_neg hx]
        have a9 : ∀ d : D, G ++ [spD l] ++ [d] = G ++ [spD l] ++ [d] := fun _ => rfl
        generalize hG2 : G ++ [spD l] = G2 at *
        simp [a1, a2, a3, a4, a5, hz, hx, a8]
        rw [← hG2, ← hG, spD, spD, ← hz]
        simp
  · intro r hr
    rw [hI] at hr
    obtain ⟨x4, x5, rfl⟩ := hr
    simp
end Lw

namespace Lw
open PySem PySem.Spec PyProof.Rows L2 DL Pl
/-! ### the dict -/
def kK (k : Nat × Nat) : DKey := [.inl (k.1 : Int), .inl (k.2 : Int)]
def kA (r : PRow) : DKey := kK r.1
def vA (r : PRow) : D := xD r.2
def k2 (r : PRow) : List Int := [(r.1.1 : Int), (r.1.2 : Int)]
def dcD (A : List PRow) : D := .dic true true (A.map kA) (A.map vA)
theorem kK_inj {k k' : Nat × Nat} : kK k = kK k' ↔ k = k' := by
  unfold kK
  constructor
  · intro h
    injection h with h1 h2
    injection h2 with h2 _
    injection h1 with h1
    injection h2 with h2
    exact Prod.ext (by omega) (by omega)
  · rintro rfl; rfl
theorem keyD_kA {r : PRow} : keyD true (kA r) = enZ (k2 r) := rfl
def hasA (A : List PRow) (k : Nat × Nat) : Bool := A.any fun r => decide (r.1 = k)
def putA (A : List PRow) (k : Nat × Nat) (x : Option Nat) : List PRow := if hasA A k = true then A.map (fun r => if r.1 = k then (k, x) else r) else A ++ [(k, x)]
theorem hasK_A {A : List PRow} {k : Nat × Nat} : hasK (A.map kA) (kK k) = hasA A k := by
  unfold hasK hasA
  rw [List.any_map]
  congr 1
  funext r
  show decide (kK r.1 = kK k) = decide (r.1 = k)
  exact decide_eq_decide.mpr kK_inj
theorem put_ks {A : List PRow} {k : Nat × Nat} {x : Option Nat} : putKs (A.map kA) (kK k) = (putA A k x).map kA := by
  unfold putKs putA
  rw [hasK_A]
  split
  · rw [List.map_map]
    refine List.map_congr_left fun r _ => ?_
    show kA r = kA (if r.1 = k then (k, x) else r)
    split
    · rename_i h; subst h; rfl
    · rfl
  · rw [List.map_append]; rfl
theorem repl_A {k : Nat × Nat} {x : Option Nat} : ∀ {A : List PRow}, repl (A.map kA) (A.map vA) (kK k) (xD x) = (A.map fun r => if r.1 = k then (k, x) else r).map vA
  | [] => rfl
  | r :: A => by
    rw [List.map_cons, List.map_cons, List.map_cons, List.map_cons, repl, repl_A]
    congr 1
    by_cases h : r.1 = k
    · rw [if_pos h, if_pos (show kA r = kK k by subst h; rfl)]
      rfl
    · rw [if_neg h, if_neg (show ¬ kA r = kK k from fun z => h (kK_inj.mp z))]
theorem put_vs {A : List PRow} {k : Nat × Nat} {x : Option Nat} : putVs (A.map kA) (A.map vA) (kK k) (xD x) = (putA A k x).map vA := by
  unfold putVs putA
  rw [hasK_A]
  split
  · exact repl_A
  · rw [List.map_append]; rfl
theorem put_len {A : List PRow} {k : Nat × Nat} {x : Option Nat} : (putA A k x).length ≤ A.length + 1 := by
  unfold putA
  split <;> simp
theorem put_mem {A : List PRow} {k : Nat × Nat} {x : Option Nat} {r : PRow} (h : r ∈ putA A k x) : r ∈ A ∨ r = (k, x) := by
  unfold putA at h
  split at h
  · obtain ⟨r', h1, h2⟩ := List.mem_map.mp h
    split at h2
    · exact .inr h2.symm
    · subst h2; exact .inl h1
  · rcases List.mem_append.mp h with h | h
    · exact .inl h
    · exact .inr (List.mem_singleton.mp h)
theorem put_nd {A : List PRow} {k : Nat × Nat} {x : Option Nat} (h : (A.map (·.1)).Nodup) : ((putA A k x).map (·.1)).Nodup := by
  unfold putA
  split
  · have e : (A.map fun r => if r.1 = k then ((k, x) : PRow) else r).map (·.1) = A.map (·.1) := by
      rw [List.map_map]
      refine List.map_congr_left fun r _ => ?_
      show (if r.1 = k then ((k, x) : PRow) else r).1 = r.1
      split
      · rename_i h; exact h.symm
      · rfl
    rw [e]; exact h
  · rename_i hn
    rw [List.map_append]
    refine List.nodup_append.mpr ⟨h, by simp, fun a ha b hb e => ?_⟩
    have hb : b = k := by simpa using hb
    subst hb e
    obtain ⟨r, hr, e⟩ := List.mem_map.mp ha
    exact hn (List.any_eq_true.mpr ⟨r, hr, decide_eq_true e⟩)
theorem look_A : ∀ {A : List PRow} {r : PRow}, (A.map (·.1)).Nodup → r ∈ A → look (A.map kA) (A.map vA) (kA r) = some (xD r.2)
  | r' :: A, r, hn, hr => by
    rw [List.map_cons] at hn
    have hn := List.nodup_cons.mp hn
    rw [List.map_cons, List.map_cons, look]
    rcases List.mem_cons.mp hr with rfl | hr
    · rw [if_pos rfl]; rfl
    · rw [if_neg (fun z => hn.1 (by
        have : r'.1 = r.1 := kK_inj.mp z
        rw [this]
        exact List.mem_map.mpr ⟨r, hr, rfl⟩))]
      exact look_A hn.2 hr
/-! ### sorted -/
def sA (A : List PRow) : List PRow := A.mergeSort fun a b => leZ (k2 a) (k2 b)
theorem sA_perm {A : List PRow} : (sA A).Perm A := List.mergeSort_perm _ _
theorem sA_srt {A : List PRow} : srtZ (A.map k2) = (sA A).map k2 := by
  unfold srtZ sA
  exact (List.map_mergeSort (f := k2) (r := fun a b => leZ (k2 a) (k2 b)) (s := leZ) (fun a _ b _ => rfl)).symm
theorem sA_len {A : List PRow} : (sA A).length = A.length := sA_perm.length_eq
theorem ltZ_k2 {r r' : PRow} : ltZ (k2 r) (k2 r') = ltK r.1 r'.1 := by
  rw [Bool.eq_iff_iff, ltK_iff]
  simp only [k2, ltZ, Bool.or_eq_true, Bool.and_eq_true, decide_eq_true_eq, Bool.false_eq_true, and_false, or_false]
  omega
theorem sA_ord {A : List PRow} (h : (A.map (·.1)).Nodup) : (sA A).Pairwise fun r r' => ltK r.1 r'.1 = true := by
  have p1 : (sA A).Pairwise fun r r' => leZ (k2 r) (k2 r') = true := by
    have := srtZ_pair (A.map k2)
    rw [sA_srt, List.pairwise_map] at this
    exact this
  have p2 : (sA A).Pairwise fun r r' => r.1 ≠ r'.1 := by
    have : ((sA A).map (·.1)).Nodup := (sA_perm.map (·.1)).nodup_iff.mpr h
    exact List.pairwise_map.mp this
  refine (List.pairwise_and_iff.mpr ⟨p1, p2⟩).imp fun {r r'} ⟨h1, h2⟩ => ?_
  unfold leZ at h1
  rw [ltZ_k2] at h1
  cases hk : ltK r.1 r'.1 with
  | true => rfl
  | false =>
    exfalso
    have e1 : ltK r'.1 r.1 = false := by simpa using h1
    have n1 : ¬ ltK r.1 r'.1 = true := by rw [hk]; decide
    have n2 : ¬ ltK r'.1 r.1 = true := by rw [e1]; decide
    rw [ltK_iff] at n1 n2
    exact h2 (Prod.ext (by omega) (by omega))
theorem sort_keys {A : List PRow} {o : Bool} : dSortA [.lst o (A.map fun r => enZ (k2 r))] = some (.lst true ((sA A).map fun r => enZ (k2 r))) := by
  have e := sort_enZ (l := A.map k2) (o := o) (by
    intro w hw
    obtain ⟨r, _, rfl⟩ := List.mem_map.mp hw
    exact fun z => nomatch z)
  rw [sA_srt, List.map_map, List.map_map] at e
  exact e
structure GoodA (w : Nat) (A : List PRow) : Prop where
  nd : (A.map (·.1)).Nodup
  rows : ∀ r ∈ A, OkR w r
theorem GoodA.put {w : Nat} {A : List PRow} {k : Nat × Nat} {x : Option Nat} (h : GoodA w A) (hr : OkR w (k, x)) : GoodA w (putA A k x) :=
  ⟨put_nd h.nd, fun r hm => by
    rcases put_mem hm with hm | rfl
    · exact h.rows r hm
    · exact hr⟩
theorem GoodA.ok {w : Nat} {A : List PRow} (h : GoodA w A) : Ok w (sA A) := ⟨fun r hr => h.rows r (sA_perm.mem_iff.mp hr), sA_ord h.nd⟩
end Lw

namespace Lw
open PySem PySem.Spec PyProof.Rows L2 DL Pl
theorem shL_vA {A : List PRow} : D.shL (A.map vA) = true := shL_map fun _ _ => sh_xD
/-- [one for one in found] -/
theorem keys_of {A : List PRow} {r : DL.Env} (h : r[3]? = some (some (dcD A))) (h9 : r[9]? = some none) (hl : A.length ≤ 1000) : eLcD 3 (setG 9) tYes (eV 9) [9] r = .ok (.lst true (A.map fun r => enZ (k2 r))) r := by
  have l3 : 3 < r.length := (List.getElem?_eq_some_iff.mp h).1
  have l9 : 9 < r.length := (List.getElem?_eq_some_iff.mp h9).1
  rw [eLcD_ap h shL_vA]
  have e9 : (r.set 3 none)[9]? = some none := by rw [List.getElem?_set_ne (by decide)]; exact h9
  have e3 : (r.set 3 none)[3]? = some none := by rw [List.getElem?_set_self l3]
  have w9 : wipeE (r.set 3 none) [9] = r.set 3 none := by
    show (r.set 3 none).set 9 none = _
    exact set_same e9
  have key : lcL (setG 9) tYes (eV 9) [9] ((A.map kA).map (keyD true)) [] (r.set 3 none) = .ok ([] ++ A.map fun r => enZ (k2 r)) (r.set 3 none) := by
    rw [List.map_map]
    refine lcL_mapT (g := keyD true ∘ kA) (fun r => enZ (k2 r)) A [] (by simp; omega) fun a ha => ?_
    refine ⟨_, setG_lt (by simpa using l9), ?_, ?_⟩
    · show eV 9 _ = _
      rw [eV_ap]
      have : getP 9 ((r.set 3 none).set 9 (some (keyD true (kA a)))) = .ok (enZ (k2 a)) := by
        unfold getP
        rw [List.getElem?_set_self (by simpa using l9)]
        rfl
      show ((getP 9 ((r.set 3 none).set 9 (some (keyD true (kA a))))).up _).bind (fzO 9) = _
      rw [this]
      simp
    · show ((r.set 3 none).set 9 (some _)).set 9 none = _
      rw [List.set_set]
      exact set_same e9
  rw [w9, key, Res.bind_ok]
  have rs : resE (r.set 3 none) (r.set 3 none) [9] = r.set 3 none := by
    show (match (r.set 3 none)[9]? with
      | some (some d) => if d.sh = true then (r.set 3 none).set 9 (some d) else r.set 3 none
      | _ => r.set 3 none) = _
    rw [e9]
  rw [lcEd_ok (by rw [rs]; exact e3), rs, List.set_set]
  have : r.set 3 (some (dcD A)) = r := set_same h
  show Res.ok _ (r.set 3 (some (dcD A))) = _
  rw [this]
  rfl
def LpI (w e : Nat) (j : Nat) (r : DL.Env) : Prop := ∃ (A : List PRow) (L : List Int) (x5 x6 x7 x8 : Option D), GoodA w A ∧ A.length ≤ j ∧
  r = [some (iL L), some (.int w), some (.int 12), some (dcD A), some (.int e), x5, x6, x7, x8, none]
theorem lenC_dc {A : List PRow} : dLenC [dcD A] = some (.int A.length) := by
  unfold dcD
  rw [dLenC_dic, List.length_map]
theorem ne_dc {A : List PRow} : dNeC (dcD A) (.dic true false [] []) = some (.bl (!A.isEmpty)) := by
  unfold dcD
  rw [dNeC_dic]
  cases A <;> rfl
/-- the row is laid -/
def layS : DL.Env → SR := sStA 3 (pTup (paCons (getP 6) (paCons (getP 7) paNil))) (eIf (bE (eOp dEq (eCallM 2 m__law_take 0 (aCons (eSh (pC (.int 6))) aNil)) (eSh (pC (.int 0))))) (eSh (pC .non)) (eCallM 2 m__law_take 0 (aCons (eV 4) aNil)))
theorem lay_ok {w e l b : Nat} {A : List PRow} {L : List Int} {x5 x8 : Option D} {po : Po} (he : 1 ≤ e ∧ e ≤ 4) (hA : A.length ≤ 1000)
    (q : ∀ (x : Option Nat) (L' : List Int), (∀ v, x = some v → v ≤ 99) → po.nx [some (iL L'), some (.int w), some (.int 12), some (dcD (putA A (l, b) x)), some (.int e), x5, some (nD l), some (nD b), x8, none]) :
    (layS [some (iL L), some (.int w), some (.int 12), some (dcD A), some (.int e), x5, some (nD l), some (nD b), x8, none]).sat po := by
  obtain ⟨z, L1, e1, h1⟩ := take_nat (L := L) (b := 6) (by decide)
  have st : ∀ (x : Option Nat) (L' : List Int), stA 3 (.tup [nD l, nD b]) (xD x) [some (iL L'), some (.int w), some (.int 12), some (dcD A), some (.int e), x5, some (nD l), some (nD b), x8, none] =
      .nx [some (iL L'), some (.int w), some (.int 12), some (dcD (putA A (l, b) x)), some (.int e), x5, some (nD l), some (nD b), x8, none] := fun x L' => by
    rw [stA_dic (t := true) (ks := A.map kA) (ds := A.map vA) (q := kK (l, b)) rfl sh_xD (by rw [List.length_map, sizeLine_eq]; omega) rfl, put_ks, put_vs]
    rfl
  unfold layS
  rw [sStA_ap]
  by_cases hz : z = 0
  · subst hz
    have := st none L1
    simp only [xD] at this
    generalize dcD A = Z at *
    simp [d_take, e1, this]
    exact q none L1 (fun _ z => nomatch z)
  · obtain ⟨y, L2, e2, h2⟩ := take_nat (L := L1) (b := (e : Int)) (by omega)
    have := st (some y) L2
    simp only [xD] at this
    generalize dcD A = Z at *
    have hz' : ¬ ((z : Int) = 0) := by omega
    simp [d_take, e1, e2, this, hz, hz']
    exact q (some y) L2 (fun v hv => by cases hv; omega)
end Lw

namespace Lw
open PySem PySem.Spec PyProof.Rows L2 DL Pl
def oldS : DL.Env → SR := sSeq (sSet 8 (eIx (eCB dSortA (aCons (eLcD 3 (setG 9) tYes (eV 9) [9]) aNil)) (eCallM 2 m__law_take 0 (aCons (epCB dLenC (paCons (getP 3) paNil)) aNil))))
    (sSeq (sSet 6 (eOp dAdd (eSh (pIx (getP 8) (pC (.int 0)))) (eCallM 2 m__law_take 0 (aCons (epCB dMin2 (paCons (pC (.int 3)) (paCons (pOp dAdd (pOp dSub (getP 1) (pIx (getP 8) (pC (.int 0)))) (pC (.int 1))) paNil))) aNil))))
    (sSet 7 (eOp dAdd (eUp (pOp dShl (pIx (getP 8) (pC (.int 1))) (pOp dSub (getP 6) (pIx (getP 8) (pC (.int 0)))))) (eCallM 2 m__law_take 0 (aCons (eUp (pOp dShl (pC (.int 1)) (pOp dSub (getP 6) (pIx (getP 8) (pC (.int 0)))))) aNil)))))
theorem old_ok {w e l b : Nat} {A : List PRow} {L : List Int} {x5 x8 : Option D} {po : Po} (hw : w ≤ 16) (hA : A.length ≤ 1000) (g : GoodA w A) (hne : A ≠ [])
    (q : ∀ (l' b' : Nat) (y : D) (L' : List Int), l' ≤ w → b' < 2 ^ l' → po.nx [some (iL L'), some (.int w), some (.int 12), some (dcD A), some (.int e), x5, some (nD l'), some (nD b'), some y, none]) :
    (oldS [some (iL L), some (.int w), some (.int 12), some (dcD A), some (.int e), x5, some (nD l), some (nD b), x8, none]).sat po := by
  have hpos : 0 < A.length := List.length_pos_iff.mpr hne
  obtain ⟨z, L1, e1, h1⟩ := take_nat (L := L) (b := (A.length : Int)) (by omega)
  have hz : z < (sA A).length := by rw [sA_len]; omega
  obtain ⟨o, ho⟩ : ∃ o, o = (sA A)[z] := ⟨_, rfl⟩
  have hoA : o ∈ A := sA_perm.mem_iff.mp (by rw [ho]; exact List.getElem_mem hz)
  have hr := g.rows o hoA
  have at1 : atI ((sA A).map fun r => enZ (k2 r)) (z : Int) = some (.tup [nD o.1.1, nD o.1.2]) := atI_nat (by omega) (by
    rw [Int.toNat_natCast, List.getElem?_map, List.getElem?_eq_getElem hz, ← ho]
    rfl)
  have kO := fun (r : DL.Env) h h9 => keys_of (A := A) (r := r) h h9 hA
  have sk := sort_keys (A := A) (o := true)
  have lc := lenC_dc (A := A)
  have hl := hr.l
  have hmn : (0 : Int) < min 3 ((w : Int) - (o.1.1 : Int) + 1) := by omega
  obtain ⟨d, L2, e2, h2⟩ := take_nat (L := L1) (b := min 3 ((w : Int) - (o.1.1 : Int) + 1)) hmn
  have hd : d ≤ w - o.1.1 := by omega
  have hp : (0 : Int) < 2 ^ d := by rw [pow_int]; have : 0 < 2 ^ d := Nat.pow_pos (by decide); omega
  obtain ⟨c, L3, e3, h3⟩ := take_nat (L := L2) (b := 2 ^ d) hp
  have hc : c < 2 ^ d := by rw [pow_int] at h3; omega
  have hb : o.1.2 * 2 ^ d + c < 2 ^ (o.1.1 + d) := by
    rw [Nat.pow_add]
    have : (o.1.2 + 1) * 2 ^ d ≤ 2 ^ o.1.1 * 2 ^ d := Nat.mul_le_mul_right _ hr.b
    rw [Nat.add_mul] at this
    omega
  have h64 : o.1.2 < 65536 := Nat.lt_of_lt_of_le hr.b (Nat.pow_le_pow_right (n := 2) (j := 16) (by decide) (by omega))
  have s0 : ((o.1.1 + d : Nat) : Int) - (o.1.1 : Int) = (d : Int) := by omega
  have s1 : dShl (.int (o.1.2 : Int)) (.int (d : Int)) = some (nD (o.1.2 * 2 ^ d)) := by
    rw [dShl_int (CPow_iff.mpr ⟨by omega, by omega, by omega⟩), Int.toNat_natCast, pow_int]
    exact congrArg (fun z => some (D.int z)) (Int.natCast_mul _ _).symm
  have s2 : dShl (.int 1) (.int (d : Int)) = some (.int (2 ^ d)) := by rw [dShl_int (CPow_iff.mpr ⟨by omega, by omega, by decide⟩), Int.toNat_natCast, Int.one_mul]
  have s3 : ((o.1.1 : Nat) : Int) + (d : Int) = ((o.1.1 + d : Nat) : Int) := by omega
  have s4 : ((o.1.2 * 2 ^ d : Nat) : Int) + (c : Int) = ((o.1.2 * 2 ^ d + c : Nat) : Int) := by omega
  have hq := q (o.1.1 + d) (o.1.2 * 2 ^ d + c) (.tup [nD o.1.1, nD o.1.2]) L3 (by omega) hb
  have sn : ((A.map fun r => enZ (k2 r))) = ((A.map fun r => enZ (k2 r))) := rfl
  have kk : eLcD 3 (setG 9) DL.tYes (eV 9) [9] [some (iL L), some (.int w), some (.int 12), some (dcD A), some (.int e), x5, some (nD l), some (nD b), x8, none] = .ok (.lst true (A.map fun r => enZ (k2 r))) [some (iL L), some (.int w), some (.int 12), some (dcD A), some (.int e), x5, some (nD l), some (nD b), x8, none] := kO _ rfl rfl
  generalize (A.map fun r => enZ (k2 r)) = K at *
  generalize ((sA A).map fun r => enZ (k2 r)) = KS at *
  generalize dcD A = Z at *
  generalize A.length = n at *
  generalize hx1 : ((o.1.1 + d : Nat) : Int) = y1 at *
  generalize hx2 : ((o.1.2 * 2 ^ d + c : Nat) : Int) = y2 at *
  generalize o.1.2 * 2 ^ d = y3 at *
  generalize (2 : Int) ^ d = y4 at *
  simp [oldS, kk, sk, lc, d_take, e1, e2, e3, at1, s3, s0, s1, s2, s4]
  rw [← hx1, ← hx2]
  exact hq
theorem b_lp : b__law_plan = sSeq (sSet 3 (eDic true))
    (sSeq (sSet 4 (eOp dAdd (eSh (pC (.int 1))) (eCallM 2 m__law_take 0 (aCons (eSh (pC (.int 4))) aNil))))
    (sSeq (sFor (iR1 (aCons (eCallM 2 m__law_take 0 (aCons (eUp (pOp dAdd (getP 2) (pC (.int 1)))) aNil)) aNil)) (setG 5) (sSeq (sSet 6 (eCallM 2 m__law_take 0 (aCons (eUp (pOp dAdd (getP 1) (pC (.int 1)))) aNil)))
    (sSeq (sSet 7 (eCallM 2 m__law_take 0 (aCons (eUp (pOp dShl (pC (.int 1)) (getP 6))) aNil)))
    (sSeq (sIf (tAnd (tUp (bP (pOp dNeC (getP 3) (pDic false)))) (bE (eOp dEq (eCallM 2 m__law_take 0 (aCons (eSh (pC (.int 2))) aNil)) (eSh (pC (.int 0)))))) oldS (.nx))
    layS))))
    (sRet (eCB dTuple (aCons (eLc (tupG 2 (consG (setG 6) (consG (setG 7) nilG))) tYes (eTup (aCons (eV 6) (aCons (eV 7) (aCons (eSh (pIxD (getP 3) (pTup (paCons (getP 6) (paCons (getP 7) paNil))))) aNil)))) [6, 7] (iSq (eCB dSortA (aCons (eLcD 3 (setG 9) tYes (eV 9) [9]) aNil)))) aNil))))) := rfl
def ShI (w e : Nat) (j : Nat) (r : DL.Env) : Prop := ∃ (A : List PRow) (L : List Int) (x5 x6 x7 x8 : Option D), GoodA w A ∧ A.length ≤ j ∧ shX x6 ∧ shX x7 ∧
  r = [some (iL L), some (.int w), some (.int 12), some (dcD A), some (.int e), x5, x6, x7, x8, none]
theorem tail_lp {w e : Nat} {A : List PRow} {L : List Int} {x5 x6 x7 x8 : Option D} (hA : A.length ≤ 1000) (g : GoodA w A) (h6 : shX x6) (h7 : shX x7) :
    (sRet (eCB dTuple (aCons (eLc (tupG 2 (consG (setG 6) (consG (setG 7) nilG))) tYes (eTup (aCons (eV 6) (aCons (eV 7) (aCons (eSh (pIxD (getP 3) (pTup (paCons (getP 6) (paCons (getP 7) paNil))))) aNil)))) [6, 7] (iSq (eCB dSortA (aCons (eLcD 3 (setG 9) tYes (eV 9) [9]) aNil)))) aNil)) [some (iL L), some (.int w), some (.int 12), some (dcD A), some (.int e), x5, x6, x7, x8, none]).sat
      (.ans fun d r => ∃ o, slot0 r = some o ∧ ∃ p L', d = plD p ∧ o = iL L' ∧ Ok w p ∧ p.length ≤ A.length) := by
  have kk : eLcD 3 (setG 9) DL.tYes (eV 9) [9] [some (iL L), some (.int w), some (.int 12), some (dcD A), some (.int e), x5, x6, x7, x8, none] = .ok (.lst true (A.map fun r => enZ (k2 r))) [some (iL L), some (.int w), some (.int 12), some (dcD A), some (.int e), x5, x6, x7, x8, none] := keys_of rfl rfl hA
  have sk := sort_keys (A := A) (o := true)
  have key : lcL (tupG 2 (consG (setG 6) (consG (setG 7) nilG))) tYes (eTup (aCons (eV 6) (aCons (eV 7) (aCons (eSh (pIxD (getP 3) (pTup (paCons (getP 6) (paCons (getP 7) paNil))))) aNil)))) [6, 7] ((sA A).map fun r => enZ (k2 r)) [] [some (iL L), some (.int w), some (.int 12), some (dcD A), some (.int e), x5, none, none, x8, none] =
      .ok ([] ++ (sA A).map rowD) [some (iL L), some (.int w), some (.int 12), some (dcD A), some (.int e), x5, none, none, x8, none] := by
    refine lcL_mapT rowD (sA A) [] (by rw [sA_len]; simp; omega) fun a ha => ?_
    have hm : a ∈ A := sA_perm.mem_iff.mp ha
    have lk : dIxD (dcD A) (.tup [nD a.1.1, nD a.1.2]) = some (xD a.2) := by
      unfold dcD
      rw [dIxD_dic]
      exact look_A g.nd hm
    refine ⟨[some (iL L), some (.int w), some (.int 12), some (dcD A), some (.int e), x5, some (nD a.1.1), some (nD a.1.2), x8, none], ?_, ?_, rfl⟩
    · show tupG 2 _ (.tup [nD a.1.1, nD a.1.2]) _ = _
      rw [tupG_tup (by simp) (by simp)]
      simp
    · generalize dcD A = Z at *
      simp [lk]
      rfl
  have hsK : D.shL ((sA A).map fun r => enZ (k2 r)) = true := shL_map fun _ _ => sh_enZ
  have fin : (Po.ans fun d r => ∃ o, slot0 r = some o ∧ ∃ p L', d = plD p ∧ o = iL L' ∧ Ok w p ∧ p.length ≤ A.length).rt (plD (sA A)) [some (iL L), some (.int w), some (.int 12), some (dcD A), some (.int e), x5, x6, x7, x8, none] :=
    ⟨_, rfl, sA A, L, rfl, rfl, g.ok, by rw [sA_len]; exact Nat.le_refl _⟩
  have hsR : D.shL ((sA A).map rowD) = true := shL_rows
  have dt : dTuple [.lst true ((sA A).map rowD)] = some (plD (sA A)) := dTuple_lst hsR
  generalize (A.map fun r => enZ (k2 r)) = K at *
  generalize ((sA A).map fun r => enZ (k2 r)) = KS at *
  generalize (sA A).map rowD = RS at *
  generalize dcD A = Z at *
  have rs : resE [some (iL L), some (.int w), some (.int 12), some Z, some (.int e), x5, x6, x7, x8, none] [some (iL L), some (.int w), some (.int 12), some Z, some (.int e), x5, none, none, x8, none] [6, 7] = [some (iL L), some (.int w), some (.int 12), some Z, some (.int e), x5, x6, x7, x8, none] := by
    have a7 : resE [some (iL L), some (.int w), some (.int 12), some Z, some (.int e), x5, x6, x7, x8, none] [some (iL L), some (.int w), some (.int 12), some Z, some (.int e), x5, none, none, x8, none] [7] = [some (iL L), some (.int w), some (.int 12), some Z, some (.int e), x5, none, x7, x8, none] := by
      rw [resE_x (x := x7) rfl h7 rfl]; rfl
    rw [resE_x (x := x6) rfl h6 (by rw [a7]; rfl), a7]
    rfl
  simp [kk, sk, hsK, key, dt, rs]
  exact ⟨sA A, rfl, ⟨L, rfl⟩, g.ok, by rw [sA_len]; exact Nat.le_refl _⟩
end Lw

namespace Lw
open PySem PySem.Spec PyProof.Rows L2 DL Pl
def LpQ (w : Nat) (d o : D) : Prop := ∃ p L', d = plD p ∧ o = iL L' ∧ Ok w p ∧ p.length ≤ 12
theorem e_law_plan {w : Nat} {L : List Int} (hw : w ≤ 16) : ∃ p L', m__law_plan [iL L, .int w, .int 12] = .ok (plD p) (iL L') ∧ Ok w p ∧ p.length ≤ 12 := by
  have main : ∃ d o, m__law_plan [iL L, .int w, .int 12] = .ok d o ∧ LpQ w d o := by
    unfold m__law_plan
    rw [b_lp]
    refine outM_ex ?_
    obtain ⟨e0, L1, e1, h1⟩ := take_nat (L := L) (b := 4) (by decide)
    obtain ⟨n, L2, e2, h2⟩ := take_nat (L := L1) (b := 13) (by decide)
    have s1 : (1 : Int) + (e0 : Int) = ((1 + e0 : Nat) : Int) := by omega
    have c1 : (n : Int) < 4611686018427387904 := by omega
    have c2 : (-4611686018427387904 : Int) ≤ n := by omega
    have he : 1 ≤ 1 + e0 ∧ 1 + e0 ≤ 4 := by omega
    have z0 : D.dic true true [] [] = dcD [] := rfl
    generalize 1 + e0 = e at *
    simp [List.replicate, d_take, e1, e2, s1, c1, c2]
    rw [z0]
    refine sat_forR (ShI w e) ⟨[], L2, none, none, none, none, ⟨by simp, fun _ z => nomatch z⟩, Nat.le_refl _, shX_none, shX_none, rfl⟩ ?_ ?_
    · rintro j r hj ⟨A, L, x5, x6, x7, x8, g, hA, hs6, hs7, rfl⟩
      refine ⟨_, setG_lt (by simp), ?_⟩
      obtain ⟨l, L1, e1, h1⟩ := take_nat (L := L) (b := (w : Int) + 1) (by omega)
      have hp : (0 : Int) < 2 ^ l := by rw [pow_int]; have : 0 < 2 ^ l := Nat.pow_pos (by decide); omega
      obtain ⟨b, L2, e2, h2⟩ := take_nat (L := L1) (b := 2 ^ l) hp
      have hb : b < 2 ^ l := by rw [pow_int] at h2; omega
      have s2 : dShl (.int 1) (.int (l : Int)) = some (.int (2 ^ l)) := by rw [dShl_int (CPow_iff.mpr ⟨by omega, by omega, by decide⟩), Int.toNat_natCast, Int.one_mul]
      have nd := ne_dc (A := A)
      obtain ⟨v, L3, e3, h3⟩ := take_nat (L := L2) (b := 2) (by decide)
      have lay : ∀ (l b : Nat) (y : Option D) (L : List Int), l ≤ w → b < 2 ^ l → (layS [some (iL L), some (.int w), some (.int 12), some (dcD A), some (.int e), some (nD j), some (nD l), some (nD b), y, none]).sat
          (((Po.ans fun d r => ∃ o, slot0 r = some o ∧ LpQ w d o).andd (sRet (eCB dTuple (aCons (eLc (tupG 2 (consG (setG 6) (consG (setG 7) nilG))) DL.tYes (eTup (aCons (eV 6) (aCons (eV 7) (aCons (eSh (pIxD (getP 3) (pTup (paCons (getP 6) (paCons (getP 7) paNil))))) aNil)))) [6, 7] (iSq (eCB dSortA (aCons (eLcD 3 (setG 9) DL.tYes (eV 9) [9]) aNil)))) aNil)))).turn (ShI w e (j + 1))) := by
        intro l b y L hl hb
        refine lay_ok he (by omega) fun x L' hx => ?_
        exact ⟨putA A (l, b) x, L', _, _, _, _, g.put ⟨hl, hb, hx⟩, Nat.le_trans put_len (by omega), shX_some rfl, shX_some rfl, rfl⟩
      by_cases hA0 : A = []
      · subst hA0
        have nd2 : dNeC (dcD []) (.dic true false [] []) = some (.bl false) := nd
        generalize dcD [] = Z at *
        simp [d_take, e1, e2, s2, nd2]
        exact lay l b _ L2 (by omega) hb
      · have nd2 : dNeC (dcD A) (.dic true false [] []) = some (.bl true) := by rw [nd]; cases A with
          | nil => exact absurd rfl hA0
          | cons _ _ => rfl
        by_cases hv : v = 0
        · subst hv
          have ol := fun po q => old_ok (w := w) (e := e) (l := l) (b := b) (A := A) (L := L3) (x5 := some (nD j)) (x8 := x8) (po := po) hw (by omega) g hA0 q
          generalize hZ : dcD A = Z at *
          simp [d_take, e1, e2, e3, s2, nd2]
          refine ol _ fun l' b' y L' hl' hb' => ?_
          exact lay l' b' _ L' hl' hb'
        · have hv' : ¬ ((v : Int) = 0) := by omega
          generalize dcD A = Z at *
          simp [d_take, e1, e2, e3, s2, nd2, hv, hv']
          exact lay l b _ L3 (by omega) hb
    · rintro r ⟨A, L, x5, x6, x7, x8, g, hA, hs6, hs7, rfl⟩
      refine sat_imp (tail_lp (by omega) g hs6 hs7) (fun r h => ?_) (fun d r h => ?_) (fun r h => h) (fun r h => h) (fun c r h => h)
      · obtain ⟨o, e1, p, L', e2, _⟩ := h
        exact nomatch e2
      · obtain ⟨o, e1, p, L', e2, e3, e4, e5⟩ := h
        exact ⟨o, e1, p, L', e2, e3, e4, by omega⟩
  obtain ⟨d, o, h, p, L', rfl, rfl, h1, h2⟩ := main
  exact ⟨p, L', h, h1, h2⟩
end Lw

namespace Lw
open PySem PySem.Spec PyProof.Rows L2 DL Pl
abbrev yesP : Po := .ans fun d _ => d = .bl true
abbrev E2 (ns L : List Int) (w : Nat) (p : List PRow) (x4 x5 x6 x7 x8 x9 x10 x11 x12 x13 x14 : Option D) : DL.Env :=
  [some (.scr ns), some (iL L), some (.int w), some (plD p), x4, x5, x6, x7, x8, x9, x10, x11, x12, x13, x14]
def BadV (w : Nat) (v : D) : Prop := v.sh = true ∧ m_is_plan [.int w, v] = .ok (.bl false)
def row60 (n : Nat) : PRow := ((16, n), some 99)
theorem ok60 : m_is_plan [.int 16, plD ((List.range 60).map row60)] = .ok (.bl true) := by
  have e := plan_rows (w := 16) (p := (List.range 60).map row60) (by decide) (fun r hr => by
    obtain ⟨n, hn, rfl⟩ := List.mem_map.mp hr
    have := List.mem_range.mp hn
    exact ⟨Nat.le_refl _, by show n < 2 ^ 16; omega, fun x hx => by cases hx; decide⟩) (by simp)
  have pw : ((List.range 60).map row60).Pairwise (fun r r' => ltK r.1 r'.1 = true) := by
    rw [List.pairwise_map]
    exact List.Pairwise.imp (R := fun a b : Nat => a < b) (fun {a b} h => by rw [ltK_iff]; exact .inr ⟨rfl, h⟩) List.pairwise_lt_range
  rw [asc_ok pw] at e
  exact e
section
variable {ns L : List Int} {w : Nat} {p : List PRow} {x4 x5 x6 x7 x8 x9 x10 x11 x12 x13 x14 : Option D}
theorem seg11 {o : Bool} {ds : List D} (h14 : shX x14) (h10 : shX x10) (hl : ds.length ≤ 1000) (h : ∀ v ∈ ds.map D.frz, BadV w v) : (t11 (E2 ns L w p x4 x5 x6 (some (.lst o ds)) x8 x9 x10 x11 x12 x13 x14)).sat yesP := by
  have hs : D.shL (ds.map D.frz) = true := shL_iff.mpr fun d hd => (h d hd).1
  have key1 : lcL (setG 10) (tNot (bE (eCall 2 m__law_says (aCons (eCall 2 m_is_plan (aCons (eV 2) (aCons (eV 10) aNil))) (aCons (eSh (pC (.bl false))) aNil))))) (eV 10) [10] (ds.map D.frz) [] (E2 ns L w p x4 x5 x6 (some (.lst false (ds.map D.frz))) x8 x9 none x11 x12 x13 x14) =
      .ok [] (E2 ns L w p x4 x5 x6 (some (.lst false (ds.map D.frz))) x8 x9 none x11 x12 x13 x14) := by
    refine lcL_no _ _ fun v hv => ?_
    obtain ⟨h1, h2⟩ := h v hv
    refine ⟨_, setG_lt (by simp), ?_, rfl⟩
    generalize ds.map D.frz = zs at *
    simp [E2, h1, h2, d_says, says_ok]
  have key2 : lcL (setG 14) tYes (eTup (aCons (eSh (pC (.int 16))) (aCons (eV 14) (aCons (eSh (pC (.int 99))) aNil)))) [14] (rgI 0 60) [] (E2 ns L w p x4 x5 x6 (some (.lst false (ds.map D.frz))) x8 x9 x10 x11 x12 x13 none) =
      .ok ([] ++ (List.range 60).map fun n => rowD (row60 n)) (E2 ns L w p x4 x5 x6 (some (.lst false (ds.map D.frz))) x8 x9 x10 x11 x12 x13 none) := by
    refine lcL_rngT (fun n => rowD (row60 n)) (by decide) fun n hn => ?_
    refine ⟨_, setG_lt (by simp), ?_, rfl⟩
    generalize ds.map D.frz = zs at *
    simp [E2]
    rfl
  have e60 : D.tup ((List.range 60).map fun n => rowD (row60 n)) = plD ((List.range 60).map row60) := by unfold plD; rw [List.map_map]; rfl
  have s60 : D.shL ((List.range 60).map fun n => rowD (row60 n)) = true := shL_map fun _ _ => sh_rowD
  have k60 := ok60
  rw [← e60] at k60
  generalize ((List.range 60).map fun n => rowD (row60 n)) = R60 at *
  have fz : fzO 7 (.lst o ds) (E2 ns L w p x4 x5 x6 (some (.lst o ds)) x8 x9 x10 x11 x12 x13 x14) = .ok (.lst false (ds.map D.frz)) (E2 ns L w p x4 x5 x6 (some (.lst false (ds.map D.frz))) x8 x9 x10 x11 x12 x13 x14) := by rw [fzO_any rfl]; rfl
  generalize ds.map D.frz = zs at *
  simp only [E2] at *
  simp [t11, fz, hs, key1, key2, h10, h14, s60, k60]
end
end Lw

namespace Lw
open PySem PySem.Spec PyProof.Rows L2 DL Pl
theorem bad_asc {w : Nat} {q : List PRow} (hw : w ≤ 16) (h : ∀ r ∈ q, OkR w r) (hl : q.length ≤ 60) (ha : ascB q = false) : BadV w (plD q) := ⟨by simp, by rw [plan_rows hw h hl, ha]⟩
theorem bad_rev {w : Nat} {p : List PRow} (hw : w ≤ 16) (h : Ok w p) (hl : p.length ≤ 60) (h2 : 1 < p.length) : BadV w (plD p.reverse) := by
  refine bad_asc hw (fun r hr => h.rows r (List.mem_reverse.mp hr)) (by simpa using hl) ?_
  refine asc_no 0 (r := p[p.length - 1]) (r' := p[p.length - 2]) ?_ ?_ ?_
  · rw [List.getElem?_reverse (by omega)]
    exact List.getElem?_eq_getElem (by omega)
  · rw [List.getElem?_reverse (by omega)]
    rw [show p.length - 1 - (0 + 1) = p.length - 2 by omega]
    exact List.getElem?_eq_getElem (by omega)
  · exact ltK_asy (List.pairwise_iff_getElem.mp h.ord (p.length - 2) (p.length - 1) (by omega) (by omega) (by omega))
theorem bad_dup {w : Nat} {p : List PRow} {k : Nat} (hw : w ≤ 16) (h : Ok w p) (hl : p.length ≤ 50) (hk : k < p.length) : BadV w (plD (p.take k ++ [p[k]] ++ p.drop k)) := by
  refine bad_asc hw (fun r hr => ?_) ?_ ?_
  · simp only [List.mem_append, List.mem_singleton] at hr
    rcases hr with (hr | rfl) | hr
    · exact h.rows r (List.mem_of_mem_take hr)
    · exact h.rows _ (List.getElem_mem hk)
    · exact h.rows r (List.mem_of_mem_drop hr)
  · simp only [List.length_append, List.length_take, List.length_singleton, List.length_drop]
    omega
  · have hlt : (p.take k).length = k := by rw [List.length_take]; omega
    refine asc_no k (r := p[k]) (r' := p[k]) ?_ ?_ ltK_irr
    · rw [List.getElem?_append_left (by rw [List.length_append, hlt]; simp), List.getElem?_append_right (by omega), hlt]
      simp
    · rw [List.getElem?_append_right (by rw [List.length_append, hlt]; simp), List.length_append, hlt]
      simp [hk]
theorem bad_two {w : Nat} {p : List PRow} (hw : 1 ≤ w ∧ w ≤ 16) (h : Ok w p) (hl : p.length ≤ 50) : BadV w (plD (p ++ [((0, 0), some 1), ((0, 0), some 2)])) := by
  refine bad_asc hw.2 (fun r hr => ?_) (by simp; omega) ?_
  · rcases List.mem_append.mp hr with hr | hr
    · exact h.rows r hr
    · have : r = ((0, 0), some 1) ∨ r = ((0, 0), some 2) := by simpa using hr
      rcases this with rfl | rfl
      · exact ⟨Nat.zero_le _, by decide, fun x hx => by cases hx; decide⟩
      · exact ⟨Nat.zero_le _, by decide, fun x hx => by cases hx; decide⟩
  · refine asc_no p.length (r := ((0, 0), some 1)) (r' := ((0, 0), some 2)) (by simp) (by rw [List.getElem?_append_right (by omega)]; simp) ltK_irr
theorem bad_put {w : Nat} {p : List PRow} {k : Nat} {d : D} (hw : w ≤ 16) (h : Ok w p) (hl : p.length ≤ 50) (hk : k < p.length) (hd : BadR w d) : BadV w (.tup ((p.take k).map rowD ++ d :: (p.drop (k + 1)).map rowD)) := by
  refine ⟨?_, plan_bad hw (fun r hr => h.rows r (List.mem_of_mem_take hr)) hd shL_rows ?_⟩
  · have := hd.1
    have s1 : D.shL ((p.take k).map rowD) = true := shL_rows
    have s2 : D.shL ((p.drop (k + 1)).map rowD) = true := shL_rows
    rw [sh_tup, shL_append, shL_cons, s1, s2, this]
    rfl
  · simp only [List.length_take, List.length_map, List.length_drop]
    omega
section
variable {ns L : List Int} {w : Nat} {p : List PRow} {x4 x5 x6 x7 x8 x9 x10 x11 x12 x13 x14 : Option D}
structure Cx (w : Nat) (p : List PRow) : Prop where
  w1 : 1 ≤ w
  w6 : w ≤ 6
  ok : Ok w p
  len : p.length ≤ 12
theorem bad_frz {w : Nat} {v : D} (h : BadV w v) : BadV w v.frz := by rw [frz_sh v h.1]; exact h
theorem seg10 {ds : List D} (c : Cx w p) (h14 : shX x14) (h10 : shX x10) (hl : ds.length ≤ 900) (h : ∀ v ∈ ds.map D.frz, BadV w v) : (t10 (E2 ns L w p x4 x5 x6 (some (.lst true ds)) x8 x9 x10 x11 x12 x13 x14)).sat yesP := by
  have lp : dLen [plD p] = some (.int p.length) := by unfold plD; rw [dLen_tup, List.length_map]
  have rv : dRevT (plD p) = some (plD p.reverse) := by
    unfold plD dRevT
    dsimp only
    rw [if_pos shL_rows, List.map_reverse]
  by_cases h2 : 1 < p.length
  · have hb := bad_rev (by have := c.w6; omega) c.ok (by have := c.len; omega) h2
    have k := fun (ds : List D) hl h => seg11 (ns := ns) (L := L) (w := w) (p := p) (x4 := x4) (x5 := x5) (x6 := x6) (x8 := x8) (x9 := x9) (x11 := x11) (x12 := x12) (x13 := x13) (o := true) (ds := ds) h14 h10 hl h
    have k2 := k (ds ++ [plD p.reverse]) (by simp; omega) (by
      intro v hv
      rw [List.map_append] at hv
      rcases List.mem_append.mp hv with hv | hv
      · exact h v hv
      · obtain rfl : v = (plD p.reverse).frz := by simpa using hv
        exact bad_frz hb)
    have h2' : (1 : Int) < p.length := by omega
    have s1 : (plD p).sh = true := sh_plD
    have s2 : (plD p.reverse).sh = true := sh_plD
    have hl' : ds.length < 16777216 := by omega
    simp only [E2] at *
    generalize plD p.reverse = R at *
    generalize plD p = P at *
    generalize (p.length : Int) = n at *
    simp [t10, lp, h2', rv, s1, hl']
    exact k2
  · have h2' : ¬ (1 : Int) < p.length := by omega
    have k2 := seg11 (ns := ns) (L := L) (w := w) (p := p) (x4 := x4) (x5 := x5) (x6 := x6) (x8 := x8) (x9 := x9) (x11 := x11) (x12 := x12) (x13 := x13) (o := true) (ds := ds) h14 h10 (by omega) h
    simp only [E2] at *
    generalize plD p = P at *
    generalize (p.length : Int) = n at *
    simp [t10, lp, h2']
    exact k2
end
end Lw

namespace Lw
open PySem PySem.Spec PyProof.Rows L2 DL Pl
section
variable {ns L : List Int} {w k : Nat} {p : List PRow} {r : PRow} {x4 x5 x6 x7 x8 x9 x10 x11 x12 x13 x14 : Option D}
/-- seven rows, five exits -/
def rows7 (w : Nat) (r : PRow) : List D := [.non, .lst false [nD r.1.1, nD r.1.2, xD r.2], .tup [nD r.1.1, nD r.1.2], .tup [nD r.1.1, nD r.1.2, xD r.2, .int 0], .tup [.int ((w : Int) + 1), .int 0, xD r.2], .tup [nD r.1.1, .int (2 ^ r.1.1), xD r.2], .tup [nD r.1.1, .int (-1), xD r.2]]
def vals5 : List D := [.int 100, .int (-1), .bl true, .str "1", .tup [.int 1]]
theorem rows7_bad (hw : w ≤ 16) (h : OkR w r) : ∀ d ∈ rows7 w r, BadR w d := by
  intro d hd
  simp only [rows7, List.mem_cons, List.not_mem_nil, or_false] at hd
  rcases hd with rfl | rfl | rfl | rfl | rfl | rfl | rfl
  · exact bad_non
  · exact bad_lst (by simp)
  · exact bad_len (by simp) (by simp)
  · exact bad_len (by simp) (by simp)
  · exact bad_pre hw sh_xD (by omega)
  · exact bad_pre hw sh_xD (by rw [Int.toNat_natCast]; omega)
  · exact bad_pre hw sh_xD (by omega)
theorem vals5_bad (hw : w ≤ 16) (h : OkR w r) : ∀ v ∈ vals5, v.sh = true ∧ BadR w (.tup [nD r.1.1, nD r.1.2, v]) := by
  intro v hv
  simp only [vals5, List.mem_cons, List.not_mem_nil, or_false] at hv
  rcases hv with rfl | rfl | rfl | rfl | rfl
  · exact ⟨by simp, bad_exit hw (by simp) h.l h.b (ex_int (by omega))⟩
  · exact ⟨by simp, bad_exit hw (by simp) h.l h.b (ex_int (by omega))⟩
  · exact ⟨by simp, bad_exit hw (by simp) h.l h.b ex_bl⟩
  · exact ⟨by simp, bad_exit hw (by simp) h.l h.b ex_str⟩
  · exact ⟨by simp, bad_exit hw (by simp) h.l h.b (ex_tup (by simp))⟩
def OdI (ns L : List Int) (w : Nat) (p : List PRow) (k : Nat) (r : PRow) (x4 x5 x6 x14 : Option D) (b j : Nat) (e : DL.Env) : Prop := ∃ (ds : List D) (x9 x10 : Option D), shX x10 ∧ ds.length = b + j ∧ (∀ v ∈ ds.map D.frz, BadV w v) ∧
  e = E2 ns L w p x4 x5 x6 (some (.lst true ds)) (some (nD k)) x9 x10 (some (nD r.1.1)) (some (nD r.1.2)) (some (xD r.2)) x14
theorem sl_a (hk : k ≤ p.length) : dSl none (some (k : Int)) (plD p) = some (.tup ((p.take k).map rowD)) := by
  unfold plD
  rw [dSl_t shL_rows, cut_pre, List.map_take]
theorem sl_b : dSl (some (k : Int)) none (plD p) = some (.tup ((p.drop k).map rowD)) := by
  unfold plD
  rw [dSl_t shL_rows, cut_suf, List.map_drop]
theorem sl_c : dSl (some ((k : Int) + 1)) none (plD p) = some (.tup ((p.drop (k + 1)).map rowD)) := sl_b (k := k + 1)
theorem add_a {d : D} (hl : p.length ≤ 50) (hd : d.sh = true) : dAdd (.tup ((p.take k).map rowD)) (.tup [d]) = some (.tup ((p.take k).map rowD ++ [d])) := dAdd_tup shL_rows (by simp [hd]) (by rw [sizeLine_eq]; simp only [List.length_map, List.length_take, List.length_singleton]; omega)
theorem add_b {d : D} {j : Nat} (hl : p.length ≤ 50) (hd : d.sh = true) : dAdd (.tup ((p.take k).map rowD ++ [d])) (.tup ((p.drop j).map rowD)) = some (.tup ((p.take k).map rowD ++ d :: (p.drop j).map rowD)) := by
  have s1 : D.shL ((p.take k).map rowD) = true := shL_rows
  rw [dAdd_tup (by rw [shL_append, s1]; simp [hd]) shL_rows (by rw [sizeLine_eq]; simp only [List.length_append, List.length_map, List.length_take, List.length_singleton, List.length_drop]; omega), List.append_assoc]
  rfl
def B7 : DL.Env → SR := sExpr (eApp 7 (eUp (pOp dAdd (pOp dAdd (pSl (getP 3) oNo (oSome (getP 8))) (pTup (paCons (getP 9) paNil))) (pSl (getP 3) (oSome (pOp dAdd (getP 8) (pC (.int 1)))) oNo))))
def B5 : DL.Env → SR := sExpr (eApp 7 (eUp (pOp dAdd (pOp dAdd (pSl (getP 3) oNo (oSome (getP 8))) (pTup (paCons (pTup (paCons (getP 11) (paCons (getP 12) (paCons (getP 10) paNil)))) paNil))) (pSl (getP 3) (oSome (pOp dAdd (getP 8) (pC (.int 1)))) oNo))))
theorem all_add {ds : List D} {y : D} (h : ∀ v ∈ ds.map D.frz, BadV w v) (hv : BadV w y) : ∀ v ∈ (ds ++ [y]).map D.frz, BadV w v := by
  intro u hu
  rw [List.map_append] at hu
  rcases List.mem_append.mp hu with hu | hu
  · exact h u hu
  · obtain rfl : u = y.frz := by simpa using hu
    exact bad_frz hv
theorem loop7 {es : List D} {b : Nat} {po : Po} {e : DL.Env} (c : Cx w p) (hk : k < p.length) (hb : b + es.length ≤ 800) (hes : ∀ d ∈ es, BadR w d) (he : OdI ns L w p k r x4 x5 x6 x14 b 0 e)
    (q : ∀ e, OdI ns L w p k r x4 x5 x6 x14 b es.length e → po.nx e) : (forL (setG 9) B7 es e).sat po := by
  refine sat_for (OdI ns L w p k r x4 x5 x6 x14 b) he ?_ q
  rintro j d e hj ⟨ds, x9, x10, h10, hl, h, rfl⟩
  have hd := hes d (List.mem_of_getElem? hj)
  have hjl : j < es.length := (List.getElem?_eq_some_iff.mp hj).1
  have cl := c.len
  have a1 := sl_a (p := p) (k := k) (by omega)
  have a2 := sl_c (p := p) (k := k)
  have a3 := add_a (p := p) (k := k) (d := d) (by omega) hd.1
  have a4 := add_b (p := p) (k := k) (j := k + 1) (d := d) (by omega) hd.1
  have bv := bad_put (by have := c.w6; omega) c.ok (by omega) hk hd
  have hd1 := hd.1
  refine ⟨_, setG_lt (by simp), ?_⟩
  have hl' : ds.length < 16777216 := by omega
  have fin : OdI ns L w p k r x4 x5 x6 x14 b (j + 1) (E2 ns L w p x4 x5 x6 (some (.lst true (ds ++ [.tup ((p.take k).map rowD ++ d :: (p.drop (k + 1)).map rowD)]))) (some (nD k)) (some d) x10 (some (nD r.1.1)) (some (nD r.1.2)) (some (xD r.2)) x14) :=
    ⟨_, _, _, h10, by simp [hl]; omega, all_add h bv, rfl⟩
  have hsv := bv.1
  simp only [E2] at *
  generalize D.tup ((p.take k).map rowD ++ d :: (p.drop (k + 1)).map rowD) = V at *
  generalize (p.take k).map rowD = P1 at *
  generalize (p.drop (k + 1)).map rowD = P2 at *
  generalize plD p = P at *
  simp [B7, a1, a2, a3, a4, hl']
  exact fin
theorem loop5 {es : List D} {b : Nat} {po : Po} {e : DL.Env} (c : Cx w p) (hk : k < p.length) (hb : b + es.length ≤ 800) (hes : ∀ v ∈ es, v.sh = true ∧ BadR w (.tup [nD r.1.1, nD r.1.2, v])) (he : OdI ns L w p k r x4 x5 x6 x14 b 0 e)
    (q : ∀ e, OdI ns L w p k r x4 x5 x6 x14 b es.length e → po.nx e) : (forL (setG 10) B5 es e).sat po := by
  refine sat_for (OdI ns L w p k r x4 x5 x6 x14 b) he ?_ q
  rintro j d e hj ⟨ds, x9, x10, h10, hl, h, rfl⟩
  have hd := hes d (List.mem_of_getElem? hj)
  have hjl : j < es.length := (List.getElem?_eq_some_iff.mp hj).1
  have cl := c.len
  have a1 := sl_a (p := p) (k := k) (by omega)
  have a2 := sl_c (p := p) (k := k)
  have a3 := add_a (p := p) (k := k) (d := .tup [nD r.1.1, nD r.1.2, d]) (by omega) hd.2.1
  have a4 := add_b (p := p) (k := k) (j := k + 1) (d := .tup [nD r.1.1, nD r.1.2, d]) (by omega) hd.2.1
  have bv := bad_put (by have := c.w6; omega) c.ok (by omega) hk hd.2
  have hd1 := hd.1
  refine ⟨_, setG_lt (by simp), ?_⟩
  have hl' : ds.length < 16777216 := by omega
  have fin : OdI ns L w p k r x4 x5 x6 x14 b (j + 1) (E2 ns L w p x4 x5 x6 (some (.lst true (ds ++ [.tup ((p.take k).map rowD ++ .tup [nD r.1.1, nD r.1.2, d] :: (p.drop (k + 1)).map rowD)]))) (some (nD k)) x9 (some d) (some (nD r.1.1)) (some (nD r.1.2)) (some (xD r.2)) x14) :=
    ⟨_, _, _, shX_some hd1, by simp [hl]; omega, all_add h bv, rfl⟩
  have hsv := bv.1
  simp only [E2] at *
  generalize D.tup ((p.take k).map rowD ++ .tup [nD r.1.1, nD r.1.2, d] :: (p.drop (k + 1)).map rowD) = V at *
  generalize (p.take k).map rowD = P1 at *
  generalize (p.drop (k + 1)).map rowD = P2 at *
  generalize plD p = P at *
  simp [B5, a1, a2, a3, a4, hl']
  exact fin
end
end Lw

namespace Lw
open PySem PySem.Spec PyProof.Rows L2 DL Pl
section
variable {ns L : List Int} {w k : Nat} {p : List PRow} {r : PRow} {x4 x5 x6 x7 x8 x9 x10 x11 x12 x13 x14 : Option D}
theorem ne_nil {p : List PRow} : dNe (plD p) (.tup []) = some (.bl (!p.isEmpty)) := by
  have h1 : (plD p).dep ≤ 2 := by
    unfold plD
    simp only [D.dep]
    have : D.depL (p.map rowD) ≤ 1 := depL_le fun d hd => by
      obtain ⟨r, _, rfl⟩ := List.mem_map.mp hd
      simp [rowD]
    omega
  rw [dNe_dep (by omega) (by simp)]
  unfold plD
  cases p <;> simp
def I7 : DL.Env → Res (List D) := iSq (eFz (eLst (aCons (eSh (pC .non)) (aCons (eLst (aCons (eV 11) (aCons (eV 12) (aCons (eV 13) aNil)))) (aCons (eTup (aCons (eV 11) (aCons (eV 12) aNil))) (aCons (eTup (aCons (eV 11) (aCons (eV 12) (aCons (eV 13) (aCons (eSh (pC (.int 0))) aNil))))) (aCons (eTup (aCons (eUp (pOp dAdd (getP 2) (pC (.int 1)))) (aCons (eSh (pC (.int 0))) (aCons (eV 13) aNil)))) (aCons (eTup (aCons (eV 11) (aCons (eUp (pOp dShl (pC (.int 1)) (getP 11))) (aCons (eV 13) aNil)))) (aCons (eTup (aCons (eV 11) (aCons (eSh (pUn dNeg (pC (.int 1)))) (aCons (eV 13) aNil)))) aNil)))))))))
def I5 : DL.Env → Res (List D) := iSq (eLst (aCons (eSh (pC (.int 100))) (aCons (eSh (pUn dNeg (pC (.int 1)))) (aCons (eSh (pC (.bl true))) (aCons (eSh (pC (.str "1"))) (aCons (eTup (aCons (eSh (pC (.int 1))) aNil)) aNil))))))
def A9 : DL.Env → SR := sExpr (eApp 7 (eUp (pOp dAdd (pOp dAdd (pSl (getP 3) oNo (oSome (getP 8))) (pTup (paCons (pIx (getP 3) (getP 8)) paNil))) (pSl (getP 3) (oSome (getP 8)) oNo))))
theorem t9_eq : t9 = sSeq (sIf (tUp (bP (pOp dNe (getP 3) (pTup paNil)))) (sSeq (sSet 8 (eCallM 2 m__law_take 1 (aCons (epCB dLen (paCons (getP 3) paNil)) aNil)))
    (sSeq (sAsg (tupG 3 (consG (setG 11) (consG (setG 12) (consG (setG 13) nilG)))) (eSh (pIx (getP 3) (getP 8))))
    (sSeq A9 (sSeq (sFor I7 (setG 9) B7) (sFor I5 (setG 10) B5))))) (.nx)) t10 := rfl
theorem i7_ok {e8 : D} {z : D} (hl : r.1.1 ≤ 1000) : I7 (E2 ns L w p x4 x5 x6 (some z) (some e8) x9 x10 (some (nD r.1.1)) (some (nD r.1.2)) (some (xD r.2)) x14) = .ok (rows7 w r) (E2 ns L w p x4 x5 x6 (some z) (some e8) x9 x10 (some (nD r.1.1)) (some (nD r.1.2)) (some (xD r.2)) x14) := by
  have h1 : (r.1.1 : Int) ≤ 1000000 := by omega
  have s2 : dShl (.int 1) (.int (r.1.1 : Int)) = some (.int (2 ^ r.1.1)) := by rw [dShl_int (CPow_iff.mpr ⟨by omega, h1, by decide⟩), Int.toNat_natCast, Int.one_mul]
  unfold I7 rows7
  simp only [E2]
  generalize plD p = P
  generalize (2 : Int) ^ r.1.1 = y at *
  simp [s2]
theorem i5_ok {r : DL.Env} : I5 r = .ok vals5 r := by
  unfold I5 vals5
  simp
theorem seg9 {ds : List D} (c : Cx w p) (h14 : shX x14) (h10 : shX x10) (hl : ds.length ≤ 700) (h : ∀ v ∈ ds.map D.frz, BadV w v) : (t9 (E2 ns L w p x4 x5 x6 (some (.lst true ds)) x8 x9 x10 x11 x12 x13 x14)).sat yesP := by
  rw [t9_eq]
  have cl := c.len
  have w6 := c.w6
  by_cases hp : p = []
  · subst hp
    have s10 := seg10 (ns := ns) (L := L) (x4 := x4) (x5 := x5) (x6 := x6) (x8 := x8) (x9 := x9) (x11 := x11) (x12 := x12) (x13 := x13) c h14 h10 (by omega) h
    have e1 := ne_nil (p := [])
    simp only [E2] at *
    generalize plD [] = P at *
    simp [e1]
    exact s10
  · have hpos : 0 < p.length := List.length_pos_iff.mpr hp
    have e1 : dNe (plD p) (.tup []) = some (.bl true) := by rw [ne_nil]; cases p with
      | nil => exact absurd rfl hp
      | cons _ _ => rfl
    obtain ⟨k, L1, e2, h2⟩ := take_nat (L := L) (b := (p.length : Int)) (by omega)
    have hk : k < p.length := by omega
    have hr := c.ok.rows _ (List.getElem_mem hk)
    have lp : dLen [plD p] = some (.int p.length) := by unfold plD; rw [dLen_tup, List.length_map]
    have ix : dIx (plD p) (nD k) = some (rowD p[k]) := by
      unfold plD
      rw [dIx_tup]
      exact atI_nat (by omega) (by rw [Int.toNat_natCast, List.getElem?_map, List.getElem?_eq_getElem hk]; rfl)
    have bd := bad_dup (by omega) c.ok (by omega) hk
    have e3 : plD (p.take k ++ [p[k]] ++ p.drop k) = .tup ((p.take k).map rowD ++ rowD p[k] :: (p.drop k).map rowD) := by
      unfold plD
      rw [List.map_append, List.map_append, List.append_assoc]
      rfl
    rw [e3] at bd
    generalize p[k] = rk at *
    have a1 := sl_a (p := p) (k := k) (by omega)
    have a2 := sl_b (p := p) (k := k)
    have a3 := add_a (p := p) (k := k) (d := rowD rk) (by omega) sh_rowD
    have a4 := add_b (p := p) (k := k) (j := k) (d := rowD rk) (by omega) sh_rowD
    have hl' : ds.length < 16777216 := by omega
    have sr : (rowD rk).sh = true := sh_rowD
    have tg : ∀ r0 : DL.Env, tupG 3 (consG (setG 11) (consG (setG 12) (consG (setG 13) nilG))) (rowD rk) r0 = (consG (setG 11) (consG (setG 12) (consG (setG 13) nilG))) [nD rk.1.1, nD rk.1.2, xD rk.2] r0 := fun r0 => by
      unfold rowD
      rw [tupG_tup (by simp) (by simp)]
    have fin : ∀ e, OdI ns L1 w p k rk x4 x5 x6 x14 (ds.length + 1 + (rows7 w rk).length) vals5.length e → (t10 e).sat yesP := by
      rintro e ⟨ds', x9, x10, h10, hl2, h2, rfl⟩
      refine seg10 c h14 h10 ?_ h2
      rw [hl2]
      simp [rows7, vals5]
      omega
    have start : OdI ns L1 w p k rk x4 x5 x6 x14 (ds.length + 1) 0 (E2 ns L1 w p x4 x5 x6 (some (.lst true (ds ++ [.tup ((p.take k).map rowD ++ rowD rk :: (p.drop k).map rowD)]))) (some (nD k)) x9 x10 (some (nD rk.1.1)) (some (nD rk.1.2)) (some (xD rk.2)) x14) :=
      ⟨_, _, _, h10, by simp, all_add h bd, rfl⟩
    have hb7 : ds.length + 1 + (rows7 w rk).length ≤ 800 := by simp [rows7]; omega
    have hb5 : ds.length + 1 + (rows7 w rk).length + vals5.length ≤ 800 := by simp [rows7, vals5]; omega
    have hw16 : w ≤ 16 := by omega
    have r7 := rows7_bad hw16 hr
    have r5 := vals5_bad hw16 hr
    have l7 := fun (po : Po) (e : DL.Env) he q => loop7 (ns := ns) (L := L1) (x4 := x4) (x5 := x5) (x6 := x6) (x14 := x14) (r := rk) (b := ds.length + 1) (po := po) (e := e) (es := rows7 w rk) c hk hb7 r7 he q
    have l5 := fun (po : Po) (e : DL.Env) he q => loop5 (ns := ns) (L := L1) (x4 := x4) (x5 := x5) (x6 := x6) (x14 := x14) (r := rk) (b := ds.length + 1 + (rows7 w rk).length) (po := po) (e := e) (es := vals5) c hk hb5 r5 he q
    have i7 := i7_ok (ns := ns) (L := L1) (w := w) (p := p) (r := rk) (x4 := x4) (x5 := x5) (x6 := x6) (x9 := x9) (x10 := x10) (x14 := x14) (e8 := nD k) (z := .lst true (ds ++ [.tup ((p.take k).map rowD ++ rowD rk :: (p.drop k).map rowD)])) (by have := hr.l; omega)
    simp only [E2] at *
    generalize D.tup ((p.take k).map rowD ++ rowD rk :: (p.drop k).map rowD) = V at *
    generalize (p.take k).map rowD = P1 at *
    generalize (p.drop k).map rowD = P2 at *
    generalize rowD rk = R at *
    simp [e1, lp, d_take, e2, ix, sr, tg]
    simp only [A9, sExpr_ap]
    simp [ix, sr, a1, a2, a3, a4, hl', i7]
    refine l7 _ _ start fun e he => ?_
    show (sFor I5 (setG 10) B5 e).sat _
    rw [sFor_ap, i5_ok, Res.thn_ok]
    refine l5 _ _ ?_ fun e he => fin e he
    obtain ⟨ds', x9, x10, h10, hl2, h2, rfl⟩ := he
    exact ⟨ds', x9, x10, h10, by simpa using hl2, h2, rfl⟩
end
end Lw

namespace Lw
open PySem PySem.Spec PyProof.Rows L2 DL Pl
section
variable {ns L : List Int} {w k : Nat} {p : List PRow} {r : PRow} {x4 x5 x6 x7 x8 x9 x10 x11 x12 x13 x14 : Option D}
def row61 (n : Nat) : PRow := ((16, n), some 1)
theorem seg8 (c : Cx w p) (h14 : shX x14) (h10 : shX x10) : (t8 (E2 ns L w p x4 x5 x6 x7 x8 x9 x10 x11 x12 x13 x14)).sat yesP := by
  have cl := c.len
  have w6 := c.w6
  have key : lcL (setG 14) tYes (eTup (aCons (eSh (pC (.int 16))) (aCons (eV 14) (aCons (eSh (pC (.int 1))) aNil)))) [14] (rgI 0 61) [] (E2 ns L w p x4 x5 x6 x7 x8 x9 x10 x11 x12 x13 none) =
      .ok ([] ++ (List.range 61).map fun n => rowD (row61 n)) (E2 ns L w p x4 x5 x6 x7 x8 x9 x10 x11 x12 x13 none) := by
    refine lcL_rngT (fun n => rowD (row61 n)) (by decide) fun n hn => ?_
    refine ⟨_, setG_lt (by simp), ?_, rfl⟩
    simp [E2]
    rfl
  have s61 : D.shL ((List.range 61).map fun n => rowD (row61 n)) = true := shL_map fun _ _ => sh_rowD
  have b61 : BadV w (.tup ((List.range 61).map fun n => rowD (row61 n))) := ⟨by simp [s61], plan_long s61 (by simp)⟩
  have b2 := bad_two ⟨c.w1, by omega⟩ c.ok (by omega)
  have e2 : dAdd (plD p) (.tup [.tup [.int 0, .int 0, .int 1], .tup [.int 0, .int 0, .int 2]]) = some (plD (p ++ [((0, 0), some 1), ((0, 0), some 2)])) := by
    unfold plD
    rw [dAdd_tup shL_rows (by simp) (by rw [sizeLine_eq]; simp; omega), List.map_append]
    rfl
  have e1 : dList [plD p] = some (.lst true (p.map rowD)) := by unfold plD; exact dList_tup shL_rows
  have b1 : BadV w (.lst false (p.map rowD)) := ⟨by simp, plan_lst shL_rows⟩
  have b0 : BadV w .non := ⟨by simp, plan_non⟩
  have fz : (D.lst true (p.map rowD)).frz = .lst false (p.map rowD) := by rw [frz_lst, frzLS shL_rows]
  have s9 := seg9 (ns := ns) (L := L) (x4 := x4) (x5 := x5) (x6 := x6) (x8 := x8) (x9 := x9) (x11 := x11) (x12 := x12) (x13 := x13) (ds := [.non, .lst true (p.map rowD), plD (p ++ [((0, 0), some 1), ((0, 0), some 2)]), .tup ((List.range 61).map fun n => rowD (row61 n))]) c h14 h10 (by simp) (by
    intro v hv
    rw [List.map_cons, List.map_cons, List.map_cons, List.map_cons, List.map_nil, fz] at hv
    simp only [List.mem_cons, List.not_mem_nil, or_false] at hv
    rcases hv with rfl | rfl | rfl | rfl
    · exact b0
    · exact b1
    · exact bad_frz b2
    · exact bad_frz b61)
  have sp : (plD p).sh = true := sh_plD
  have sp2 : (plD (p ++ [((0, 0), some 1), ((0, 0), some 2)])).sh = true := sh_plD
  simp only [E2] at *
  generalize (List.range 61).map (fun n => rowD (row61 n)) = R61 at *
  generalize plD (p ++ [((0, 0), some 1), ((0, 0), some 2)]) = P2 at *
  generalize p.map rowD = PL at *
  generalize plD p = P at *
  have rs : resE [some (.scr ns), some (iL L), some (.int w), some P, x4, x5, x6, x7, x8, x9, x10, x11, x12, x13, x14] [some (.scr ns), some (iL L), some (.int w), some P, x4, x5, x6, x7, x8, x9, x10, x11, x12, x13, none] [14] = [some (.scr ns), some (iL L), some (.int w), some P, x4, x5, x6, x7, x8, x9, x10, x11, x12, x13, x14] := by
    rw [resE_x (x := x14) rfl h14 rfl]; rfl
  simp [t8, e1, e2, key, s61, rs]
  exact s9
/-! ### the spread that is due -/
def DuI (ns L : List Int) (w : Nat) (p : List PRow) (o : Bool) (x7 x8 x9 x10 x11 x12 x13 x14 : Option D) (j : Nat) (e : DL.Env) : Prop := ∃ x5 : Option D,
  e = E2 ns L w p (some (.lst o (exD w p))) x5 (some (.lst true ((due (exitF w p) j).map spD))) x7 x8 x9 x10 x11 x12 x13 x14
theorem due_succ {e : Nat → Option Nat} {n : Nat} : due e (n + 1) = push (due e n) (n, n, e n) := by
  unfold due
  rw [addr_add, Nat.zero_add]
  rfl
theorem due_len {e : Nat → Option Nat} : ∀ {n : Nat}, (due e n).length ≤ n
  | 0 => by simp [due, addr]
  | n + 1 => by
    rw [due_succ]
    exact Nat.le_trans push_len (by have := due_len (e := e) (n := n); omega)
theorem dep_sp {F : List PSp} : (D.tup (F.map spD)).dep ≤ 2 := by
  simp only [D.dep]
  have : D.depL (F.map spD) ≤ 1 := depL_le fun d hd => by
    obtain ⟨q, _, rfl⟩ := List.mem_map.mp hd
    simp [spD]
  omega
theorem small_xD {x : Option Nat} : (xD x).small = true := by cases x <;> rfl
theorem small_sp {q : PSp} : (spD q).small = true := by
  unfold spD
  simp [D.small, D.smallL, small_xD]
theorem alike_sp {F : List PSp} (h : F.length ≤ 1000) : m_alike 40 [.tup (F.map spD), .tup (F.map spD)] = .ok (.bl true) := by
  refine alike_refl 40 _ (by simp) (by have := dep_sp (F := F); omega) (by decide) ?_
  simp [D.small, smallL_map (fun (q : PSp) _ => small_sp)]
  omega
theorem alike_x {x : Option Nat} : m_alike 40 [xD x, xD x] = .ok (.bl true) := alike_refl 40 _ sh_xD (by simp) (by decide) small_xD
theorem fo_len {w : Nat} {p : List PRow} : (foF w [p]).length = 1 + 2 * p.length := by
  have : ∀ p : List PRow, (foP w p).length = 2 * p.length := by
    intro p
    induction p with
    | nil => rfl
    | cons r p ih =>
      unfold foP at ih ⊢
      rw [List.flatMap_cons, List.length_append, ih, List.length_cons]
      simp [foR]
      omega
  simp [foF, this]
  omega
theorem bo_len {w : Nat} {ps : List (List PRow)} : (boN w ps).length ≤ (foF w ps).length := by
  refine (List.Nodup.length_le_of_subset (boN_lt.imp fun h => by omega) fun x hx => (mem_boN.mp hx).1)
theorem seg7 {o : Bool} (c : Cx w p) (h14 : shX x14) (h10 : shX x10) : (t7 (E2 ns L w p x4 x5 (some (.lst true ((due (exitF w p) (2 ^ w)).map spD))) x7 x8 x9 x10 x11 x12 x13 x14)).sat yesP := by
  have cl := c.len
  have w6 := c.w6
  have e1 := e_spread (w := w) (p := p) (by omega) c.ok.rows (by rw [fo_len]; omega) (by have := bo_len (w := w) (ps := [p]); rw [fo_len] at this; omega)
  have h64 : 2 ^ w ≤ 64 := Nat.pow_le_pow_right (n := 2) (j := 6) (by decide) w6
  have e2 := alike_sp (F := due (exitF w p) (2 ^ w)) (by have := due_len (e := exitF w p) (n := 2 ^ w); omega)
  have e3 := plan_rows (w := w) (p := p) (by omega) c.ok.rows (by omega)
  rw [asc_ok c.ok.ord] at e3
  have s8 := seg8 (ns := ns) (L := L) (x4 := x4) (x5 := x5) (x6 := some (.lst true ((due (exitF w p) (2 ^ w)).map spD))) (x7 := x7) (x8 := x8) (x9 := x9) (x11 := x11) (x12 := x12) (x13 := x13) c h14 h10
  have sp : (plD p).sh = true := sh_plD
  have sF : D.shL ((due (exitF w p) (2 ^ w)).map spD) = true := shL_sp
  simp only [E2] at *
  generalize (due (exitF w p) (2 ^ w)).map spD = F at *
  generalize plD p = P at *
  simp [t7, e1, d_alike, e2, d_says, e3, says_ok, sp, sF]
  exact s8
end
end Lw

namespace Lw
open PySem PySem.Spec PyProof.Rows L2 DL Pl
section
variable {ns L : List Int} {w k : Nat} {p : List PRow} {r : PRow} {x4 x5 x6 x7 x8 x9 x10 x11 x12 x13 x14 : Option D}
def DBod : DL.Env → SR := sIf (tUp (tpAnd (bP (pOp dNe (getP 6) (pLsF paNil))) (bP (pOp dEq (pIx (pIx (getP 6) (pUn dNeg (pC (.int 1)))) (pC (.int 2))) (pIx (getP 4) (getP 5)))))) (sStr 6 (pUn dNeg (pC (.int 1))) (eTup (aCons (eSh (pIx (pIx (getP 6) (pUn dNeg (pC (.int 1)))) (pC (.int 0)))) (aCons (eV 5) (aCons (eSh (pIx (getP 4) (getP 5))) aNil))))) (sExpr (eApp 6 (eTup (aCons (eV 5) (aCons (eV 5) (aCons (eSh (pIx (getP 4) (getP 5))) aNil))))))
theorem t6_eq : t6 = sSeq (sFor (iR1 (aCons (eUp (pOp dShl (pC (.int 1)) (getP 2))) aNil)) (setG 5) DBod) t7 := rfl
theorem depL_sp {F : List PSp} : D.depL (F.map spD) ≤ 63 := Nat.le_trans (depL_le fun d hd => by
  obtain ⟨q, _, rfl⟩ := List.mem_map.mp hd
  show (spD q).dep ≤ 1
  simp [spD]) (by decide)
theorem ex_at {a : Nat} (h : a < 2 ^ w) : atI (exD w p) (a : Int) = some (xD (exitF w p a)) := atI_nat (by omega) (by
  unfold exD
  rw [Int.toNat_natCast, List.getElem?_map, List.getElem?_range h]
  rfl)
theorem dbod_ok {a : Nat} {o : Bool} {F : List PSp} {po : Po} (ha : a < 2 ^ w) (hF : F.length ≤ 1000) (q : po.nx (E2 ns L w p (some (.lst o (exD w p))) (some (nD a)) (some (.lst true ((push F (a, a, exitF w p a)).map spD))) x7 x8 x9 x10 x11 x12 x13 x14)) :
    (DBod (E2 ns L w p (some (.lst o (exD w p))) (some (nD a)) (some (.lst true (F.map spD))) x7 x8 x9 x10 x11 x12 x13 x14)).sat po := by
  have at1 := ex_at (w := w) (p := p) ha
  have dp := depL_sp (F := F)
  generalize exitF w p a = x at *
  rcases List.eq_nil_or_concat F with rfl | ⟨F', l, rfl⟩
  · simp only [E2] at *
    generalize exD w p = EX at *
    generalize plD p = P at *
    rw [push_nil] at q
    simp [DBod, at1]
    exact q
  · rw [List.concat_eq_append] at *
    rw [push_app] at q
    have hF' : (F' ++ [l]).map spD = F'.map spD ++ [spD l] := by simp
    rw [hF'] at dp ⊢
    have l1 : (F'.map spD).length ≤ 1000 := by rw [List.length_map]; rw [List.length_append] at hF; omega
    simp only [E2] at *
    generalize exD w p = EX at *
    generalize plD p = P at *
    generalize hG : F'.map spD = G at *
    have a5 : dIx (.lst true (G ++ [spD l])) (.int (-1)) = some (.tup [nD l.1, nD l.2.1, xD l.2.2]) := at_last
    have a6 : ixN (G ++ [spD l]).length (-1) = some G.length := by rw [List.length_append]; exact ix_last
    have a7 : ∀ d : D, (G ++ [spD l]).set G.length d = G ++ [d] := fun d => set_last
    have a8 : (G ++ [spD l]).length < 16777216 := by rw [List.length_append, List.length_singleton]; omega
    have a9 : dNe (.lst true (G ++ [spD l])) (.lst false []) = some (.bl true) := by
      rw [dNe_nil dp]
      simp
    by_cases hx : l.2.2 = x
    · rw [if_pos hx] at q
      have st : strL 6 (.tup [nD l.1, nD a, xD x]) (.int (-1)) [some (.scr ns), some (iL L), some (.int w), some P, some (.lst o EX), some (nD a), some (.lst true (G ++ [spD l])), x7, x8, x9, x10, x11, x12, x13, x14] =
          .nx [some (.scr ns), some (iL L), some (.int w), some P, some (.lst o EX), some (nD a), some (.lst true (G ++ [.tup [nD l.1, nD a, xD x]])), x7, x8, x9, x10, x11, x12, x13, x14] := by
        rw [strL_ok rfl a6 (by simp), a7]
        rfl
      have e9 : (F' ++ [(l.1, a, x)]).map spD = G ++ [.tup [nD l.1, nD a, xD x]] := by rw [List.map_append, hG]; rfl
      rw [e9] at q
      simp [DBod, at1, a9, a5, hx, st]
      exact q
    · rw [if_neg hx] at q
      have e9 : (F' ++ [l] ++ [(a, a, x)]).map spD = G ++ [spD l] ++ [.tup [nD a, nD a, xD x]] := by rw [List.map_append, List.map_append, hG]; rfl
      rw [e9] at q
      generalize G ++ [spD l] = G2 at *
      simp [DBod, at1, a9, a5, hx, a8]
      exact q
theorem seg6 {o : Bool} (c : Cx w p) (h14 : shX x14) (h10 : shX x10) : (t6 (E2 ns L w p (some (.lst o (exD w p))) x5 (some (.lst true [])) x7 x8 x9 x10 x11 x12 x13 x14)).sat yesP := by
  rw [t6_eq]
  have w6 := c.w6
  have h64 : 2 ^ w ≤ 64 := Nat.pow_le_pow_right (n := 2) (j := 6) (by decide) w6
  have h1 : (w : Int) ≤ 1000000 := by omega
  have h3 : dShl (.int 1) (.int (w : Int)) = some (nD (2 ^ w)) := by rw [dShl_int (CPow_iff.mpr ⟨by omega, h1, by decide⟩), Int.toNat_natCast, Int.one_mul, pow_int]
  have s7 := fun x5 => seg7 (o := true) (ns := ns) (L := L) (x4 := some (.lst o (exD w p))) (x5 := x5) (x7 := x7) (x8 := x8) (x9 := x9) (x11 := x11) (x12 := x12) (x13 := x13) c h14 h10
  have bod := fun (j : Nat) (hj : j < 2 ^ w) (po : Po) q => dbod_ok (ns := ns) (L := L) (w := w) (p := p) (o := o) (x7 := x7) (x8 := x8) (x9 := x9) (x10 := x10) (x11 := x11) (x12 := x12) (x13 := x13) (x14 := x14) (F := due (exitF w p) j) (po := po) hj (by have := due_len (e := exitF w p) (n := j); omega) q
  have d0 : (due (exitF w p) 0).map spD = [] := rfl
  have ds : ∀ j, due (exitF w p) (j + 1) = push (due (exitF w p) j) (j, j, exitF w p j) := fun j => due_succ
  generalize hn : 2 ^ w = n at *
  have c1 : (n : Int) < 4611686018427387904 := by omega
  have c2 : (-4611686018427387904 : Int) ≤ n := by omega
  simp only [E2] at *
  simp [h3, c1, c2]
  refine sat_forR (DuI ns L w p o x7 x8 x9 x10 x11 x12 x13 x14) ⟨x5, by rw [d0]⟩ ?_ ?_
  · rintro j r hj ⟨x5, rfl⟩
    refine ⟨_, setG_lt (by simp), ?_⟩
    rw [show (0 : Int) + (j : Nat) = (j : Int) by omega]
    refine bod j hj _ ?_
    exact ⟨_, by rw [ds]⟩
  · rintro r ⟨x5, rfl⟩
    rw [hn.symm] at *
    exact s7 x5
theorem seg5 {o : Bool} (c : Cx w p) (h14 : shX x14) (h10 : shX x10) : (t5 (E2 ns L w p (some (.lst o (exD w p))) x5 x6 x7 x8 x9 x10 x11 x12 x13 x14)).sat yesP := by
  have s6 := seg6 (ns := ns) (L := L) (x5 := x5) (x7 := x7) (x8 := x8) (x9 := x9) (x11 := x11) (x12 := x12) (x13 := x13) (o := o) c h14 h10
  simp only [E2] at *
  generalize exD w p = EX at *
  generalize plD p = P at *
  simp [t5]
  exact s6
def CkI (ns L : List Int) (w : Nat) (p : List PRow) (o : Bool) (x6 x7 x8 x9 x10 x11 x12 x13 x14 : Option D) (j : Nat) (e : DL.Env) : Prop := ∃ x5 : Option D, e = E2 ns L w p (some (.lst o (exD w p))) x5 x6 x7 x8 x9 x10 x11 x12 x13 x14
theorem seg4 {o : Bool} (c : Cx w p) (h14 : shX x14) (h10 : shX x10) : (t4 (E2 ns L w p (some (.lst o (exD w p))) x5 x6 x7 x8 x9 x10 x11 x12 x13 x14)).sat yesP := by
  have w6 := c.w6
  have h64 : 2 ^ w ≤ 64 := Nat.pow_le_pow_right (n := 2) (j := 6) (by decide) w6
  have h1 : (w : Int) ≤ 1000000 := by omega
  have h3 : dShl (.int 1) (.int (w : Int)) = some (nD (2 ^ w)) := by rw [dShl_int (CPow_iff.mpr ⟨by omega, h1, by decide⟩), Int.toNat_natCast, Int.one_mul, pow_int]
  have s5 := fun x5 => seg5 (ns := ns) (L := L) (x5 := x5) (x6 := x6) (x7 := x7) (x8 := x8) (x9 := x9) (x11 := x11) (x12 := x12) (x13 := x13) (o := o) c h14 h10
  have ee : ∀ a : Nat, m_exit_of [.int w, plD p, .int a] = .ok (xD (exitF w p a)) := fun a => e_exit_of c.ok.rows
  have ea : ∀ a : Nat, a < 2 ^ w → atI (exD w p) (a : Int) = some (xD (exitF w p a)) := fun a h => ex_at h
  have e0 : E2 ns L w p (some (.lst o (exD w p))) x5 x6 x7 x8 x9 x10 x11 x12 x13 x14 = E2 ns L w p (some (.lst o (exD w p))) x5 x6 x7 x8 x9 x10 x11 x12 x13 x14 := rfl
  have sp : (plD p).sh = true := sh_plD
  have hCk : ∀ j x5, CkI ns L w p o x6 x7 x8 x9 x10 x11 x12 x13 x14 j (E2 ns L w p (some (.lst o (exD w p))) x5 x6 x7 x8 x9 x10 x11 x12 x13 x14) := fun j x5 => ⟨x5, rfl⟩
  generalize hn : 2 ^ w = n at *
  have c1 : (n : Int) < 4611686018427387904 := by omega
  have c2 : (-4611686018427387904 : Int) ≤ n := by omega
  have key : ∀ (j : Nat) (y5 : Option D), j < n → ((sIf (tNot (bE (eCall 2 (m__law_alike 40) (aCons (eCall 3 m_exit_of (aCons (eV 2) (aCons (eV 3) (aCons (eV 5) aNil)))) (aCons (eSh (pIx (getP 4) (getP 5))) aNil))))) (sRet (eSh (pC (.bl false)))) (.nx)) (E2 ns L w p (some (.lst o (exD w p))) (some (nD j)) x6 x7 x8 x9 x10 x11 x12 x13 x14)).sat ((yesP.andd t5).turn (CkI ns L w p o x6 x7 x8 x9 x10 x11 x12 x13 x14 (j + 1))) := by
    intro j y5 hj
    have q1 := ee j
    have q2 := ea j hj
    have q3 := hCk (j + 1) (some (nD j))
    have q4 := alike_x (x := exitF w p j)
    generalize exitF w p j = x at *
    generalize hI : CkI ns L w p o x6 x7 x8 x9 x10 x11 x12 x13 x14 (j + 1) = I at *
    simp only [E2] at *
    generalize exD w p = EX at *
    generalize plD p = P at *
    simp [q1, q2, d_alike, q4, sp]
    exact q3
  simp only [t4, sat_sSeq, sFor_ap]
  simp only [E2] at *
  simp [h3, c1, c2]
  refine sat_forR (CkI ns L w p o x6 x7 x8 x9 x10 x11 x12 x13 x14) ⟨x5, rfl⟩ ?_ ?_
  · rintro j r hj ⟨x5, rfl⟩
    refine ⟨_, setG_lt (by simp), ?_⟩
    rw [show (0 : Int) + (j : Nat) = (j : Int) by omega]
    exact key j x5 hj
  · rintro r ⟨x5, rfl⟩
    exact s5 x5
end
theorem law_true (ns : List Int) (hns : ns.length ≤ 63) : m_law [.scr ns] = .ok (.bl true) := by
  unfold m_law b_law
  refine outP_eq ?_
  obtain ⟨L0, e0⟩ := draws_okB hns
  obtain ⟨k, L1, e1, hk⟩ := take_nat (L := L0) (b := 6) (by decide)
  have ew : (1 : Int) + (k : Nat) = ((1 + k : Nat) : Int) := by omega
  obtain ⟨p, L2, e2, hok, hlen⟩ := e_law_plan (w := 1 + k) (L := L1) (by omega)
  have c : Cx (1 + k) p := ⟨by omega, by omega, hok, hlen⟩
  have e3 := e_law_exits (w := 1 + k) (p := p) (by omega) hok
  have s4 := seg4 (ns := ns) (L := L2) (x5 := none) (x6 := none) (x7 := none) (x8 := none) (x9 := none) (x10 := none) (x11 := none) (x12 := none) (x13 := none) (x14 := none) (o := true) c shX_none shX_none
  have sp : (plD p).sh = true := sh_plD
  simp only [E2] at *
  generalize exD (1 + k) p = EX at *
  generalize plD p = P at *
  generalize 1 + k = w at *
  simp [t0, t1, t2, t3, List.replicate, d_draws, e0, d_take, e1, ew, e2, e3, sp]
  exact s4
end Lw

open PySem PySem.W PyProof.Rows
set_option maxHeartbeats 0 in
theorem PySem.Challenge.cw_packetsheld_k06_plans_judged_and_looked_holds : PySem.Challenge.rw_packetsheld_k06_plans_judged_and_looked.Holds := by
  w_on; o_law; k_head; (case hw => w_witness2)
  k_fill
  refine DL.walk_tabs (l := PySem.Challenge.rw_packetsheld_k06_plans_judged_and_looked) (n := 63) (k := 42) (x := "script") rfl (by decide) rfl ⟨rfl, by decide, by decide⟩ (fun w h Y => PySem.W.kIn_of Y) ?F (Nat.le_refl _)
  case F =>
    intro w mg fa h KX G hmg tabs
    refine' Lw.all_mk KX G hmg tabs ?a0 ?l0 ?c0 ?k0 ?a1 ?l1 ?c1 ?k1 ?a2 ?l2 ?c2 ?k2 ?a3 ?l3 ?c3 ?k3 ?a4 ?l4 ?c4 ?k4 ?a5 ?l5 ?c5 ?k5 ?a6 ?l6 ?c6 ?k6 ?a7 ?l7 ?c7 ?k7 ?a8 ?l8 ?c8 ?k8 ?a9 ?l9 ?c9 ?k9 ?a10 ?l10 ?c10 ?k10 ?a11 ?l11 ?c11 ?k11 ?a12 ?l12 ?c12 ?k12 ?a13 ?l13 ?c13 ?k13 ?a14 ?l14 ?c14 ?k14 ?a15 ?l15 ?c15 ?k15 ?a16 ?l16 ?c16 ?k16 ?z_abs ?z_all ?z_bool ?z_int ?z_isinstance ?z_len ?z_list ?z_min ?z_range ?z_reversed ?z_sorted ?z_str ?z_tuple ?w_MOST_EXIT ?w_MOST_ROWS ?q10 ?m10 ?v10 ?n10 Lw.law_true
    (case a0 => k_is); (case l0 => k_is); (case c0 => k_is); (case k0 => k_is); (case a1 => k_is); (case l1 => k_is); (case c1 => k_is); (case k1 => k_is); (case a2 => k_is); (case l2 => k_is); (case c2 => k_is); (case k2 => k_is); (case a3 => k_is); (case l3 => k_is); (case c3 => k_is); (case k3 => k_is); (case a4 => k_is); (case l4 => k_is); (case c4 => k_is); (case k4 => k_is); (case a5 => k_is); (case l5 => k_is); (case c5 => k_is); (case k5 => k_is); (case a6 => k_is); (case l6 => k_is); (case c6 => k_is); (case k6 => k_is); (case a7 => k_is); (case l7 => k_is); (case c7 => k_is); (case k7 => k_is); (case a8 => k_is); (case l8 => k_is); (case c8 => k_is); (case k8 => k_is); (case a9 => k_is); (case l9 => k_is); (case c9 => k_is); (case k9 => k_is); (case a10 => k_is); (case l10 => k_is); (case c10 => k_is); (case k10 => k_is); (case a11 => k_is); (case l11 => k_is); (case c11 => k_is); (case k11 => k_is); (case a12 => k_is); (case l12 => k_is); (case c12 => k_is); (case k12 => k_is); (case a13 => k_is); (case l13 => k_is); (case c13 => k_is); (case k13 => k_is); (case a14 => k_is); (case l14 => k_is); (case c14 => k_is); (case k14 => k_is); (case a15 => k_is); (case l15 => k_is); (case c15 => k_is); (case k15 => k_is); (case a16 => k_is); (case l16 => k_is); (case c16 => k_is); (case k16 => k_is); (case z_abs => k_is); (case z_all => k_is); (case z_bool => k_is); (case z_int => k_is); (case z_isinstance => k_is); (case z_len => k_is); (case z_list => k_is); (case z_min => k_is); (case z_range => k_is); (case z_reversed => k_is); (case z_sorted => k_is); (case z_str => k_is); (case z_tuple => k_is); (case w_MOST_EXIT => k_is); (case w_MOST_ROWS => k_is); (case q10 => rfl); (case m10 => k_is); (case v10 => rfl); (case n10 => rfl)
