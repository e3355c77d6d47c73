import PyProof.Rows.All
import Wide.All
import OpenK.AllK
import Wide.FinOn
import HandS.ForMost
import HandS.ForExc
import HandS.Star
import HandS.TupAny
import HandS.TupLe
import HandS.Deep
import HandS.IsInst
import HandS.CallLocal
import HandS.SortOrd
import HandS.DictTup
import HandS.Conv
import HandS.Flow
import HandS.DictEq
import HandS.TryMany
import HandS.ExcSuper
import HandS.Head0
import HandS.Head1
import HandS.Head2
import HandS.HeadEnd
import HandS.HeadHook1
import HandS.HeadHook2
import HandS.HeadHook3
import HandS.HeadHook4
import KE.DataCmp
import KE.SortData
import HandS.Style
import HandS.TupMul
import KE.DataFind
import HandS.Strs
import HandS.Small
import KE.GoesEnum
import KE.GoesMore
import HandS.Walk
import HandS.Zip
import HandS.TryOnly
import KE.KTryMore
import KE.KDictDisplayH
import KE.KSuper
import KE.KExcSuper
import HandS.ExcInit
import PySem.Challenge.RW_picturedtalks_k76_whole_manners_of_chart
set_option Elab.async false
set_option linter.all false
set_option maxRecDepth 100000
/-! Layer S: structural values over the abstract heap. SA: values, worlds, relations, results. -/
namespace S
open PySem PySem.Spec PyProof.Rows L2

/-- a value: tuples and lists that never change are structural, what changes stands in the store -/
inductive AV where
  | non | bl (b : Bool) | int (i : Int) | str (x : Str) | tup (xs : List AV) | tpS (xs : List AV) | lst (xs : List AV) | ref (n : Nat) | fn (x : Str) | scr (xs : List AV)

/-- what stands in the store -/
inductive AO where
  | lst (xs : List AV) | dK (kvs : List (Key × AV)) | dT (kvs : List (List Key × AV)) | ins (c : Str) (fs : List (Str × AV)) | frz (o : AO)
abbrev Sto := List AO
/-- where the store's objects stand; the lists that a comprehension is filling -/
structure Wd where
  ι : List Addr
  π : List Addr

def StT (w : Wd) (H : Hp) (p : Addr) (ys : List V) : Prop := p ∉ w.ι ∧ p ∉ w.π ∧ H p = some (.tup ys)
/-- a tuple of which is known that it has no dict: it may be asked for its methods -/
def StS (w : Wd) (H : Hp) (p : Addr) (ys : List V) : Prop := p ∉ w.ι ∧ p ∉ w.π ∧ ∃ ob : Obj, ob.dict = none ∧ H p = some (.frz ob (.tup ys))
def StL (w : Wd) (H : Hp) (p : Addr) (ys : List V) : Prop := p ∉ w.ι ∧ p ∉ w.π ∧ H p = some (.lst ys)
/-- the law's script -/
def StR (K : PySem.W.Frag) (w : Wd) (H : Hp) (p : Addr) (ys : List V) : Prop :=
  (p ∉ w.ι ∧ p ∉ w.π ∧ Rd H p (.lst ys)) ∨
    ∃ (o : Obj) (its : Array Value) (n : Nat), K.lookup p = some o ∧ o.cls = .type "list" ∧ o.dict = none ∧ o.data = .seq its n ∧ its.size ≤ sizeLine ∧ Vals ys its.toList
theorem StT.sq {K w H p ys} (h : StT w H p ys) : SqT K H p ys := .of h.2.2
theorem StS.sq {K w H p ys} (h : StS w H p ys) : SqT K H p ys := by
  obtain ⟨_, _, ob, _, e⟩ := h
  exact .inl (.inr ⟨ob, e⟩)
theorem StL.sq {K w H p ys} (h : StL w H p ys) : SqL K H p ys := .of h.2.2
theorem StR.sq {K w H p ys} (h : StR K w H p ys) : SqL K H p ys := h.elim (fun h => .inl h.2.2) .inr

mutual
inductive VR (K : PySem.W.Frag) (w : Wd) (H : Hp) : AV → V → Prop where
  | non : VR K w H .non .non
  | bl (b : Bool) : VR K w H (.bl b) (.bl b)
  | int (i : Int) : VR K w H (.int i) (.int i)
  | str (x : Str) : VR K w H (.str x) (.str x)
  | tup {xs : List AV} {p : Addr} {ys : List V} (h : StT w H p ys) (r : VRs K w H xs ys) : VR K w H (.tup xs) (.ref p)
  | tpS {xs : List AV} {p : Addr} {ys : List V} (h : StS w H p ys) (r : VRs K w H xs ys) : VR K w H (.tpS xs) (.ref p)
  | lst {xs : List AV} {p : Addr} {ys : List V} (h : StL w H p ys) (r : VRs K w H xs ys) : VR K w H (.lst xs) (.ref p)
  | scr {xs : List AV} {p : Addr} {ys : List V} (h : StR K w H p ys) (r : VRs K w H xs ys) : VR K w H (.scr xs) (.ref p)
  | ref {n : Nat} {p : Addr} (h : w.ι[n]? = some p) : VR K w H (.ref n) (.ref p)
  | fn (x : Str) : VR K w H (.fn x) (.ref (He.ga K x))
inductive VRs (K : PySem.W.Frag) (w : Wd) (H : Hp) : List AV → List V → Prop where
  | nil : VRs K w H [] []
  | cons {a : AV} {v : V} {xs : List AV} {ys : List V} (h : VR K w H a v) (t : VRs K w H xs ys) : VRs K w H (a :: xs) (v :: ys)
end

/-- the later world -/
structure Fut (w : Wd) (H : Hp) (w' : Wd) (H' : Hp) : Prop where
  pre : ∃ l, w'.ι = w.ι ++ l
  pi : w'.π = w.π
  keep : ∀ p o, H p = some o → p ∉ w.ι → H' p = some o
  new : ∀ p, p ∈ w'.ι → p ∉ w.ι → H p = none
  frz : ∀ p ob u, H p = some (.frz ob u) → H' p = some (.frz ob u)
theorem Fut.refl {w H} : Fut w H w H := ⟨⟨[], by simp⟩, rfl, fun _ _ h _ => h, fun _ h n => absurd h n, fun _ _ _ h => h⟩
theorem Fut.sub {w H w' H'} (f : Fut w H w' H') {p : Addr} (h : p ∈ w.ι) : p ∈ w'.ι := by
  obtain ⟨l, e⟩ := f.pre
  rw [e]; exact List.mem_append_left _ h
theorem Fut.trans {w H w1 H1 w2 H2} (f : Fut w H w1 H1) (g : Fut w1 H1 w2 H2) : Fut w H w2 H2 := by
  obtain ⟨l1, e1⟩ := f.pre
  obtain ⟨l2, e2⟩ := g.pre
  refine ⟨⟨l1 ++ l2, by rw [e2, e1, List.append_assoc]⟩, g.pi.trans f.pi, fun p o h n => ?_, fun p h n => ?_, fun p ob u h => g.frz p ob u (f.frz p ob u h)⟩
  · have h1 := f.keep p o h n
    refine g.keep p o h1 fun z => ?_
    have := f.new p z n
    rw [h] at this; cases this
  · by_cases h1 : p ∈ w1.ι
    · exact f.new p h1 n
    · have := g.new p h h1
      cases q : H p with
      | none => rfl
      | some o =>
        have := f.keep p o q n
        rw [g.new p h h1] at this; cases this
theorem Fut.out {w H w' H'} (f : Fut w H w' H') {p : Addr} {o : HO} (h : H p = some o) (n : p ∉ w.ι) : p ∉ w'.ι := fun z => by
  have := f.new p z n
  rw [h] at this; cases this
theorem Rd.fut {w H w' H'} (f : Fut w H w' H') {p : Addr} {u : HO} (n : p ∉ w.ι) (h : Rd H p u) : p ∉ w'.ι ∧ Rd H' p u := by
  rcases h with h | ⟨o, h⟩
  · exact ⟨f.out h n, .inl (f.keep _ _ h n)⟩
  · exact ⟨f.out h n, .inr ⟨o, f.keep _ _ h n⟩⟩
theorem StT.fut {w H w' H' p ys} (f : Fut w H w' H') (h : StT w H p ys) : StT w' H' p ys :=
  ⟨f.out h.2.2 h.1, by rw [f.pi]; exact h.2.1, f.keep _ _ h.2.2 h.1⟩
theorem StS.fut {w H w' H' p ys} (f : Fut w H w' H') (h : StS w H p ys) : StS w' H' p ys := by
  obtain ⟨h1, h2, ob, hd, e⟩ := h
  exact ⟨f.out e h1, by rw [f.pi]; exact h2, ob, hd, f.keep _ _ e h1⟩
theorem StL.fut {w H w' H' p ys} (f : Fut w H w' H') (h : StL w H p ys) : StL w' H' p ys :=
  ⟨f.out h.2.2 h.1, by rw [f.pi]; exact h.2.1, f.keep _ _ h.2.2 h.1⟩
theorem StR.fut {K w H w' H' p ys} (f : Fut w H w' H') (h : StR K w H p ys) : StR K w' H' p ys := by
  rcases h with ⟨a, b, c⟩ | h
  · obtain ⟨a', c'⟩ := Rd.fut f a c
    exact .inl ⟨a', by rw [f.pi]; exact b, c'⟩
  · exact .inr h
theorem Fut.at {w H w' H'} (f : Fut w H w' H') {n : Nat} {p : Addr} (h : w.ι[n]? = some p) : w'.ι[n]? = some p := by
  obtain ⟨l, e⟩ := f.pre
  have hl : n < w.ι.length := (List.getElem?_eq_some_iff.mp h).1
  rw [e, List.getElem?_append_left hl]; exact h
mutual
theorem VR.fut {K w H w' H'} (f : Fut w H w' H') : ∀ {a v}, VR K w H a v → VR K w' H' a v
  | _, _, .non => .non
  | _, _, .bl b => .bl b
  | _, _, .int i => .int i
  | _, _, .str x => .str x
  | _, _, .tup h r => .tup (h.fut f) (VRs.fut f r)
  | _, _, .tpS h r => .tpS (h.fut f) (VRs.fut f r)
  | _, _, .lst h r => .lst (h.fut f) (VRs.fut f r)
  | _, _, .scr h r => .scr (h.fut f) (VRs.fut f r)
  | _, _, .ref h => .ref (f.at h)
  | _, _, .fn x => .fn x
theorem VRs.fut {K w H w' H'} (f : Fut w H w' H') : ∀ {xs ys}, VRs K w H xs ys → VRs K w' H' xs ys
  | _, _, .nil => .nil
  | _, _, .cons h t => .cons (VR.fut f h) (VRs.fut f t)
end
theorem VRs.length {K w H} : ∀ {xs ys}, VRs K w H xs ys → xs.length = ys.length
  | _, _, .nil => rfl
  | _, _, .cons _ t => congrArg Nat.succ t.length
theorem VRs.append {K w H} : ∀ {xs ys xs' ys'}, VRs K w H xs ys → VRs K w H xs' ys' → VRs K w H (xs ++ xs') (ys ++ ys')
  | _, _, _, _, .nil, s => s
  | _, _, _, _, .cons h t, s => .cons h (t.append s)
theorem VRs.get {K w H} : ∀ {xs ys} {i : Nat} {a : AV}, VRs K w H xs ys → xs[i]? = some a → ∃ v, ys[i]? = some v ∧ VR K w H a v
  | _, _, _, _, .nil, e => by simp at e
  | _, _, 0, _, .cons h _, e => by simp at e; subst e; exact ⟨_, by simp, h⟩
  | _, _, i + 1, a, .cons _ t, e => by
    obtain ⟨v, h1, h2⟩ := t.get (i := i) (a := a) (by simpa using e)
    exact ⟨v, by simpa using h1, h2⟩
theorem VRs.take {K w H} : ∀ {xs ys} (n : Nat), VRs K w H xs ys → VRs K w H (xs.take n) (ys.take n)
  | _, _, 0, _ => by simpa using VRs.nil
  | _, _, _ + 1, .nil => by simpa using VRs.nil
  | _, _, n + 1, .cons h t => .cons h (t.take n)
theorem VRs.drop {K w H} : ∀ {xs ys} (n : Nat), VRs K w H xs ys → VRs K w H (xs.drop n) (ys.drop n)
  | _, _, 0, r => r
  | _, _, _ + 1, .nil => by simpa using VRs.nil
  | _, _, n + 1, .cons _ t => t.drop n
theorem VRs.set {K w H} {a : AV} {v : V} (h : VR K w H a v) : ∀ {xs ys} (n : Nat), VRs K w H xs ys → VRs K w H (xs.set n a) (ys.set n v)
  | _, _, _, .nil => .nil
  | _, _, 0, .cons _ t => .cons h t
  | _, _, n + 1, .cons q t => .cons q (VRs.set h n t)
theorem VRs.nil_iff {K w H xs ys} (r : VRs K w H xs ys) : xs = [] ↔ ys = [] := by
  cases r <;> simp
theorem VRs.reverse {K w H} : ∀ {xs ys}, VRs K w H xs ys → VRs K w H xs.reverse ys.reverse
  | _, _, .nil => .nil
  | _, _, .cons h t => by
    rw [List.reverse_cons, List.reverse_cons]
    exact t.reverse.append (.cons h .nil)

/-- pairs with the same keys -/
inductive KR {κ : Type} (K : PySem.W.Frag) (w : Wd) (H : Hp) : List (κ × AV) → List (κ × V) → Prop where
  | nil : KR K w H [] []
  | cons {k : κ} {a : AV} {v : V} {xs : List (κ × AV)} {ys : List (κ × V)} (h : VR K w H a v) (t : KR K w H xs ys) : KR K w H ((k, a) :: xs) ((k, v) :: ys)
theorem KR.fut {κ : Type} {K w H w' H'} (f : Fut w H w' H') : ∀ {xs : List (κ × AV)} {ys}, KR K w H xs ys → KR K w' H' xs ys
  | _, _, .nil => .nil
  | _, _, .cons h t => .cons (h.fut f) (t.fut f)
theorem KR.length {κ : Type} {K w H} : ∀ {xs : List (κ × AV)} {ys}, KR K w H xs ys → xs.length = ys.length
  | _, _, .nil => rfl
  | _, _, .cons _ t => congrArg Nat.succ t.length

inductive OR (K : PySem.W.Frag) (w : Wd) (H : Hp) : AO → HO → Prop where
  | lst {xs : List AV} {ys : List V} (r : VRs K w H xs ys) : OR K w H (.lst xs) (.lst ys)
  | dK {xs : List (Key × AV)} {ys : List (Key × V)} (r : KR K w H xs ys) : OR K w H (.dK xs) (.dK ys)
  | dT {xs : List (List Key × AV)} {ys : List (List Key × V)} (r : KR K w H xs ys) : OR K w H (.dT xs) (.dT ys)
  | ins {c : Str} {dx : Addr} {fs : List (Str × AV)} {vs : List (Str × V)} (r : KR K w H fs vs) : OR K w H (.ins c fs) (.ins (He.ga K c) dx vs)
  | frz {o : AO} {ob : Obj} {u : HO} (r : OR K w H o u) : OR K w H (.frz o) (.frz ob u)
theorem OR.fut {K w H w' H'} (f : Fut w H w' H') : ∀ {o u}, OR K w H o u → OR K w' H' o u
  | _, _, .lst r => .lst (r.fut f)
  | _, _, .dK r => .dK (r.fut f)
  | _, _, .dT r => .dT (r.fut f)
  | _, _, .ins r => .ins (r.fut f)
  | _, _, .frz r => .frz (r.fut f)

/-- the store is held -/
structure Rel (K : PySem.W.Frag) (w : Wd) (s : Sto) (H : Hp) : Prop where
  len : w.ι.length = s.length
  nd : w.ι.Nodup
  ob : ∀ (n : Nat) (p : Addr) (o : AO), w.ι[n]? = some p → s[n]? = some o → ∃ u, H p = some u ∧ OR K w H o u
  pi : ∀ p ∈ w.π, (∃ ys, H p = some (.lst ys)) ∧ p ∉ w.ι
theorem Rel.at {K w s H} (r : Rel K w s H) {n : Nat} {o : AO} (h : s[n]? = some o) : ∃ p, w.ι[n]? = some p := by
  have hl : n < w.ι.length := by rw [r.len]; exact (List.getElem?_eq_some_iff.mp h).1
  exact ⟨w.ι[n], by simp [hl]⟩
theorem Rel.old {K w s H} (r : Rel K w s H) {p : Addr} (h : p ∈ w.ι) : H p ≠ none := by
  obtain ⟨n, hn, e⟩ := List.mem_iff_getElem.mp h
  have h1 : w.ι[n]? = some p := by rw [← e]; simp [hn]
  have h2 : n < s.length := by rw [← r.len]; exact hn
  obtain ⟨u, hu, _⟩ := r.ob n p s[n] h1 (by simp [h2])
  rw [hu]; simp
theorem Rel.nofresh {K w s H} (r : Rel K w s H) {p : Addr} (h : H p = none) : p ∉ w.ι ∧ p ∉ w.π := ⟨fun z => r.old z h, fun z => by
  obtain ⟨⟨_, e⟩, _⟩ := r.pi p z
  rw [h] at e; cases e⟩

/-- slots -/
abbrev AE := List (Option AV)
structure ER (K : PySem.W.Frag) (w : Wd) (H : Hp) (e : AE) (σ : L2.St) : Prop where
  len : e.length = σ.length
  get : ∀ (i : Nat) (a : AV), e[i]? = some (some a) → ∃ v, σ[i]? = some (some v) ∧ VR K w H a v
theorem ER.fut {K w H w' H' e σ} (f : Fut w H w' H') (r : ER K w H e σ) : ER K w' H' e σ := ⟨r.len, fun i a h => by
  obtain ⟨v, h1, h2⟩ := r.get i a h
  exact ⟨v, h1, h2.fut f⟩⟩
theorem ER.set {K w H e σ} (r : ER K w H e σ) (i : Nat) {a : AV} {v : V} (h : VR K w H a v) : ER K w H (e.set i (some a)) (σ.set i (some v)) := by
  refine ⟨by simpa using r.len, fun j b hj => ?_⟩
  by_cases hij : i = j
  · subst hij
    by_cases hl : i < e.length
    · rw [List.getElem?_set_self hl] at hj
      cases hj
      exact ⟨v, by rw [List.getElem?_set_self (by rw [← r.len]; exact hl)], h⟩
    · rw [List.getElem?_eq_none (by simpa using hl)] at hj; cases hj
  · rw [List.getElem?_set_ne hij] at hj ⊢
    exact r.get j b hj
theorem ER.setNone {K w H e σ} (r : ER K w H e σ) (i : Nat) (o : Option V) : ER K w H (e.set i none) (σ.set i o) := by
  refine ⟨by simpa using r.len, fun j b hj => ?_⟩
  by_cases hij : i = j
  · subst hij
    by_cases hl : i < e.length
    · rw [List.getElem?_set_self hl] at hj; cases hj
    · rw [List.getElem?_eq_none (by simpa using hl)] at hj; cases hj
  · rw [List.getElem?_set_ne hij] at hj ⊢
    exact r.get j b hj

/-- a result of an expression; of a statement -/
inductive Res (α : Type) where
  | ok (a : α) (s : Sto) | exc (c : Str) (fs : List (Str × AV)) (s : Sto) | no
inductive SR where
  | nx (e : AE) (s : Sto) | rt (v : AV) (s : Sto) | bk (e : AE) (s : Sto) | ct (e : AE) (s : Sto) | exc (c : Str) (fs : List (Str × AV)) (e : AE) (s : Sto) | no
def Res.bind {α β : Type} (r : Res α) (f : α → Sto → Res β) : Res β := match r with
  | .ok a s => f a s
  | .exc c fs s => .exc c fs s
  | .no => .no
/-- an expression's result goes into a statement -/
def Res.sbind {α : Type} (r : Res α) (e : AE) (f : α → Sto → SR) : SR := match r with
  | .ok a s => f a s
  | .exc c fs s => .exc c fs e s
  | .no => .no
def SR.seq (r : SR) (f : AE → Sto → SR) : SR := match r with
  | .nx e s => f e s
  | r => r
section
variable {α β : Type}
@[simp] theorem Res.ok_bind {a : α} {s : Sto} {f : α → Sto → Res β} : (Res.ok a s).bind f = f a s := rfl
@[simp] theorem Res.exc_bind {c fs} {s : Sto} {f : α → Sto → Res β} : (Res.exc c fs s : Res α).bind f = .exc c fs s := rfl
@[simp] theorem Res.no_bind {f : α → Sto → Res β} : (Res.no : Res α).bind f = .no := rfl
@[simp] theorem Res.ok_sbind {a : α} {s : Sto} {e} {f : α → Sto → SR} : (Res.ok a s).sbind e f = f a s := rfl
@[simp] theorem Res.exc_sbind {c fs} {s : Sto} {e} {f : α → Sto → SR} : (Res.exc c fs s : Res α).sbind e f = .exc c fs e s := rfl
@[simp] theorem Res.no_sbind {e} {f : α → Sto → SR} : (Res.no : Res α).sbind e f = .no := rfl
@[simp] theorem SR.nx_seq {e s f} : (SR.nx e s).seq f = f e s := rfl
@[simp] theorem SR.rt_seq {v s f} : (SR.rt v s).seq f = .rt v s := rfl
@[simp] theorem SR.bk_seq {e s f} : (SR.bk e s).seq f = .bk e s := rfl
@[simp] theorem SR.ct_seq {e s f} : (SR.ct e s).seq f = .ct e s := rfl
@[simp] theorem SR.exc_seq {c fs e s f} : (SR.exc c fs e s).seq f = .exc c fs e s := rfl
@[simp] theorem SR.no_seq {f} : (SR.no).seq f = .no := rfl
end
abbrev EM := AE → Sto → Res AV
abbrev TM := AE → Sto → Res Bool
abbrev AM := AE → Sto → Res (List AV)
abbrev SM := AE → Sto → SR
abbrev Fn := List AV → Sto → Res AV

/-- the exception's fields -/
def XD (K : PySem.W.Frag) (w : Wd) (H : Hp) (fs : List (Str × AV)) (d : Option Addr) : Prop :=
  fs = [] ∨ ∃ p vs, d = some p ∧ H p = some (.xd vs) ∧ KR K w H fs vs
/-- what is wanted of a result: W of an exception, P of a value -/
def Out {α : Type} (K : PySem.W.Frag) (w : Wd) (H : Hp) (W : XK) (P : Wd → Hp → α → Prop) : Res α → Prop
  | .ok a s => ∀ w' H', Fut w H w' H' → Rel K w' s H' → P w' H' a
  | .exc c fs s => ∀ w' H' d, Fut w H w' H' → Rel K w' s H' → XD K w' H' fs d → W (.ref (He.ga K c)) d H'
  | .no => False
def SOut (K : PySem.W.Frag) (w : Wd) (H : Hp) (W : WX) (D : Ends) : SR → Prop
  | .nx e s => ∀ w' H' σ, Fut w H w' H' → Rel K w' s H' → ER K w' H' e σ → D.nx σ H'
  | .rt a s => ∀ w' H' v, Fut w H w' H' → Rel K w' s H' → VR K w' H' a v → D.rt v H'
  | .bk e s => ∀ w' H' σ, Fut w H w' H' → Rel K w' s H' → ER K w' H' e σ → D.bk σ H'
  | .ct e s => ∀ w' H' σ, Fut w H w' H' → Rel K w' s H' → ER K w' H' e σ → D.ct σ H'
  | .exc c fs e s => ∀ w' H' σ d, Fut w H w' H' → Rel K w' s H' → ER K w' H' e σ → XD K w' H' fs d → W (.ref (He.ga K c)) d σ H'
  | .no => False
section
variable {α β : Type} {K : PySem.W.Frag} {w w' : Wd} {H H' : Hp} {W : XK} {WS : WX}
theorem Out.fut {P : Wd → Hp → α → Prop} {r : Res α} (f : Fut w H w' H') (h : Out K w H W P r) : Out K w' H' W P r := by
  cases r with
  | ok a s => exact fun w2 H2 g R => h w2 H2 (f.trans g) R
  | exc c fs s => exact fun w2 H2 d g R x => h w2 H2 d (f.trans g) R x
  | no => exact h
theorem Out.imp {P P' : Wd → Hp → α → Prop} {r : Res α} (h : Out K w H W P r) (k : ∀ w' H' a, P w' H' a → P' w' H' a) : Out K w H W P' r := by
  cases r with
  | ok a s => exact fun w2 H2 g R => k _ _ _ (h w2 H2 g R)
  | exc c fs s => exact h
  | no => exact h
theorem SOut.fut {D : Ends} {r : SR} (f : Fut w H w' H') (h : SOut K w H WS D r) : SOut K w' H' WS D r := by
  cases r with
  | nx e s => exact fun w2 H2 σ g R x => h w2 H2 σ (f.trans g) R x
  | rt a s => exact fun w2 H2 σ g R x => h w2 H2 σ (f.trans g) R x
  | bk e s => exact fun w2 H2 σ g R x => h w2 H2 σ (f.trans g) R x
  | ct e s => exact fun w2 H2 σ g R x => h w2 H2 σ (f.trans g) R x
  | exc c fs e s => exact fun w2 H2 σ d g R x y => h w2 H2 σ d (f.trans g) R x y
  | no => exact h
theorem Out.ok {P : Wd → Hp → α → Prop} {a : α} {s : Sto} (h : Out K w H W P (.ok a s)) (R : Rel K w s H) : P w H a := h w H Fut.refl R
/-- one part, then the rest -/
theorem Out.bind {P : Wd → Hp → β → Prop} {P' : Wd → Hp → α → Prop} {r : Res α} {f : α → Sto → Res β} (h : Out K w H W P (r.bind f))
    (k : ∀ a s w1 H1, Fut w H w1 H1 → Rel K w1 s H1 → Out K w1 H1 W P (f a s) → P' w1 H1 a) : Out K w H W P' r := by
  cases r with
  | ok a s => exact fun w1 H1 F R => k a s w1 H1 F R (Out.fut F h)
  | exc c fs s => exact h
  | no => exact h
end
end S
set_option Elab.async false
set_option linter.all false
set_option maxRecDepth 100000
/-! Layer S. SB: steps of the store; readings; names, constants, operators by values, tests, statements. -/
namespace S
open PySem PySem.Spec PyProof.Rows L2 StX
section
variable {K : PySem.W.Frag} {w : Wd} {s : Sto} {H : Hp} {p : Addr} {u : HO}
/-- a thing that never changes is laid -/
theorem Fut.lay (n : H p = none) : Fut w H w (upd H p u) := ⟨⟨[], by simp⟩, rfl, fun q o h _ => by
  rw [upd_ne (ne_of_none h n)]; exact h, fun _ h k => absurd h k, fun q ob v h => by rw [upd_ne (ne_of_none h n)]; exact h⟩
theorem Rel.lay (R : Rel K w s H) (n : H p = none) : Rel K w s (upd H p u) := by
  refine ⟨R.len, R.nd, fun i q o h1 h2 => ?_, fun q hq => ?_⟩
  · obtain ⟨v, hv, r⟩ := R.ob i q o h1 h2
    exact ⟨v, by rw [upd_ne (ne_of_none hv n)]; exact hv, r.fut (Fut.lay n)⟩
  · obtain ⟨⟨ys, h1⟩, h2⟩ := R.pi q hq
    exact ⟨⟨ys, by rw [upd_ne (ne_of_none h1 n)]; exact h1⟩, h2⟩
theorem VR.layT (R : Rel K w s H) (n : H p = none) {xs : List AV} {ys : List V} (r : VRs K w H xs ys) : VR K w (upd H p (.tup ys)) (.tup xs) (.ref p) :=
  .tup ⟨(R.nofresh n).1, (R.nofresh n).2, upd_same⟩ (r.fut (Fut.lay n))
theorem VR.layS (R : Rel K w s H) (n : H p = none) {xs : List AV} {ys : List V} {ob : Obj} (hd : ob.dict = none) (r : VRs K w H xs ys) : VR K w (upd H p (.frz ob (.tup ys))) (.tpS xs) (.ref p) :=
  .tpS ⟨(R.nofresh n).1, (R.nofresh n).2, ob, hd, upd_same⟩ (r.fut (Fut.lay n))
theorem VR.layL (R : Rel K w s H) (n : H p = none) {xs : List AV} {ys : List V} (r : VRs K w H xs ys) : VR K w (upd H p (.lst ys)) (.lst xs) (.ref p) :=
  .lst ⟨(R.nofresh n).1, (R.nofresh n).2, upd_same⟩ (r.fut (Fut.lay n))
/-- a thing that may change is laid -/
def Wd.add (w : Wd) (p : Addr) : Wd := ⟨w.ι ++ [p], w.π⟩
theorem Fut.add (n : H p = none) : Fut w H (w.add p) (upd H p u) := ⟨⟨[p], rfl⟩, rfl, fun q o h _ => by
  rw [upd_ne (ne_of_none h n)]; exact h, fun q h k => by
    rcases List.mem_append.mp h with h | h
    · exact absurd h k
    · rw [List.mem_singleton.mp h]; exact n, fun q ob v h => by rw [upd_ne (ne_of_none h n)]; exact h⟩
theorem Rel.add (R : Rel K w s H) (n : H p = none) {o : AO} (r : OR K w H o u) : Rel K (w.add p) (s ++ [o]) (upd H p u) := by
  have hn := R.nofresh n
  refine ⟨by simp [Wd.add, R.len], ?_, fun i q o' h1 h2 => ?_, fun q hq => ?_⟩
  · show (w.ι ++ [p]).Nodup
    rw [List.nodup_append]
    refine ⟨R.nd, by simp, fun a ha b hb => ?_⟩
    rw [List.mem_singleton.mp hb]
    rintro rfl
    exact hn.1 ha
  · have F : Fut w H (w.add p) (upd H p u) := Fut.add n
    have h1' : (w.ι ++ [p])[i]? = some q := h1
    by_cases hi : i < w.ι.length
    · rw [List.getElem?_append_left hi] at h1'
      rw [List.getElem?_append_left (by rw [← R.len]; exact hi)] at h2
      obtain ⟨v, hv, r'⟩ := R.ob i q o' h1' h2
      exact ⟨v, by rw [upd_ne (ne_of_none hv n)]; exact hv, r'.fut F⟩
    · have hi' : w.ι.length ≤ i := Nat.le_of_not_lt hi
      rw [List.getElem?_append_right hi'] at h1'
      rw [List.getElem?_append_right (by rw [← R.len]; exact hi'), ← R.len] at h2
      have e0 : i - w.ι.length = 0 := by
        have := (List.getElem?_eq_some_iff.mp h1').1
        simp at this
        omega
      rw [e0] at h1' h2
      cases h1'
      cases h2
      exact ⟨u, upd_same, r.fut F⟩
  · obtain ⟨⟨ys, h1⟩, h2⟩ := R.pi q hq
    refine ⟨⟨ys, by rw [upd_ne (ne_of_none h1 n)]; exact h1⟩, fun z => ?_⟩
    rcases List.mem_append.mp z with z | z
    · exact h2 z
    · rw [List.mem_singleton.mp z] at hq
      exact hn.2 hq
theorem VR.add (R : Rel K w s H) {H' : Hp} : VR K (w.add p) H' (.ref s.length) (.ref p) := .ref (by
  show (w.ι ++ [p])[s.length]? = some p
  rw [← R.len]; simp)
/-- what stands there is not locked; a thing in the store changes -/
def NF (H : Hp) (p : Addr) : Prop := ∀ ob v, H p ≠ some (.frz ob v)
theorem Fut.put {n : Nat} (h : w.ι[n]? = some p) (hz : NF H p) : Fut w H w (upd H p u) := ⟨⟨[], by simp⟩, rfl, fun q o hq k => by
  rw [upd_ne]; exact hq
  rintro rfl
  exact k (List.mem_of_getElem? h), fun _ h k => absurd h k, fun q ob v hq => by
  rw [upd_ne]; exact hq
  rintro rfl
  exact hz _ _ hq⟩
theorem nodup_get {l : List Addr} (hn : l.Nodup) {i j : Nat} {x : Addr} (a : l[i]? = some x) (b : l[j]? = some x) : i = j := by
  obtain ⟨h1, e1⟩ := List.getElem?_eq_some_iff.mp a
  obtain ⟨h2, e2⟩ := List.getElem?_eq_some_iff.mp b
  exact (List.getElem_inj hn).mp (e1.trans e2.symm)
theorem Rel.put (R : Rel K w s H) {n : Nat} (h : w.ι[n]? = some p) (hz : NF H p) {o : AO} (r : OR K w H o u) : Rel K w (s.set n o) (upd H p u) := by
  have F : Fut w H w (upd H p u) := Fut.put h hz
  refine ⟨by simp [R.len], R.nd, fun i q o' h1 h2 => ?_, fun q hq => ?_⟩
  · by_cases hi : i = n
    · subst hi
      rw [h] at h1; cases h1
      have hl : i < s.length := by rw [← R.len]; exact (List.getElem?_eq_some_iff.mp h).1
      rw [List.getElem?_set_self hl] at h2; cases h2
      exact ⟨u, upd_same, r.fut F⟩
    · rw [List.getElem?_set_ne (Ne.symm hi)] at h2
      obtain ⟨v, hv, r'⟩ := R.ob i q o' h1 h2
      refine ⟨v, ?_, r'.fut F⟩
      rw [upd_ne]; exact hv
      rintro rfl
      exact hi (nodup_get R.nd h1 h)
  · obtain ⟨⟨ys, h1⟩, h2⟩ := R.pi q hq
    refine ⟨⟨ys, ?_⟩, h2⟩
    rw [upd_ne]; exact h1
    rintro rfl
    exact h2 (List.mem_of_getElem? h)
end

/-! ### readings -/
def tM (K : PySem.W.Frag) (W : WX) (m : EM) : TE := fun σ H Q => ∃ w s e, ER K w H e σ ∧ Rel K w s H ∧ Out K w H (fun c d H' => W c d σ H') (fun w' H' a => ∀ v, VR K w' H' a v → Q v H') (m e s)
def tTM (K : PySem.W.Frag) (W : WX) (m : TM) : TT := fun σ H Q => ∃ w s e, ER K w H e σ ∧ Rel K w s H ∧ Out K w H (fun c d H' => W c d σ H') (fun _ H' b => Q b H') (m e s)
def tAM (K : PySem.W.Frag) (W : WX) (m : AM) : TA := fun σ H Q => ∃ w s e, ER K w H e σ ∧ Rel K w s H ∧ Out K w H (fun c d H' => W c d σ H') (fun w' H' a => ∀ v, VRs K w' H' a v → Q v H') (m e s)
def tSM (K : PySem.W.Frag) (W : WX) (m : SM) : TS := fun D σ H => ∃ w s e, ER K w H e σ ∧ Rel K w s H ∧ SOut K w H W D (m e s)
abbrev RE (X : Cx) (W : WX) (e : Expr) (m : EM) : Prop := PE X e (tM X.K W m)
abbrev RT (X : Cx) (W : WX) (e : Expr) (m : TM) : Prop := PT X e (tTM X.K W m)
abbrev RA (X : Cx) (W : WX) (es : List Expr) (m : AM) : Prop := PA X es (tAM X.K W m)
abbrev RS (X : Cx) (W : WX) (st : Stmt) (m : SM) : Prop := PS X st (tSM X.K W m)
abbrev RSs (X : Cx) (W : WX) (sts : List Stmt) (m : SM) : Prop := PSs X sts (tSM X.K W m)
section
variable {X : Cx} {W : WX}
theorem _root_.L2.PE.imp {e : Expr} {t t' : TE} (h : PE X e t) (k : ∀ σ H Q, t' σ H Q → t σ H Q) : PE X e t' := ⟨fun pins s σ H Q I hw => h.run pins s σ H Q I (k σ H Q hw)⟩
theorem _root_.L2.PT.imp {e : Expr} {t t' : TT} (h : PT X e t) (k : ∀ σ H Q, t' σ H Q → t σ H Q) : PT X e t' := ⟨fun pins s σ H Q I hw => h.run pins s σ H Q I (k σ H Q hw)⟩
theorem _root_.L2.PW.imp {e : Expr} {t t' : TT} (h : PW X e t) (k : ∀ σ H Q, t' σ H Q → t σ H Q) : PW X e t' := ⟨fun wh pins s σ H Q I hw => h.run wh pins s σ H Q I (k σ H Q hw)⟩
theorem _root_.L2.PA.imp {es : List Expr} {t t' : TA} (h : PA X es t) (k : ∀ σ H Q, t' σ H Q → t σ H Q) : PA X es t' := ⟨fun pos pins s σ H Q I hw => h.run pos pins s σ H Q I (k σ H Q hw)⟩
theorem _root_.L2.PS.imp {st : Stmt} {t t' : TS} (h : PS X st t) (k : ∀ D σ H, t' D σ H → t D σ H) : PS X st t' := ⟨fun pins s σ H D I hw => h.run pins s σ H D I (k D σ H hw)⟩
theorem _root_.L2.PSs.imp {st : List Stmt} {t t' : TS} (h : PSs X st t) (k : ∀ D σ H, t' D σ H → t D σ H) : PSs X st t' := ⟨fun pins s σ H D I hw => h.run pins s σ H D I (k D σ H hw)⟩

/-! ### names, constants -/
def eVar (i : Nat) : EM := fun e s => match e[i]? with
  | some (some a) => .ok a s
  | _ => .no
theorem re_var {i : Nat} {x : Str} {pos : Pos} (hN : X.N[i]? = some x := by rfl) (hv : Vis X.env.scope x := by first | exact Or.inl rfl | exact Or.inr (Or.inl rfl) | exact Or.inr (Or.inr rfl)) (hd : (x == ("__debug__" : Str)) = false := by decide)
    (hcd : (x == ("__classdict__" : Str)) = false := by decide) : RE X W (.Name x pos) (eVar i) := (pe_var hN hv hd hcd).imp fun σ H Q ⟨w, s, e, E, R, h⟩ => by
  unfold eVar at h
  split at h
  · rename_i a ha
    obtain ⟨v, h1, h2⟩ := E.get i a ha
    exact ⟨v, h1, h w H Fut.refl R v h2⟩
  · exact h.elim
def eC (a : AV) : EM := fun _ s => .ok a s
theorem re_of_tC {e : Expr} {a : AV} {v : V} (h : PE X e (tC v)) (r : ∀ w H, VR X.K w H a v) : RE X W e (eC a) := h.imp fun σ H Q ⟨w, s, e, E, R, h⟩ => h w H Fut.refl R v (r w H)
theorem re_int {i j pos} : RE X W (.Constant (.int i) j pos) (eC (.int i)) := re_of_tC pe_int fun _ _ => .int i
theorem re_bl {b j pos} : RE X W (.Constant (.bool b) j pos) (eC (.bl b)) := re_of_tC pe_bl fun _ _ => .bl b
theorem re_non {j pos} : RE X W (.Constant .none j pos) (eC .non) := re_of_tC pe_non fun _ _ => .non
theorem re_str {x j pos} : RE X W (.Constant (.str x) j pos) (eC (.str x)) := re_of_tC pe_str fun _ _ => .str x
theorem re_fn {x : Str} {pos : Pos} (hm : X.mg x = some (.ref (He.ga X.K x))) (hg : Gl X x := by rfl) (hd : (x == ("__debug__" : Str)) = false := by decide) : RE X W (.Name x pos) (eC (.fn x)) := re_of_tC (pe_glob hg hm (v := .ref _) rfl hd) fun _ _ => .fn x
theorem re_gint {x : Str} {i : Int} {pos : Pos} (hm : ∃ t, X.mg x = some (.int i t)) (hg : Gl X x := by rfl) (hd : (x == ("__debug__" : Str)) = false := by decide) : RE X W (.Name x pos) (eC (.int i)) := by
  obtain ⟨t, hm⟩ := hm
  exact re_of_tC (pe_glob hg hm (v := .int i) ⟨t, rfl⟩ hd) fun _ _ => .int i
theorem re_gstr {x z : Str} {pos : Pos} (hm : ∃ t, X.mg x = some (.str z t)) (hg : Gl X x := by rfl) (hd : (x == ("__debug__" : Str)) = false := by decide) : RE X W (.Name x pos) (eC (.str z)) := by
  obtain ⟨t, hm⟩ := hm
  exact re_of_tC (pe_glob hg hm (v := .str z) ⟨t, rfl⟩ hd) fun _ _ => .str z

/-- flat values of a written tuple of the module -/
def dvA : He.Dv → AV
  | .bl b => .bl b
  | .int i => .int i
  | .str x => .str x
  | _ => .non
def dvOk : He.Dv → Bool
  | .non => true | .bl _ => true | .int _ => true | .str _ => true | _ => false

/-! ### operators by values -/
def post (K : PySem.W.Frag) (w : Wd) (H : Hp) (r : AV) (s' : Sto) (Q : VK) : Prop := ∀ w' H' v, Fut w H w' H' → Rel K w' s' H' → VR K w' H' r v → Q v H'
abbrev G1 := AV → Sto → Option (AV × Sto)
abbrev G2 := AV → AV → Sto → Option (AV × Sto)
abbrev GL := List AV → Sto → Option (AV × Sto)
abbrev GM := AV → List AV → Sto → Option (AV × Sto)
def rM1 (K : PySem.W.Frag) (g : G1) : V → Hp → VK → Prop := fun x H Q => ∃ w s a r s', VR K w H a x ∧ Rel K w s H ∧ g a s = some (r, s') ∧ post K w H r s' Q
def rM2 (K : PySem.W.Frag) (g : G2) : R2 := fun x y H Q => ∃ w s a b r s', VR K w H a x ∧ VR K w H b y ∧ Rel K w s H ∧ g a b s = some (r, s') ∧ post K w H r s' Q
def rML (K : PySem.W.Frag) (g : GL) : List V → Hp → VK → Prop := fun xs H Q => ∃ w s as r s', VRs K w H as xs ∧ Rel K w s H ∧ g as s = some (r, s') ∧ post K w H r s' Q
def rMM (K : PySem.W.Frag) (g : GM) : V → List V → Hp → VK → Prop := fun x xs H Q => ∃ w s a as r s', VR K w H a x ∧ VRs K w H as xs ∧ Rel K w s H ∧ g a as s = some (r, s') ∧ post K w H r s' Q
def ofO (o : Option (AV × Sto)) : Res AV := match o with
  | some (r, s) => .ok r s
  | none => .no
@[simp] theorem ofO_some {r s} : ofO (some (r, s)) = .ok r s := rfl
@[simp] theorem ofO_none : ofO none = .no := rfl
theorem ofO_out {K : PySem.W.Frag} {w : Wd} {H : Hp} {WW : XK} {o : Option (AV × Sto)} {Q : VK} (h : Out K w H WW (fun w' H' a => ∀ v, VR K w' H' a v → Q v H') (ofO o)) : ∃ r s', o = some (r, s') ∧ post K w H r s' Q := by
  cases o with
  | none => exact h.elim
  | some q =>
    obtain ⟨r, s'⟩ := q
    exact ⟨r, s', rfl, fun w' H' v F R x => h w' H' F R v x⟩
variable {a b c : Expr} {ma mb mc : EM} {pos : Pos}
def eOp (g : G2) (ma mb : EM) : EM := fun e s => (ma e s).bind fun x s => (mb e s).bind fun y s => ofO (g x y s)
theorem two {g : G2} {t : R2} {ta tb : TE} {σ : L2.St} {H : Hp} {Q : VK} (hd : ∀ x y H Q, rM2 X.K g x y H Q → t x y H Q) (h : tM X.K W (eOp g ma mb) σ H Q) : tM X.K W ma σ H fun x H1 => tM X.K W mb σ H1 fun y H2 => t x y H2 Q := by
  obtain ⟨w, s, e, E, R, h⟩ := h
  refine ⟨w, s, e, E, R, h.bind fun a s1 w1 H1 F1 R1 h1 v V1 => ?_⟩
  refine ⟨w1, s1, e, E.fut F1, R1, h1.bind fun b s2 w2 H2 F2 R2 h2 u V2 => ?_⟩
  obtain ⟨r, s', e', q⟩ := ofO_out h2
  exact hd _ _ _ _ ⟨w2, s2, a, b, r, s', V1.fut F2, V2, R2, e', q⟩
theorem re_op {op : Operator} {g : G2} (ho : OpR X (binaryOp op) (rM2 X.K g)) (ha : RE X W a ma) (hb : RE X W b mb) : RE X W (.BinOp a op b pos) (eOp g ma mb) :=
  (pe_op ho ha hb).imp fun σ H Q h => two (ta := tM X.K W ma) (tb := tM X.K W mb) (fun _ _ _ _ z => z) h
theorem re_cmp {op : CmpOp} {g : G2} (ho : OpR X (compareOp op) (rM2 X.K g)) (ha : RE X W a ma) (hb : RE X W b mb) (hm : behindInMarks op b = false) : RE X W (.Compare a [op] [b] pos) (eOp g ma mb) :=
  (pe_cmpR ho ha hb hm).imp fun σ H Q h => two (ta := tM X.K W ma) (tb := tM X.K W mb) (fun _ _ _ _ z => z) h
def eUn (g : G1) (ma : EM) : EM := fun e s => (ma e s).bind fun x s => ofO (g x s)
theorem re_un {op : UnaryOp} {g : G1} (ho : UnR X (unaryOp op) (rM1 X.K g)) (ha : RE X W a ma) : RE X W (.UnaryOp op a pos) (eUn g ma) := (pe_un ho ha).imp fun σ H Q ⟨w, s, e, E, R, h⟩ =>
  ⟨w, s, e, E, R, h.bind fun a s1 w1 H1 F1 R1 h1 v V1 => by
    obtain ⟨r, s', e', q⟩ := ofO_out h1
    exact ⟨w1, s1, a, r, s', V1, R1, e', q⟩⟩

/-! ### tests -/
def asB (m : EM) : TM := fun e s => (m e s).bind fun a s => match a with
  | .bl b => .ok b s
  | _ => .no
/-- a comparison as a test -/
theorem rt_cmp {op : CmpOp} {g : G2} (ho : OpR X (compareOp op) (rM2 X.K g)) (ha : RE X W a ma) (hb : RE X W b mb) (hm : behindInMarks op b = false) : RT X W (.Compare a [op] [b] pos) (asB (eOp g ma mb)) := by
  refine (pt_cmpR ho ha hb hm).imp fun σ H Q h => ?_
  refine two (g := g) (ma := ma) (mb := mb) (ta := tM X.K W ma) (tb := tM X.K W mb) (Q := fun x H' => ∃ k, x = .bl k ∧ Q k H') (fun _ _ _ _ z => z) ?_
  obtain ⟨w, s, e, E, R, h⟩ := h
  refine ⟨w, s, e, E, R, h.bind fun a s1 w1 H1 F1 R1 h1 v V1 => ?_⟩
  cases V1 <;> first | exact h1.elim | exact ⟨_, rfl, h1.ok R1⟩
/-- any value, by its truth -/
def truA (a : AV) (s : Sto) : Option Bool := match a with
  | .bl b => some b
  | .non => some false
  | .int i => some (i != 0)
  | .str x => if x.length ≤ 16777216 then some ((x.length : Int) != 0) else none
  | .tup xs => some (!xs.isEmpty)
  | .tpS xs => some (!xs.isEmpty)
  | .lst xs => some (!xs.isEmpty)
  | .ref n => match s[n]? with
    | some (.lst xs) => some (!xs.isEmpty)
    | some (.dK xs) => some (!xs.isEmpty)
    | _ => none
  | _ => none
theorem truA_ok {K : PySem.W.Frag} {w : Wd} {s : Sto} {H : Hp} {a : AV} {v : V} {k : Bool} (R : Rel K w s H) (r : VR K w H a v) (h : truA a s = some k) : TruV K v H k := by
  cases r with
  | non => cases h; rfl
  | bl b => cases h; rfl
  | int i => cases h; rfl
  | str x =>
    dsimp only [truA] at h
    split at h
    · rename_i hz
      cases h
      exact ⟨hz, rfl⟩
    · cases h
  | tup hs r => cases h; exact .inr (.inl ⟨_, hs.sq, by have := r.nil_iff; cases r <;> simp⟩)
  | tpS hs r => cases h; exact .inr (.inl ⟨_, hs.sq, by have := r.nil_iff; cases r <;> simp⟩)
  | lst hs r => cases h; exact .inl ⟨_, hs.sq, by cases r <;> simp⟩
  | ref hn =>
    dsimp only [truA] at h
    split at h
    · rename_i xs q
      obtain ⟨u, hu, o⟩ := R.ob _ _ _ hn q
      cases o with
      | lst r => cases h; exact .inl ⟨_, .of hu, by cases r <;> simp⟩
    · rename_i xs q
      obtain ⟨u, hu, o⟩ := R.ob _ _ _ hn q
      cases o with
      | dK r => cases h; exact .inr (.inr ⟨_, hu, by cases r <;> simp⟩)
    · cases h
  | fn x => cases h
  | scr _ _ => cases h
def asT (m : EM) : TM := fun e s => (m e s).bind fun a s => match truA a s with
  | some b => .ok b s
  | none => .no
theorem rt_truth (ha : RE X W a ma) (he : ∀ whole, isTrue a X.env whole = (do let v ← whole; standAt a.pos; holding [v] (truthy v)) := by intro _; rfl) : RT X W a (asT ma) :=
  (pt_truth ha he).imp fun σ H Q ⟨w, s, e, E, R, h⟩ => ⟨w, s, e, E, R, h.bind fun a s1 w1 H1 F1 R1 h1 v V1 => by
    split at h1
    · rename_i k hk
      exact ⟨k, truA_ok R1 V1 hk, h1.ok R1⟩
    · exact h1.elim⟩
variable {tA tB : TM} {rest : List Expr}
def mAnd (t u : TM) : TM := fun e s => (t e s).bind fun b s => if b then u e s else .ok false s
def mOr (t u : TM) : TM := fun e s => (t e s).bind fun b s => if b then .ok true s else u e s
def mNot (t : TM) : TM := fun e s => (t e s).bind fun b s => .ok (!b) s
abbrev RW (X : Cx) (W : WX) (e : Expr) (m : TM) : Prop := PW X e (tTM X.K W m)
theorem rw_and1 (ha : RT X W a tA) : RW X W (.BoolOp .And [a] pos) tA := pw_and1 ha
theorem rw_or1 (ha : RT X W a tA) : RW X W (.BoolOp .Or [a] pos) tA := pw_or1 ha
theorem rw_and (ha : RT X W a tA) (hb : RW X W (.BoolOp .And (b :: rest) pos) tB) : RW X W (.BoolOp .And (a :: b :: rest) pos) (mAnd tA tB) :=
  (pw_and ha hb).imp fun σ H Q ⟨w, s, e, E, R, h⟩ => ⟨w, s, e, E, R, h.bind fun c s1 w1 H1 F1 R1 h1 => by
    cases c with
    | true => exact ⟨w1, s1, e, E.fut F1, R1, h1⟩
    | false => exact h1.ok R1⟩
theorem rw_or (ha : RT X W a tA) (hb : RW X W (.BoolOp .Or (b :: rest) pos) tB) : RW X W (.BoolOp .Or (a :: b :: rest) pos) (mOr tA tB) :=
  (pw_or ha hb).imp fun σ H Q ⟨w, s, e, E, R, h⟩ => ⟨w, s, e, E, R, h.bind fun c s1 w1 H1 F1 R1 h1 => by
    cases c with
    | false => exact ⟨w1, s1, e, E.fut F1, R1, h1⟩
    | true => exact h1.ok R1⟩
theorem rt_bool (h : RW X W a tA) : RT X W a tA := h.pt
theorem rt_not (ha : RT X W a tA) : RT X W (.UnaryOp .Not a pos) (mNot tA) :=
  (pt_not ha).imp fun σ H Q ⟨w, s, e, E, R, h⟩ => ⟨w, s, e, E, R, h.bind fun c s1 w1 H1 F1 R1 h1 => h1.ok R1⟩
/-- a bool as a value: and, or, not -/
def eAndB (ma mb : EM) : EM := fun e s => (ma e s).bind fun a s => match a with
  | .bl true => mb e s
  | .bl false => .ok (.bl false) s
  | _ => .no
def eOrB (ma mb : EM) : EM := fun e s => (ma e s).bind fun a s => match a with
  | .bl false => mb e s
  | .bl true => .ok (.bl true) s
  | _ => .no
def eNotB (ma : EM) : EM := fun e s => (ma e s).bind fun a s => match a with
  | .bl b => .ok (.bl (!b)) s
  | _ => .no
theorem re_one {op} {m : EM} (h : RE X W a m) : RE X W (.BoolOp op [a] pos) m := pe_one h
theorem re_and (ha : RE X W a ma) (hb : RE X W (.BoolOp .And (b :: rest) pos) mb) : RE X W (.BoolOp .And (a :: b :: rest) pos) (eAndB ma mb) :=
  (pe_and ha hb).imp fun σ H Q ⟨w, s, e, E, R, h⟩ => ⟨w, s, e, E, R, h.bind fun c s1 w1 H1 F1 R1 h1 v V1 => by
    cases V1 with
    | bl k =>
      cases k with
      | true => exact ⟨true, rfl, iteT ⟨w1, s1, e, E.fut F1, R1, h1⟩⟩
      | false => exact ⟨false, rfl, iteF (h1.ok R1 _ (.bl false))⟩
    | _ => exact h1.elim⟩
theorem re_or (ha : RE X W a ma) (hb : RE X W (.BoolOp .Or (b :: rest) pos) mb) : RE X W (.BoolOp .Or (a :: b :: rest) pos) (eOrB ma mb) :=
  (pe_or ha hb).imp fun σ H Q ⟨w, s, e, E, R, h⟩ => ⟨w, s, e, E, R, h.bind fun c s1 w1 H1 F1 R1 h1 v V1 => by
    cases V1 with
    | bl k =>
      cases k with
      | false => exact ⟨false, rfl, iteF ⟨w1, s1, e, E.fut F1, R1, h1⟩⟩
      | true => exact ⟨true, rfl, iteT (h1.ok R1 _ (.bl true))⟩
    | _ => exact h1.elim⟩
theorem re_not (ha : RE X W a ma) : RE X W (.UnaryOp .Not a pos) (eNotB ma) :=
  (pe_not ha).imp fun σ H Q ⟨w, s, e, E, R, h⟩ => ⟨w, s, e, E, R, h.bind fun c s1 w1 H1 F1 R1 h1 v V1 => by
    cases V1 with
    | bl k => exact ⟨k, rfl, h1.ok R1 _ (.bl _)⟩
    | _ => exact h1.elim⟩
def eIf (t : TM) (ma mb : EM) : EM := fun e s => (t e s).bind fun b s => if b then ma e s else mb e s
theorem re_if (hc : RT X W c tA) (ha : RE X W a ma) (hb : RE X W b mb) : RE X W (.IfExp c a b pos) (eIf tA ma mb) :=
  (pe_ifExp hc ha hb).imp fun σ H Q ⟨w, s, e, E, R, h⟩ => ⟨w, s, e, E, R, h.bind fun c s1 w1 H1 F1 R1 h1 => by
    cases c with
    | true => exact iteT ⟨w1, s1, e, E.fut F1, R1, h1⟩
    | false => exact iteF ⟨w1, s1, e, E.fut F1, R1, h1⟩⟩

/-! ### argument lists -/
def aNil : AM := fun _ s => .ok [] s
def aCons (ma : EM) (mr : AM) : AM := fun e s => (ma e s).bind fun x s => (mr e s).bind fun xs s => .ok (x :: xs) s
variable {es : List Expr} {ms : AM}
theorem ra_nil : RA X W [] aNil := pa_nil.imp fun σ H Q ⟨w, s, e, E, R, h⟩ => h.ok R _ .nil
theorem ra_cons (ha : RE X W a ma) (hr : RA X W es ms) (hs : starEach (a :: es) X.env = (false, eval a X.env) :: starEach es X.env := by rfl) : RA X W (a :: es) (aCons ma ms) :=
  (pa_cons ha hr hs).imp fun σ H Q ⟨w, s, e, E, R, h⟩ => ⟨w, s, e, E, R, h.bind fun a s1 w1 H1 F1 R1 h1 v V1 =>
    ⟨w1, s1, e, E.fut F1, R1, h1.bind fun xs s2 w2 H2 F2 R2 h2 vs V2 => h2.ok R2 _ (.cons (V1.fut F2) V2)⟩⟩
/-- the items of a tuple, a list -/
def seqA (a : AV) (s : Sto) : Option (List AV) := match a with
  | .tup xs => some xs
  | .tpS xs => some xs
  | .lst xs => some xs
  | .scr xs => some xs
  | .ref n => match s[n]? with
    | some (.lst xs) => some xs
    | _ => none
  | _ => none
theorem seqA_ok {K : PySem.W.Frag} {w : Wd} {s : Sto} {H : Hp} {a : AV} {v : V} {xs : List AV} (R : Rel K w s H) (r : VR K w H a v) (h : seqA a s = some xs) : ∃ p ys, v = .ref p ∧ (SqT K H p ys ∨ SqL K H p ys) ∧ VRs K w H xs ys := by
  cases r with
  | tup hs r => cases h; exact ⟨_, _, rfl, .inl hs.sq, r⟩
  | tpS hs r => cases h; exact ⟨_, _, rfl, .inl hs.sq, r⟩
  | lst hs r => cases h; exact ⟨_, _, rfl, .inr hs.sq, r⟩
  | scr hs r => cases h; exact ⟨_, _, rfl, .inr hs.sq, r⟩
  | ref hn =>
    dsimp only [seqA] at h
    split at h
    · rename_i xs' q
      cases h
      obtain ⟨u, hu, o⟩ := R.ob _ _ _ hn q
      cases o with
      | lst r => exact ⟨_, _, rfl, .inr (.of hu), r⟩
    · cases h
  | _ => cases h
def aStar (ma : EM) (mr : AM) : AM := fun e s => (ma e s).bind fun x s => match seqA x s with
  | some xs => (mr e s).bind fun ys s => .ok (xs ++ ys) s
  | none => .no
theorem ra_star {p : Pos} (ha : RE X W a ma) (hr : RA X W es ms) (hs : starEach (.Starred a p :: es) X.env = (true, eval a X.env) :: starEach es X.env := by rfl) : RA X W (.Starred a p :: es) (aStar ma ms) :=
  (pa_star ha hr hs).imp fun σ H Q ⟨w, s, e, E, R, h⟩ => ⟨w, s, e, E, R, h.bind fun a s1 w1 H1 F1 R1 h1 v V1 => by
    split at h1
    · rename_i xs hx
      obtain ⟨p, ys, rfl, hs, r⟩ := seqA_ok R1 V1 hx
      exact ⟨p, ys, rfl, hs, w1, s1, e, E.fut F1, R1, h1.bind fun zs s2 w2 H2 F2 R2 h2 vs V2 => h2.ok R2 _ ((r.fut F2).append V2)⟩
    · exact h1.elim⟩
/-- displays -/
def eTup (ms : AM) : EM := fun e s => (ms e s).bind fun xs s => if xs.length ≤ 16777216 then .ok (.tup xs) s else .no
def eLst (ms : AM) : EM := fun e s => (ms e s).bind fun xs s => if xs.length ≤ 16777216 then .ok (.lst xs) s else .no
def eLstR (ms : AM) : EM := fun e s => (ms e s).bind fun xs s => if xs.length ≤ 16777216 then .ok (.ref s.length) (s ++ [.lst xs]) else .no
theorem szl : (sizeLine : Nat) = 16777216 := sizeLine_eq
theorem re_tup {k} (h : RA X W es ms) : RE X W (.Tuple es k pos) (eTup ms) := (pe_tup h).imp fun σ H Q ⟨w, s, e, E, R, h⟩ => ⟨w, s, e, E, R, h.bind fun xs s1 w1 H1 F1 R1 h1 vs V1 => by
    split at h1
    · rename_i hz
      exact ⟨by rw [← V1.length, szl]; exact hz, fun p n => h1 w1 _ (Fut.lay n) (R1.lay n) _ (VR.layT R1 n V1)⟩
    · exact h1.elim⟩
theorem re_lst (h : RA X W es ms) : RE X W (.List es pos) (eLst ms) := (pe_lst h).imp fun σ H Q ⟨w, s, e, E, R, h⟩ => ⟨w, s, e, E, R, h.bind fun xs s1 w1 H1 F1 R1 h1 vs V1 => by
    split at h1
    · rename_i hz
      exact ⟨by rw [← V1.length, szl]; exact hz, fun p n => h1 w1 _ (Fut.lay n) (R1.lay n) _ (VR.layL R1 n V1)⟩
    · exact h1.elim⟩
theorem re_lstR (h : RA X W es ms) : RE X W (.List es pos) (eLstR ms) := (pe_lst h).imp fun σ H Q ⟨w, s, e, E, R, h⟩ => ⟨w, s, e, E, R, h.bind fun xs s1 w1 H1 F1 R1 h1 vs V1 => by
    split at h1
    · rename_i hz
      exact ⟨by rw [← V1.length, szl]; exact hz, fun p n => h1 (w1.add p) _ (Fut.add n) (R1.add n (.lst V1)) _ (VR.add R1)⟩
    · exact h1.elim⟩

/-! ### statements -/
variable {st : Stmt} {sts : List Stmt} {m1 m2 : SM}
def sPass : SM := fun e s => .nx e s
def sSeq (m1 m2 : SM) : SM := fun e s => (m1 e s).seq m2
theorem SOut.seq {K : PySem.W.Frag} {w : Wd} {H : Hp} {D : Ends} {r : SR} {u : TS} (h : SOut K w H W D (r.seq m2)) (k : ∀ w1 H1 σ e s, Rel K w1 s H1 → ER K w1 H1 e σ → SOut K w1 H1 W D (m2 e s) → u D σ H1) : SOut K w H W { D with nx := u D } r := by
  cases r with
  | nx e s => exact fun w' H' σ F R E => k _ _ _ _ _ R E (SOut.fut F h)
  | rt a s => exact h
  | bk e s => exact h
  | ct e s => exact h
  | exc c fs e s => exact h
  | no => exact h
theorem rss_nil : RSs X W [] sPass := pss_nil.imp fun D σ H ⟨w, s, e, E, R, h⟩ => h w H σ Fut.refl R E
theorem rss_cons (h1 : RS X W st m1) (h2 : RSs X W sts m2) : RSs X W (st :: sts) (sSeq m1 m2) :=
  (pss_cons h1 h2).imp fun D σ H ⟨w, s, e, E, R, h⟩ => ⟨w, s, e, E, R, SOut.seq h fun w1 H1 σ1 e1 s1 R1 E1 h1 => ⟨w1, s1, e1, E1, R1, h1⟩⟩
theorem rss_one (h1 : RS X W st m1) : RSs X W [st] m1 := pss_one h1
theorem rs_pass : RS X W (.Pass pos) sPass := ps_pass.imp fun D σ H ⟨w, s, e, E, R, h⟩ => h w H σ Fut.refl R E
def sBreak : SM := fun e s => .bk e s
def sCont : SM := fun e s => .ct e s
theorem rs_break : RS X W (.Break pos) sBreak := ps_break.imp fun D σ H ⟨w, s, e, E, R, h⟩ => h w H σ Fut.refl R E
theorem rs_continue : RS X W (.Continue pos) sCont := ps_continue.imp fun D σ H ⟨w, s, e, E, R, h⟩ => h w H σ Fut.refl R E
def sNever : SM := fun _ _ => .no
theorem rs_never : RS X W st sNever := ps_never.imp fun D σ H ⟨w, s, e, E, R, h⟩ => h.elim
theorem rss_never : RSs X W sts sNever := pss_never.imp fun D σ H ⟨w, s, e, E, R, h⟩ => h.elim
/-- an expression's result into a statement -/
theorem sbind_out {α : Type} {K : PySem.W.Frag} {w : Wd} {H : Hp} {σ : L2.St} {D : Ends} {r : Res α} {e : AE} {f : α → Sto → SR} {P : Wd → Hp → α → Prop} (E : ER K w H e σ) (h : SOut K w H W D (r.sbind e f))
    (k : ∀ a s w1 H1, Fut w H w1 H1 → Rel K w1 s H1 → SOut K w1 H1 W D (f a s) → P w1 H1 a) : Out K w H (fun c d H' => W c d σ H') P r := by
  cases r with
  | ok a s => exact fun w1 H1 F R => k a s w1 H1 F R (SOut.fut F h)
  | exc c fs s => exact fun w1 H1 d F R x => h w1 H1 σ d F R (E.fut F) x
  | no => exact h
def sRet (m : EM) : SM := fun e s => (m e s).sbind e fun a s => .rt a s
theorem rs_ret (ha : RE X W a ma) : RS X W (.Return (some a) pos) (sRet ma) := (ps_ret ha).imp fun D σ H ⟨w, s, e, E, R, h⟩ => ⟨w, s, e, E, R, sbind_out E h fun a s1 w1 H1 F1 R1 h1 v V1 => h1 w1 H1 v Fut.refl R1 V1⟩
def sRetN : SM := fun _ s => .rt .non s
theorem rs_retN : RS X W (.Return none pos) sRetN := ps_retN.imp fun D σ H ⟨w, s, e, E, R, h⟩ => h w H .non Fut.refl R .non
def sExpr (m : EM) : SM := fun e s => (m e s).sbind e fun _ s => .nx e s
theorem rs_expr (ha : RE X W a ma) (hs : swapsWith a none pos.line X.env = pure false := by rfl) : RS X W (.Expr a pos) (sExpr ma) := (ps_expr ha hs).imp fun D σ H ⟨w, s, e, E, R, h⟩ =>
  ⟨w, s, e, E, R, sbind_out E h fun a s1 w1 H1 F1 R1 h1 v V1 => h1 w1 H1 σ Fut.refl R1 (E.fut F1)⟩
def sIf (t : TM) (m1 m2 : SM) : SM := fun e s => (t e s).sbind e fun b s => if b then m1 e s else m2 e s
theorem rs_if {as bs : List Stmt} (hc : RT X W c tA) (h1 : RSs X W as m1) (h2 : RSs X W bs m2) : RS X W (.If c as bs pos) (sIf tA m1 m2) := (ps_if hc h1 h2).imp fun D σ H ⟨w, s, e, E, R, h⟩ =>
  ⟨w, s, e, E, R, sbind_out E h fun b s1 w1 H1 F1 R1 h1 => by
    cases b with
    | true => exact iteT ⟨w1, s1, e, E.fut F1, R1, h1⟩
    | false => exact iteF ⟨w1, s1, e, E.fut F1, R1, h1⟩⟩
def sSet (i : Nat) (m : EM) : SM := fun e s => (m e s).sbind e fun a s => .nx (e.set i (some a)) s
theorem set_read {te : TE} {i : Nat} {D : Ends} {σ : L2.St} {H : Hp} (h : tSM X.K W (sSet i ma) D σ H) : tAsg (tM X.K W ma) (gName i) D σ H := by
  obtain ⟨w, s, e, E, R, h⟩ := h
  exact ⟨w, s, e, E, R, sbind_out E h fun a s1 w1 H1 F1 R1 h1 v V1 => h1 w1 H1 _ Fut.refl R1 ((E.fut F1).set i V1)⟩
theorem rs_set {i : Nat} {x : Str} {pos' : Pos} (hN : X.N.Nodup) (ha : RE X W a ma) (hi : X.N[i]? = some x := by rfl) (hx : Loc X.env.scope x := by first | exact Or.inl rfl | exact Or.inr rfl)
    (hs : swapsWith a (some (.Name x pos')) pos.line X.env = pure false := by rfl) (hf : X.fn x = true ∨ X.env.scope.names.lookup x = some .local := by first | exact .inl rfl | exact .inr rfl) : RS X W (.Assign [.Name x pos'] a pos) (sSet i ma) :=
  (ps_set hN hi hx ha hs hf).imp fun D σ H h => set_read (te := tM X.K W ma) h
end
end S
set_option Elab.async false
set_option linter.all false
set_option maxRecDepth 100000
/-! Layer S. SC: operators, comparisons, subscripts, slices, calls of built-ins, by values. -/
namespace S
open PySem PySem.Spec PyProof.Rows L2 StX

/-! ### data -/
mutual
def pd : AV → Option PyData
  | .non => some .none
  | .bl b => some (.bool b)
  | .int i => some (.int i)
  | .str x => some (.str x)
  | .tup xs => (pds xs).map .tuple
  | .tpS xs => (pds xs).map .tuple
  | .lst xs => (pds xs).map .list
  | .ref _ => none
  | .fn _ => none
  | .scr _ => none
def pds : List AV → Option (List PyData)
  | [] => some []
  | a :: xs => (pd a).bind fun d => (pds xs).map fun ds => d :: ds
end
def pdA (a : AV) (s : Sto) : Option PyData := match a with
  | .ref n => match s[n]? with
    | some (.lst xs) => (pds xs).map .list
    | _ => none
  | a => pd a
section
variable {K : PySem.W.Frag} {w : Wd} {s : Sto} {H : Hp}
mutual
theorem pd_dp : ∀ {a : AV} {v : V} {d : PyData}, VR K w H a v → pd a = some d → Dp K H v d
  | .non, _, _, r, e => by cases r; simp [pd] at e; subst e; exact .non
  | .bl b, _, _, r, e => by cases r; simp [pd] at e; subst e; exact .bl b
  | .int i, _, _, r, e => by cases r; simp [pd] at e; subst e; exact .int i
  | .str x, _, _, r, e => by cases r; simp [pd] at e; subst e; exact .str x
  | .tup xs, _, _, r, e => by
    cases r with
    | tup h t =>
      simp only [pd, Option.map_eq_some_iff] at e
      obtain ⟨ds, e1, rfl⟩ := e
      exact .tup h.sq (pds_dp t e1)
  | .tpS xs, _, _, r, e => by
    cases r with
    | tpS h t =>
      simp only [pd, Option.map_eq_some_iff] at e
      obtain ⟨ds, e1, rfl⟩ := e
      exact .tup h.sq (pds_dp t e1)
  | .lst xs, _, _, r, e => by
    cases r with
    | lst h t =>
      simp only [pd, Option.map_eq_some_iff] at e
      obtain ⟨ds, e1, rfl⟩ := e
      exact .lst h.sq (pds_dp t e1)
  | .ref _, _, _, _, e => by simp [pd] at e
  | .fn _, _, _, _, e => by simp [pd] at e
  | .scr _, _, _, _, e => by simp [pd] at e
theorem pds_dp : ∀ {xs : List AV} {vs : List V} {ds : List PyData}, VRs K w H xs vs → pds xs = some ds → DpAll K H vs ds
  | [], _, _, r, e => by cases r; simp [pds] at e; subst e; exact .nil
  | a :: xs, _, _, r, e => by
    cases r with
    | cons h t =>
      simp only [pds, Option.bind_eq_some_iff, Option.map_eq_some_iff] at e
      obtain ⟨d, e1, ds, e2, rfl⟩ := e
      exact .cons (pd_dp h e1) (pds_dp t e2)
end
theorem pdA_dp {a : AV} {v : V} {d : PyData} (R : Rel K w s H) (r : VR K w H a v) (e : pdA a s = some d) : Dp K H v d := by
  cases r with
  | ref hn =>
    dsimp only [pdA] at e
    split at e
    · rename_i xs q
      simp only [Option.map_eq_some_iff] at e
      obtain ⟨ds, e1, rfl⟩ := e
      obtain ⟨u, hu, o⟩ := R.ob _ _ _ hn q
      cases o with
      | lst t => exact .lst (.of hu) (pds_dp t e1)
    · cases e
  | _ => exact pd_dp (w := w) (by first | exact .non | exact .bl _ | exact .int _ | exact .str _ | exact .tup (by assumption) (by assumption) | exact .tpS (by assumption) (by assumption) | exact .lst (by assumption) (by assumption) | exact .scr (by assumption) (by assumption) | exact .fn _) e
end

/-! ### post -/
section
variable {K : PySem.W.Frag} {w : Wd} {s : Sto} {H : Hp} {Q : VK}
theorem post.val {r : AV} {v : V} (p : post K w H r s Q) (R : Rel K w s H) (h : VR K w H r v) : Q v H := p w H v Fut.refl R h
theorem post.tup {xs : List AV} {ys : List V} (p : post K w H (.tup xs) s Q) (R : Rel K w s H) (h : VRs K w H xs ys) {q : Addr} (n : H q = none) : Q (.ref q) (upd H q (.tup ys)) := p w _ _ (Fut.lay n) (R.lay n) (VR.layT R n h)
theorem post.tpS {xs : List AV} {ys : List V} {ob : Obj} (p : post K w H (.tpS xs) s Q) (R : Rel K w s H) (hd : ob.dict = none) (h : VRs K w H xs ys) {q : Addr} (n : H q = none) : Q (.ref q) (upd H q (.frz ob (.tup ys))) := p w _ _ (Fut.lay n) (R.lay n) (VR.layS R n hd h)
theorem post.lst {xs : List AV} {ys : List V} (p : post K w H (.lst xs) s Q) (R : Rel K w s H) (h : VRs K w H xs ys) {q : Addr} (n : H q = none) : Q (.ref q) (upd H q (.lst ys)) := p w _ _ (Fut.lay n) (R.lay n) (VR.layL R n h)
theorem post.new {o : AO} {u : HO} (p : post K w H (.ref s.length) (s ++ [o]) Q) (R : Rel K w s H) (h : OR K w H o u) {q : Addr} (n : H q = none) : Q (.ref q) (upd H q u) := p (w.add q) _ _ (Fut.add n) (R.add n h) (VR.add R)
theorem post.put {n : Nat} {q : Addr} {r : AV} {v : V} {o : AO} {u : HO} (p : post K w H r (s.set n o) Q) (R : Rel K w s H) (hn : w.ι[n]? = some q) (hz : NF H q) (h : OR K w H o u) (hv : VR K w H r v) : Q v (upd H q u) := p w _ _ (Fut.put hn hz) (R.put hn hz h) (hv.fut (Fut.put hn hz))
end

section
variable {X : Cx}
/-! ### arithmetic -/
def lstA (a : AV) (s : Sto) : Option (List AV) := match a with
  | .lst xs => some xs
  | .ref n => match s[n]? with
    | some (.lst xs) => some xs
    | _ => none
  | _ => none
theorem lstA_ok {K : PySem.W.Frag} {w : Wd} {s : Sto} {H : Hp} {a : AV} {v : V} {xs : List AV} (R : Rel K w s H) (r : VR K w H a v) (h : lstA a s = some xs) : ∃ p ys, v = .ref p ∧ H p = some (.lst ys) ∧ VRs K w H xs ys := by
  cases r with
  | lst hs r => cases h; exact ⟨_, _, rfl, hs.2.2, r⟩
  | ref hn =>
    dsimp only [lstA] at h
    split at h
    · rename_i xs' q
      cases h
      obtain ⟨u, hu, o⟩ := R.ob _ _ _ hn q
      cases o with
      | lst r => exact ⟨_, _, rfl, hu, r⟩
    · cases h
  | _ => cases h
def addA : G2 := fun a b s => match a, b with
  | .int i, .int j => some (.int (i + j), s)
  | .str x, .str y => if x.length + y.length ≤ 16777216 then some (.str (x ++ y), s) else none
  | .tup xs, .tup ys => if xs.length + ys.length ≤ 16777216 then some (.tup (xs ++ ys), s) else none
  | .tpS xs, .tpS ys => if xs.length + ys.length ≤ 16777216 then some (.tpS (xs ++ ys), s) else none
  | a, b => match lstA a s, lstA b s with
    | some xs, some ys => if xs.length + ys.length ≤ 16777216 then some (.lst (xs ++ ys), s) else none
    | _, _ => none
theorem addA_cases {a b : AV} {s s' : Sto} {r : AV} (h : addA a b s = some (r, s')) : s' = s ∧ ((∃ i j, a = .int i ∧ b = .int j ∧ r = .int (i + j)) ∨ (∃ x y, a = .str x ∧ b = .str y ∧ x.length + y.length ≤ 16777216 ∧ r = .str (x ++ y)) ∨
    (∃ xs ys, a = .tup xs ∧ b = .tup ys ∧ xs.length + ys.length ≤ 16777216 ∧ r = .tup (xs ++ ys)) ∨ (∃ xs ys, a = .tpS xs ∧ b = .tpS ys ∧ xs.length + ys.length ≤ 16777216 ∧ r = .tpS (xs ++ ys)) ∨ ∃ xs ys, lstA a s = some xs ∧ lstA b s = some ys ∧ xs.length + ys.length ≤ 16777216 ∧ r = .lst (xs ++ ys)) := by
  unfold addA at h
  split at h
  · cases h; exact ⟨rfl, .inl ⟨_, _, rfl, rfl, rfl⟩⟩
  · split at h
    · cases h; exact ⟨rfl, .inr (.inl ⟨_, _, rfl, rfl, by assumption, rfl⟩)⟩
    · cases h
  · split at h
    · cases h; exact ⟨rfl, .inr (.inr (.inl ⟨_, _, rfl, rfl, by assumption, rfl⟩))⟩
    · cases h
  · split at h
    · cases h; exact ⟨rfl, .inr (.inr (.inr (.inl ⟨_, _, rfl, rfl, by assumption, rfl⟩)))⟩
    · cases h
  · split at h
    · split at h
      · cases h; exact ⟨rfl, .inr (.inr (.inr (.inr ⟨_, _, by assumption, by assumption, by assumption, rfl⟩)))⟩
      · cases h
    · cases h
/-- t + u, the new tuple known to have no dict -/
theorem op_catS : OpR X (binaryOp .Add) (fun x y H Q => ∃ a b xs ys, x = .ref a ∧ y = .ref b ∧ SqT X.K H a xs ∧ SqT X.K H b ys ∧ xs.length + ys.length ≤ sizeLine ∧ (xs = [] → Q (.ref b) H) ∧ (xs ≠ [] → ys = [] → Q (.ref a) H) ∧
    (xs ≠ [] → ys ≠ [] → ∀ (p : Addr) (ob : Obj), H p = none → ob.dict = none → Q (.ref p) (upd H p (.frz ob (.tup (xs ++ ys)))))) := by
  intro pins s σ H x y v u Q I rx ry h
  obtain ⟨a, b, xs, ys, rfl, rfl, ha, hb, hz, q0, q1, q2⟩ := h
  cases rx
  cases ry
  obtain ⟨us, ra, ta, _⟩ := I.tuple ha
  obtain ⟨vs, rb, tb, _⟩ := I.tuple hb
  by_cases hx : xs = []
  · subst hx
    cases ra
    exact cat_tup0 ta tb ⟨.ref b, H, I, rfl, q0 rfl⟩
  · refine HT.cat_tup ta tb (fun z => hx (ra.nil_iff.mp z)) (fun z => ⟨.ref a, H, I, rfl, q1 hx (rb.nil_iff.mp z)⟩) (fun z => ?_) (by rw [← ra.length, ← rb.length]; exact hz)
    have new := Heap.get?_push_size s.heap (o := { cls := .type "tuple", data := .seq (us ++ vs).toArray }) rfl
    refine ⟨.ref s.heap.objs.size, _, I.laid (t' := s.toks) (o := .frz { cls := .type "tuple", data := .seq (us ++ vs).toArray } (.tup (xs ++ ys))) (fun b ob q => Heap.get?_push_of_some _ q) (Nat.le_refl _) ⟨new, ?_⟩, rfl, q2 hx (fun w => z (rb.nil_iff.mpr w)) _ _ (I.hok.fresh (Nat.le_refl _)) rfl⟩
    exact ⟨by rw [List.length_append]; exact hz, us ++ vs, ra.append rb, ⟨_, new, rfl, _, rfl⟩⟩
theorem op_addS : OpR X (binaryOp .Add) (rM2 X.K addA) := by
  intro pins s σ H x y v u Q I rx ry ⟨w, st, a, b, r, s', V1, V2, R, e, p⟩
  obtain ⟨rfl, h⟩ := addA_cases e
  rcases h with ⟨i, j, rfl, rfl, rfl⟩ | ⟨x', y', rfl, rfl, hz, rfl⟩ | ⟨xs, ys, rfl, rfl, hz, rfl⟩ | ⟨xs, ys, rfl, rfl, hz, rfl⟩ | ⟨xs, ys, h1, h2, hz, rfl⟩
  · cases V1; cases V2
    exact op_add pins s σ H _ _ v u Q I rx ry ⟨i, j, rfl, rfl, p.val R (.int _)⟩
  · cases V1; cases V2
    exact op_add_str pins s σ H _ _ v u Q I rx ry ⟨_, _, rfl, rfl, by rw [szl]; exact hz, p.val R (.str _)⟩
  · cases V1 with
    | tup q1 r1 =>
      cases V2 with
      | tup q2 r2 =>
        refine op_catA pins s σ H _ _ v u Q I rx ry ⟨_, _, _, _, rfl, rfl, q1.sq, q2.sq, by rw [szl, ← r1.length, ← r2.length]; exact hz, fun e => ?_, fun _ e => ?_, fun _ _ q n => p.tup R (r1.append r2) n⟩
        · have e' := r1.nil_iff.mpr e
          subst e'
          exact p.val R (.tup q2 r2)
        · have e' := r2.nil_iff.mpr e
          subst e'
          rw [List.append_nil] at p
          exact p.val R (.tup q1 r1)
  · cases V1 with
    | tpS q1 r1 =>
      cases V2 with
      | tpS q2 r2 =>
        refine op_catS pins s σ H _ _ v u Q I rx ry ⟨_, _, _, _, rfl, rfl, q1.sq, q2.sq, by rw [szl, ← r1.length, ← r2.length]; exact hz, fun e => ?_, fun _ e => ?_, fun _ _ q ob n hd => p.tpS R hd (r1.append r2) n⟩
        · have e' := r1.nil_iff.mpr e
          subst e'
          exact p.val R (.tpS q2 r2)
        · have e' := r2.nil_iff.mpr e
          subst e'
          rw [List.append_nil] at p
          exact p.val R (.tpS q1 r1)
  · obtain ⟨p1, ys1, rfl, q1, r1⟩ := lstA_ok R V1 h1
    obtain ⟨p2, ys2, rfl, q2, r2⟩ := lstA_ok R V2 h2
    exact op_cat pins s σ H _ _ v u Q I rx ry ⟨_, _, _, _, rfl, rfl, q1, q2, by rw [szl, ← r1.length, ← r2.length]; exact hz, fun q n => p.lst R (r1.append r2) n⟩
def subA : G2 := fun a b s => match a, b with
  | .int i, .int j => some (.int (i - j), s)
  | _, _ => none
theorem op_subS : OpR X (binaryOp .Sub) (rM2 X.K subA) := by
  intro pins s σ H x y v u Q I rx ry ⟨w, st, a, b, r, s', V1, V2, R, e, p⟩
  unfold subA at e
  split at e
  · cases e
    cases V1; cases V2
    exact op_sub pins s σ H _ _ v u Q I rx ry ⟨_, _, rfl, rfl, p.val R (.int _)⟩
  · cases e
/-- products: ints, one of them small; a list, a tuple some times; alloc: the list stands in the store -/
def repA {α : Type} (xs : List α) (k : Int) : List α := (List.replicate k.toNat xs).flatten
theorem VRs.rep {K : PySem.W.Frag} {w : Wd} {H : Hp} {xs : List AV} {ys : List V} (r : VRs K w H xs ys) : ∀ k : Nat, VRs K w H (List.replicate k xs).flatten (List.replicate k ys).flatten
  | 0 => .nil
  | k + 1 => by
    rw [List.replicate_succ, List.replicate_succ, List.flatten_cons, List.flatten_cons]
    exact r.append (VRs.rep r k)
def mulA (alloc : Bool) : G2 := fun a b s => match a, b with
  | .int i, .int j => if (-(2 ^ 64) < i ∧ i < 2 ^ 64) ∨ (-(2 ^ 64) < j ∧ j < 2 ^ 64) then some (.int (i * j), s) else none
  | .lst xs, .int k => if -(2 ^ 63) ≤ k ∧ k < 2 ^ 63 ∧ xs.length * k.toNat ≤ 16777216 then (if alloc then some (.ref s.length, s ++ [.lst (repA xs k)]) else some (.lst (repA xs k), s)) else none
  | .tup xs, .int k => if xs ≠ [] ∧ 2 ≤ k ∧ k ≤ 1000 ∧ xs.length ≤ 1000 then some (.tup (repA xs k), s) else none
  | _, _ => none
theorem op_mulS {alloc : Bool} : OpR X (binaryOp .Mult) (rM2 X.K (mulA alloc)) := by
  intro pins s σ H x y v u Q I rx ry ⟨w, st, a, b, r, s', V1, V2, R, e, p⟩
  unfold mulA at e
  split at e
  · split at e
    · rename_i hc
      cases e
      cases V1; cases V2
      exact op_mul pins s σ H _ _ v u Q I rx ry ⟨_, _, rfl, rfl, hc, p.val R (.int _)⟩
    · cases e
  · split at e
    · rename_i hc
      obtain ⟨c1, c2, c3⟩ := hc
      cases V2
      cases V1 with
      | lst q1 r1 =>
        refine op_rep pins s σ H _ _ v u Q I rx ry ⟨_, _, _, rfl, rfl, q1.2.2, c1, c2, by rw [szl, ← r1.length]; exact c3, fun q n => ?_⟩
        cases alloc with
        | true => cases e; exact p.new R (.lst (r1.rep _)) n
        | false => cases e; exact p.lst R (r1.rep _) n
    · cases e
  · split at e
    · rename_i hc
      obtain ⟨c0, c1, c2, c3⟩ := hc
      cases e
      cases V2
      cases V1 with
      | tup q1 r1 =>
        exact op_repT pins s σ H _ _ v u Q I rx ry ⟨_, _, _, rfl, rfl, q1.sq, fun z => c0 (r1.nil_iff.mpr z), c1, c2, by rw [← r1.length]; exact c3, fun q n => p.tup R (r1.rep _) n⟩
    · cases e
  · cases e
def fdivA : G2 := fun a b s => match a, b with
  | .int i, .int j => if 0 < j ∧ j < 1073741824 then some (.int (i / j), s) else none
  | _, _ => none
theorem op_fdivS : OpR X (binaryOp .FloorDiv) (rM2 X.K fdivA) := by
  intro pins s σ H x y v u Q I rx ry ⟨w, st, a, b, r, s', V1, V2, R, e, p⟩
  unfold fdivA at e
  split at e
  · split at e
    · cases e
      cases V1; cases V2
      exact op_fdiv pins s σ H _ _ v u Q I rx ry ⟨_, _, rfl, rfl, by assumption, p.val R (.int _)⟩
    · cases e
  · cases e
def modA : G2 := fun a b s => match a, b with
  | .int i, .int j => if 0 < j then some (.int (i % j), s) else none
  | _, _ => none
theorem op_modS : OpR X (binaryOp .Mod) (rM2 X.K modA) := by
  intro pins s σ H x y v u Q I rx ry ⟨w, st, a, b, r, s', V1, V2, R, e, p⟩
  unfold modA at e
  split at e
  · split at e
    · cases e
      cases V1; cases V2
      exact op_mod pins s σ H _ _ v u Q I rx ry ⟨_, _, rfl, rfl, by assumption, p.val R (.int _)⟩
    · cases e
  · cases e
def powA : G2 := fun a b s => match a, b with
  | .int i, .int j => if 0 ≤ j ∧ j ≤ 1000000 ∧ i.natAbs < 2 ^ 64 then some (.int (i ^ j.toNat), s) else none
  | _, _ => none
theorem op_powS : OpR X (binaryOp .Pow) (rM2 X.K powA) := by
  intro pins s σ H x y v u Q I rx ry ⟨w, st, a, b, r, s', V1, V2, R, e, p⟩
  unfold powA at e
  split at e
  · split at e
    · cases e
      cases V1; cases V2
      exact op_pow pins s σ H _ _ v u Q I rx ry ⟨_, _, rfl, rfl, by assumption, p.val R (.int _)⟩
    · cases e
  · cases e
def negA : G1 := fun a s => match a with
  | .int i => some (.int (-i), s)
  | _ => none
theorem un_negS : UnR X (unaryOp .USub) (rM1 X.K negA) := by
  intro pins s σ H x v Q I rx ⟨w, st, a, r, s', V1, R, e, p⟩
  unfold negA at e
  split at e
  · cases e
    cases V1
    exact un_neg pins s σ H _ v Q I rx ⟨_, rfl, p.val R (.int _)⟩
  · cases e

/-! ### comparisons -/
/-- ==, != of data -/
def eqA (neg : Bool) : G2 := fun a b s => match pdA a s, pdA b s with
  | some d, some e => if SeqAt.shaped d = true ∧ SeqAt.shaped e = true then some (.bl (if neg then !PyData.eqv d e else PyData.eqv d e), s) else none
  | _, _ => none
theorem eqA_cases {neg : Bool} {a b : AV} {s s' : Sto} {r : AV} (h : eqA neg a b s = some (r, s')) : s' = s ∧ ∃ d e, pdA a s = some d ∧ pdA b s = some e ∧ SeqAt.shaped d = true ∧ SeqAt.shaped e = true ∧ r = .bl (if neg then !PyData.eqv d e else PyData.eqv d e) := by
  unfold eqA at h
  split at h
  · split at h
    · rename_i hc
      cases h
      exact ⟨rfl, _, _, by assumption, by assumption, hc.1, hc.2, rfl⟩
    · cases h
  · cases h
theorem op_eqS (hu : X.A.units + 64 < cLine) : OpR X (compareOp .Eq) (rM2 X.K (eqA false)) := by
  intro pins s σ H x y v u Q I rx ry ⟨w, st, a, b, r, s', V1, V2, R, e, p⟩
  obtain ⟨rfl, d, d2, h1, h2, h3, h4, rfl⟩ := eqA_cases e
  exact op_eqD hu pins s σ H x y v u Q I rx ry ⟨d, d2, pdA_dp R V1 h1, pdA_dp R V2 h2, h3, h4, p.val R (.bl _)⟩
theorem op_neS (hu : X.A.units + 64 < cLine) : OpR X (compareOp .NotEq) (rM2 X.K (eqA true)) := by
  intro pins s σ H x y v u Q I rx ry ⟨w, st, a, b, r, s', V1, V2, R, e, p⟩
  obtain ⟨rfl, d, d2, h1, h2, h3, h4, rfl⟩ := eqA_cases e
  exact op_neD hu pins s σ H x y v u Q I rx ry ⟨d, d2, pdA_dp R V1 h1, pdA_dp R V2 h2, h3, h4, p.val R (.bl _)⟩
/-- <, <=, >, >= -/
def isND : PyData → Bool
  | .none => true
  | _ => false
theorem isND_ne {d : PyData} (h : isND d = false) : d ≠ .none := by rintro rfl; cases h
def ordA (f : PyData → PyData → Bool) : G2 := fun a b s => match pdA a s, pdA b s with
  | some d, some e => if PySem.W.alike d e = true ∧ isND d = false ∧ d.depth ≤ 64 then some (.bl (f d e), s) else none
  | _, _ => none
theorem ordA_cases {f : PyData → PyData → Bool} {a b : AV} {s s' : Sto} {r : AV} (h : ordA f a b s = some (r, s')) : s' = s ∧ ∃ d e, pdA a s = some d ∧ pdA b s = some e ∧ PySem.W.alike d e = true ∧ d ≠ .none ∧ d.depth ≤ 64 ∧ r = .bl (f d e) := by
  unfold ordA at h
  split at h
  · split at h
    · rename_i hc
      cases h
      exact ⟨rfl, _, _, by assumption, by assumption, hc.1, isND_ne hc.2.1, hc.2.2, rfl⟩
    · cases h
  · cases h
theorem room_min {u a b : Nat} (hu : u + 64 < cLine) (h : a ≤ 64) : u + min a b < cLine := by omega
def ltD : PyData → PyData → Bool := fun d e => PySem.W.dataLt d e
def leD : PyData → PyData → Bool := fun d e => !PySem.W.dataLt e d
def gtD : PyData → PyData → Bool := fun d e => PySem.W.dataLt e d
def geD : PyData → PyData → Bool := fun d e => !PySem.W.dataLt d e
theorem op_ltS (hu : X.A.units + 64 < cLine) : OpR X (compareOp .Lt) (rM2 X.K (ordA ltD)) := by
  intro pins s σ H x y v u Q I rx ry ⟨w, st, a, b, r, s', V1, V2, R, e, p⟩
  obtain ⟨rfl, d, d2, h1, h2, h3, h4, h5, rfl⟩ := ordA_cases e
  obtain ⟨as, r1⟩ := Dp.reads I d x v (pdA_dp R V1 h1) rx
  obtain ⟨bs, r2⟩ := Dp.reads I d2 y u (pdA_dp R V2 h2) ry
  exact PySem.W.lt_data r1 r2 h3 h4 (room_min hu h5) ⟨.bl _, H, I, rfl, p.val R (.bl _)⟩
theorem op_leS (hu : X.A.units + 64 < cLine) : OpR X (compareOp .LtE) (rM2 X.K (ordA leD)) := by
  intro pins s σ H x y v u Q I rx ry ⟨w, st, a, b, r, s', V1, V2, R, e, p⟩
  obtain ⟨rfl, d, d2, h1, h2, h3, h4, h5, rfl⟩ := ordA_cases e
  obtain ⟨as, r1⟩ := Dp.reads I d x v (pdA_dp R V1 h1) rx
  obtain ⟨bs, r2⟩ := Dp.reads I d2 y u (pdA_dp R V2 h2) ry
  exact PySem.W.le_data r1 r2 h3 h4 (room_min hu h5) ⟨.bl _, H, I, rfl, p.val R (.bl _)⟩
theorem op_gtS (hu : X.A.units + 64 < cLine) : OpR X (compareOp .Gt) (rM2 X.K (ordA gtD)) := by
  intro pins s σ H x y v u Q I rx ry ⟨w, st, a, b, r, s', V1, V2, R, e, p⟩
  obtain ⟨rfl, d, d2, h1, h2, h3, h4, h5, rfl⟩ := ordA_cases e
  obtain ⟨as, r1⟩ := Dp.reads I d x v (pdA_dp R V1 h1) rx
  obtain ⟨bs, r2⟩ := Dp.reads I d2 y u (pdA_dp R V2 h2) ry
  exact PySem.W.gt_data r1 r2 h3 h4 (room_min hu h5) ⟨.bl _, H, I, rfl, p.val R (.bl _)⟩
theorem op_geS (hu : X.A.units + 64 < cLine) : OpR X (compareOp .GtE) (rM2 X.K (ordA geD)) := by
  intro pins s σ H x y v u Q I rx ry ⟨w, st, a, b, r, s', V1, V2, R, e, p⟩
  obtain ⟨rfl, d, d2, h1, h2, h3, h4, h5, rfl⟩ := ordA_cases e
  obtain ⟨as, r1⟩ := Dp.reads I d x v (pdA_dp R V1 h1) rx
  obtain ⟨bs, r2⟩ := Dp.reads I d2 y u (pdA_dp R V2 h2) ry
  exact PySem.W.ge_data r1 r2 h3 h4 (room_min hu h5) ⟨.bl _, H, I, rfl, p.val R (.bl _)⟩
/-- is None, is not None -/
def isN : AV → Bool
  | .non => true
  | _ => false
def isNA (neg : Bool) : G2 := fun a b s => match b with
  | .non => some (.bl (if neg then !isN a else isN a), s)
  | _ => none
theorem isN_ok {K : PySem.W.Frag} {w : Wd} {H : Hp} {a : AV} {v : V} (r : VR K w H a v) : isN a = decide (v = .non) := by cases r <;> simp [isN]
theorem op_isNS : OpR X (compareOp .Is) (rM2 X.K (isNA false)) := by
  intro pins s σ H x y v u Q I rx ry ⟨w, st, a, b, r, s', V1, V2, R, e, p⟩
  unfold isNA at e
  split at e
  · cases e
    cases V2
    exact op_isN pins s σ H _ _ v u Q I rx ry ⟨rfl, by rw [← isN_ok V1]; exact p.val R (.bl _)⟩
  · cases e
theorem op_notNS : OpR X (compareOp .IsNot) (rM2 X.K (isNA true)) := by
  intro pins s σ H x y v u Q I rx ry ⟨w, st, a, b, r, s', V1, V2, R, e, p⟩
  unfold isNA at e
  split at e
  · cases e
    cases V2
    exact op_notN pins s σ H _ _ v u Q I rx ry ⟨rfl, by rw [← isN_ok V1]; exact p.val R (.bl _)⟩
  · cases e
end
end S
set_option Elab.async false
set_option linter.all false
set_option maxRecDepth 100000
/-! Layer S. SD: in, subscripts, slices, dicts by values. -/
namespace S
open PySem PySem.Spec PyProof.Rows L2 StX
section
variable {X : Cx}
/-! ### in, not in -/
def seqD : PyData → Option (List PyData)
  | .list ds => some ds
  | .tuple ds => some ds
  | _ => none
/-- in a dict: keys -/
def asK : AV → Option Key
  | .int i => some (.inl i)
  | .str x => some (.inr x)
  | _ => none
def asKs : List AV → Option (List Key)
  | [] => some []
  | a :: xs => (asK a).bind fun k => (asKs xs).map fun ks => k :: ks
def asTK : AV → Option (List Key)
  | .tup xs => asKs xs
  | _ => none
section
variable {K : PySem.W.Frag} {w : Wd} {s : Sto} {H : Hp}
theorem asK_ok {a : AV} {v : V} {k : Key} (r : VR K w H a v) (e : asK a = some k) : v = kV k := by
  cases r <;> simp [asK] at e <;> subst e <;> rfl
theorem asKs_ok : ∀ {xs : List AV} {ys : List V} {ks : List Key}, VRs K w H xs ys → asKs xs = some ks → ys = ks.map kV
  | [], _, _, r, e => by cases r; simp [asKs] at e; subst e; rfl
  | a :: xs, _, _, r, e => by
    cases r with
    | cons h t =>
      simp only [asKs, Option.bind_eq_some_iff, Option.map_eq_some_iff] at e
      obtain ⟨k, e1, ks, e2, rfl⟩ := e
      rw [List.map_cons, ← asK_ok h e1, ← asKs_ok t e2]
theorem asTK_ok {a : AV} {v : V} {ks : List Key} (r : VR K w H a v) (e : asTK a = some ks) : ∃ p, v = .ref p ∧ H p = some (.tup (ks.map kV)) := by
  cases r with
  | tup h t => exact ⟨_, rfl, by rw [← asKs_ok t e]; exact h.2.2⟩
  | _ => cases e
end
def valA {κ : Type} [DecidableEq κ] (kvs : List (κ × AV)) (k : κ) : Option AV := (kvs.find? fun kv => decide (kv.1 = k)).map (·.2)
def putA {κ : Type} [DecidableEq κ] (kvs : List (κ × AV)) (k : κ) (v : AV) : List (κ × AV) :=
  if (kvs.any fun kv => decide (kv.1 = k)) = true then kvs.map (fun kv => if kv.1 = k then (kv.1, v) else kv) else kvs ++ [(k, v)]
section
variable {κ : Type} [DecidableEq κ] {K : PySem.W.Frag} {w : Wd} {H : Hp}
def ORel (K : PySem.W.Frag) (w : Wd) (H : Hp) : Option AV → Option V → Prop
  | some a, some v => VR K w H a v
  | none, none => True
  | _, _ => False
theorem KR.val (k : κ) : ∀ {xs : List (κ × AV)} {ys : List (κ × V)}, KR K w H xs ys → ORel K w H (valA xs k) (valV ys k)
  | _, _, .nil => trivial
  | _, _, .cons (k := k') (a := a) (v := v) (xs := xs) (ys := ys) h t => by
    have ih := KR.val k t
    by_cases e : k' = k
    · have e1 : valA ((k', a) :: xs) k = some a := by simp [valA, List.find?_cons, e]
      have e2 : valV ((k', v) :: ys) k = some v := by simp [valV, List.find?_cons, e]
      rw [e1, e2]; exact h
    · have e1 : valA ((k', a) :: xs) k = valA xs k := by simp [valA, List.find?_cons, e]
      have e2 : valV ((k', v) :: ys) k = valV ys k := by simp [valV, List.find?_cons, e]
      rw [e1, e2]; exact ih
theorem KR.any (k : κ) : ∀ {xs : List (κ × AV)} {ys : List (κ × V)}, KR K w H xs ys → (xs.any fun kv => decide (kv.1 = k)) = ys.any fun kv => decide (kv.1 = k)
  | _, _, .nil => rfl
  | _, _, .cons h t => by rw [List.any_cons, List.any_cons, KR.any k t]
theorem KR.map (k : κ) {a : AV} {v : V} (h : VR K w H a v) : ∀ {xs : List (κ × AV)} {ys : List (κ × V)}, KR K w H xs ys → KR K w H (xs.map fun kv => if kv.1 = k then (kv.1, a) else kv) (ys.map fun kv => if kv.1 = k then (kv.1, v) else kv)
  | _, _, .nil => .nil
  | _, _, .cons (k := k') h' t => by
    rw [List.map_cons, List.map_cons]
    by_cases e : k' = k
    · simp only [if_pos e]; exact .cons h (KR.map k h t)
    · simp only [if_neg e]; exact .cons h' (KR.map k h t)
theorem KR.append : ∀ {xs : List (κ × AV)} {ys : List (κ × V)} {xs' : List (κ × AV)} {ys' : List (κ × V)}, KR K w H xs ys → KR K w H xs' ys' → KR K w H (xs ++ xs') (ys ++ ys')
  | _, _, _, _, .nil, s => s
  | _, _, _, _, .cons h t, s => .cons h (t.append s)
theorem KR.put {xs : List (κ × AV)} {ys : List (κ × V)} (r : KR K w H xs ys) (k : κ) {a : AV} {v : V} (h : VR K w H a v) : KR K w H (putA xs k a) (putK ys k v) := by
  unfold putA putK
  rw [r.any k]
  split
  · exact r.map k h
  · exact r.append (.cons h .nil)
end
/-- what a dict holds at a key -/
def dgetA (a k : AV) (s : Sto) : Option (Option AV) := match a with
  | .ref n => match s[n]? with
    | some (.dK kvs) => (asK k).map (valA kvs)
    | some (.dT kvs) => (asTK k).map (valA kvs)
    | some (.frz (.dK kvs)) => (asK k).map (valA kvs)
    | some (.frz (.dT kvs)) => (asTK k).map (valA kvs)
    | _ => none
  | _ => none
theorem dgetA_ok {K : PySem.W.Frag} {w : Wd} {s : Sto} {H : Hp} {a k : AV} {x y : V} {o : Option AV} (R : Rel K w s H) (V1 : VR K w H a x) (V2 : VR K w H k y) (e : dgetA a k s = some o) : ∃ p r, x = .ref p ∧ DGet H p y r ∧ ORel K w H o r := by
  cases V1 with
  | ref hn =>
    dsimp only [dgetA] at e
    split at e
    · rename_i kvs q
      obtain ⟨u, hu, c⟩ := R.ob _ _ _ hn q
      simp only [Option.map_eq_some_iff] at e
      obtain ⟨kk, e1, rfl⟩ := e
      cases c with
      | dK r => exact ⟨_, _, rfl, .inl ⟨_, kk, .inl hu, asK_ok V2 e1, rfl⟩, r.val kk⟩
    · rename_i kvs q
      obtain ⟨u, hu, c⟩ := R.ob _ _ _ hn q
      simp only [Option.map_eq_some_iff] at e
      obtain ⟨kk, e1, rfl⟩ := e
      obtain ⟨b, rfl, hb⟩ := asTK_ok V2 e1
      cases c with
      | dT r => exact ⟨_, _, rfl, .inr ⟨_, kk, b, .inl hu, rfl, hb, rfl⟩, r.val kk⟩
    · rename_i kvs q
      obtain ⟨u, hu, c⟩ := R.ob _ _ _ hn q
      simp only [Option.map_eq_some_iff] at e
      obtain ⟨kk, e1, rfl⟩ := e
      cases c with
      | frz c =>
        cases c with
        | dK r => exact ⟨_, _, rfl, .inl ⟨_, kk, .inr ⟨_, hu⟩, asK_ok V2 e1, rfl⟩, r.val kk⟩
    · rename_i kvs q
      obtain ⟨u, hu, c⟩ := R.ob _ _ _ hn q
      simp only [Option.map_eq_some_iff] at e
      obtain ⟨kk, e1, rfl⟩ := e
      obtain ⟨b, rfl, hb⟩ := asTK_ok V2 e1
      cases c with
      | frz c =>
        cases c with
        | dT r => exact ⟨_, _, rfl, .inr ⟨_, kk, b, .inr ⟨_, hu⟩, rfl, hb, rfl⟩, r.val kk⟩
    · cases e
  | _ => cases e
def dputA (a k v : AV) (s : Sto) : Option Sto := match a with
  | .ref n => match s[n]? with
    | some (.dK kvs) => if kvs.length < 16777216 then (asK k).map fun kk => s.set n (.dK (putA kvs kk v)) else none
    | some (.dT kvs) => if kvs.length < 16777216 then (asTK k).map fun kk => s.set n (.dT (putA kvs kk v)) else none
    | _ => none
  | _ => none
theorem dputA_ok {K : PySem.W.Frag} {w : Wd} {s s' : Sto} {H : Hp} {a k b : AV} {x y v : V} (R : Rel K w s H) (V1 : VR K w H a x) (V2 : VR K w H k y) (V3 : VR K w H b v) (e : dputA a k b s = some s') :
    ∃ p H', x = .ref p ∧ DPut H p y v H' ∧ Fut w H w H' ∧ Rel K w s' H' := by
  cases V1 with
  | ref hn =>
    dsimp only [dputA] at e
    split at e
    · rename_i kvs q
      split at e
      · rename_i hz
        obtain ⟨u, hu, c⟩ := R.ob _ _ _ hn q
        simp only [Option.map_eq_some_iff] at e
        obtain ⟨kk, e1, rfl⟩ := e
        cases c with
        | dK r => exact ⟨_, _, rfl, .inl ⟨_, kk, hu, asK_ok V2 e1, by rw [szl, ← r.length]; exact hz, rfl⟩, Fut.put hn (fun _ _ z => by rw [hu] at z; cases z), R.put hn (fun _ _ z => by rw [hu] at z; cases z) (.dK (r.put kk V3))⟩
      · cases e
    · rename_i kvs q
      split at e
      · rename_i hz
        obtain ⟨u, hu, c⟩ := R.ob _ _ _ hn q
        simp only [Option.map_eq_some_iff] at e
        obtain ⟨kk, e1, rfl⟩ := e
        obtain ⟨b', rfl, hb⟩ := asTK_ok V2 e1
        cases c with
        | dT r => exact ⟨_, _, rfl, .inr ⟨_, kk, b', hu, rfl, hb, by rw [szl, ← r.length]; exact hz, rfl⟩, Fut.put hn (fun _ _ z => by rw [hu] at z; cases z), R.put hn (fun _ _ z => by rw [hu] at z; cases z) (.dT (r.put kk V3))⟩
      · cases e
    · cases e
  | _ => cases e
/-- in: a sign in a text, a key in a dict, data in a list or tuple -/
def inB (a b : AV) (s : Sto) : Option Bool := match b with
  | .str z => (match a with
    | .str x => if x.cps.size = 1 then some (decide (x.cps.getD 0 0 ∈ z.cps.toList)) else none
    | _ => none)
  | b => match dgetA b a s with
    | some o => some o.isSome
    | none => match pdA a s, (pdA b s).bind fun e => (seqD e).map fun ds => (e, ds) with
      | some d, some (e, ds) => if SeqAt.shaped d = true ∧ SeqAt.shaped e = true then some (ds.any fun z => PyData.eqv z d) else none
      | _, _ => none
def inA (neg : Bool) : G2 := fun a b s => (inB a b s).map fun k => (.bl (if neg then !k else k), s)
theorem one_sign {x : Str} (h : x.cps.size = 1) : x = ⟨#[x.cps.getD 0 0]⟩ := by
  obtain ⟨⟨l⟩⟩ := x
  match l, h with
  | [c], _ => rfl
theorem canLayAll_of {e : PyData} {ds : List PyData} (h : seqD e = some ds) (hs : SeqAt.shaped e = true) : PyData.canLayAll0 ds = true := by
  have h1 : e.canLay0 = true := by
    unfold SeqAt.shaped at hs
    rw [Bool.and_eq_true] at hs
    exact hs.1
  cases e <;> simp [seqD] at h <;> subst h <;> simpa [PyData.canLay0] using h1
theorem room65 {A : Around} {d : PyData} {ds : List PyData} (hu : A.units + 66 < cLine) (h : SeqAt.shaped d = true) : A.units + 1 + min (PyData.depthAll ds) d.depth < cLine := by
  unfold SeqAt.shaped at h
  rw [Bool.and_eq_true, decide_eq_true_eq] at h
  omega
theorem canLay_of {d : PyData} (h : SeqAt.shaped d = true) : d.canLay0 = true := by
  unfold SeqAt.shaped at h
  rw [Bool.and_eq_true] at h
  exact h.1
theorem inB_cases {a b : AV} {s : Sto} {k : Bool} (h : inB a b s = some k) : (∃ c z, a = .str ⟨#[c]⟩ ∧ b = .str z ∧ k = decide (c ∈ z.cps.toList)) ∨ (∃ o, dgetA b a s = some o ∧ k = o.isSome) ∨
    ∃ d e ds, pdA a s = some d ∧ pdA b s = some e ∧ seqD e = some ds ∧ SeqAt.shaped d = true ∧ SeqAt.shaped e = true ∧ k = ds.any fun z => PyData.eqv z d := by
  unfold inB at h
  split at h
  · split at h
    · split at h
      · rename_i hz
        cases h
        exact .inl ⟨_, _, congrArg AV.str (one_sign hz), rfl, rfl⟩
      · cases h
    · cases h
  · split at h
    · cases h; exact .inr (.inl ⟨_, by assumption, rfl⟩)
    · split at h
      · rename_i d e ds h1 h2
        split at h
        · rename_i hc
          cases h
          simp only [Option.bind_eq_some_iff, Option.map_eq_some_iff] at h2
          obtain ⟨e', h3, ds', h4, h5⟩ := h2
          cases h5
          exact .inr (.inr ⟨d, e, ds, h1, h3, h4, hc.1, hc.2, rfl⟩)
        · cases h
      · cases h
theorem op_inS (hu : X.A.units + 66 < cLine) : OpR X (compareOp .In) (rM2 X.K (inA false)) := by
  intro pins s σ H x y v u Q I rx ry ⟨w, st, a, b, r, s', V1, V2, R, e, p⟩
  simp only [inA, Option.map_eq_some_iff] at e
  obtain ⟨k, e, e2⟩ := e
  cases e2
  rcases inB_cases e with ⟨c, z, rfl, rfl, rfl⟩ | ⟨o, h1, rfl⟩ | ⟨d, d2, ds, h1, h2, h3, h4, h5, rfl⟩
  · cases V1; cases V2
    exact op_in_sign pins s σ H _ _ v u Q I rx ry ⟨c, z, rfl, rfl, p.val R (.bl _)⟩
  · obtain ⟨q, r, rfl, g, hr⟩ := dgetA_ok R V2 V1 h1
    cases ry
    have ho : o.isSome = r.isSome := by cases o <;> cases r <;> first | rfl | exact hr.elim
    exact d_in (by omega) I g rx fun s' I' => ⟨.bl _, H, I', rfl, by rw [← ho]; exact p.val R (.bl _)⟩
  · obtain ⟨as, r1⟩ := Dp.reads I d x v (pdA_dp R V1 h1) rx
    obtain ⟨bs, r2⟩ := Dp.reads I d2 y u (pdA_dp R V2 h2) ry
    have hl := canLayAll_of h3 h5
    cases d2 <;> simp only [seqD, Option.some.injEq, reduceCtorEq] at h3
    · subst h3; exact PySem.SeqAt.in_list_reads r2 r1 hl (canLay_of h4) (room65 hu h4) ⟨.bl _, H, I, rfl, p.val R (.bl _)⟩
    · subst h3; exact PySem.SeqAt.in_tuple_reads r2 r1 hl (canLay_of h4) (room65 hu h4) ⟨.bl _, H, I, rfl, p.val R (.bl _)⟩
theorem op_notInS (hu : X.A.units + 66 < cLine) : OpR X (compareOp .NotIn) (rM2 X.K (inA true)) := by
  intro pins s σ H x y v u Q I rx ry ⟨w, st, a, b, r, s', V1, V2, R, e, p⟩
  simp only [inA, Option.map_eq_some_iff] at e
  obtain ⟨k, e, e2⟩ := e
  cases e2
  rcases inB_cases e with ⟨c, z, rfl, rfl, rfl⟩ | ⟨o, h1, rfl⟩ | ⟨d, d2, ds, h1, h2, h3, h4, h5, rfl⟩
  · cases V1; cases V2
    exact op_notIn_sign pins s σ H _ _ v u Q I rx ry ⟨c, z, rfl, rfl, p.val R (.bl _)⟩
  · obtain ⟨q, r, rfl, g, hr⟩ := dgetA_ok R V2 V1 h1
    cases ry
    have ho : o.isSome = r.isSome := by cases o <;> cases r <;> first | rfl | exact hr.elim
    exact d_notIn (by omega) I g rx fun s' I' => ⟨.bl _, H, I', rfl, by rw [← ho]; exact p.val R (.bl _)⟩
  · obtain ⟨as, r1⟩ := Dp.reads I d x v (pdA_dp R V1 h1) rx
    obtain ⟨bs, r2⟩ := Dp.reads I d2 y u (pdA_dp R V2 h2) ry
    have hl := canLayAll_of h3 h5
    cases d2 <;> simp only [seqD, Option.some.injEq, reduceCtorEq] at h3
    · subst h3; exact PySem.SeqAt.notIn_list_reads r2 r1 hl (canLay_of h4) (room65 hu h4) ⟨.bl _, H, I, rfl, p.val R (.bl _)⟩
    · subst h3; exact PySem.SeqAt.notIn_tuple_reads r2 r1 hl (canLay_of h4) (room65 hu h4) ⟨.bl _, H, I, rfl, p.val R (.bl _)⟩
/-- in a written tuple of the module (texts) -/
def eInG (neg : Bool) (zs : List Str) (ma : EM) : EM := fun e s => (ma e s).bind fun a s => match a with
  | .str x => .ok (.bl (if neg then !zs.contains x else zs.contains x)) s
  | _ => .no
theorem inV_strs (x : Str) : ∀ zs : List Str, inV (.str x) (zs.map V.str) = zs.contains x
  | [] => rfl
  | z :: zs => by
    have ih := inV_strs x zs
    unfold inV at ih ⊢
    rw [List.map_cons, List.any_cons, ih, List.contains_cons]
    have : eqV (.str z) (.str x) = (x == z) := by
      show (z == x) = (x == z)
      exact Bool.eq_iff_iff.mpr ⟨fun h => by simpa using (by simpa using h : z = x).symm, fun h => by simpa using (by simpa using h : x = z).symm⟩
    rw [this]
theorem flat_strs : ∀ zs : List Str, (zs.map V.str).all flatV = true
  | [] => rfl
  | z :: zs => by rw [List.map_cons, List.all_cons, flat_strs zs]; rfl
theorem dv_strs (K : PySem.W.Frag) : ∀ zs : List Str, (zs.map He.Dv.str).map (He.Dv.v K) = zs.map V.str
  | [] => rfl
  | z :: zs => by rw [List.map_cons, List.map_cons, List.map_cons, dv_strs K zs]; rfl
variable {W : WX} {a b : Expr} {ma mb : EM} {pos : Pos}
theorem re_inG {x : Str} {zs : List Str} {p : Pos} (hm : X.mg x = some (.ref (He.ga X.K x))) (ht : He.tupB X.K x (zs.map He.Dv.str) = true) (ha : RE X W a ma) (hg : Gl X x := by rfl) (hd : (x == ("__debug__" : Str)) = false := by decide)
    (hb : behindInMarks .In (.Name x p) = false := by rfl) : RE X W (.Compare a [.In] [.Name x p] pos) (eInG false zs ma) :=
  (pe_cmpR op_in_seq ha (pe_glob hg hm (v := .ref _) rfl hd) hb).imp fun σ H Q ⟨w, s, e, E, R, h⟩ => ⟨w, s, e, E, R, h.bind fun a s1 w1 H1 F1 R1 h1 v V1 => by
    cases V1 with
    | str x' =>
      have q := He.tupB_ok ht H1
      rw [dv_strs] at q
      exact ⟨_, _, rfl, .inr q, rfl, flat_strs zs, by rw [inV_strs]; exact h1.ok R1 _ (.bl _)⟩
    | _ => exact h1.elim⟩
theorem re_notInG {x : Str} {zs : List Str} {p : Pos} (hm : X.mg x = some (.ref (He.ga X.K x))) (ht : He.tupB X.K x (zs.map He.Dv.str) = true) (ha : RE X W a ma) (hg : Gl X x := by rfl) (hd : (x == ("__debug__" : Str)) = false := by decide)
    (hb : behindInMarks .NotIn (.Name x p) = false := by rfl) : RE X W (.Compare a [.NotIn] [.Name x p] pos) (eInG true zs ma) :=
  (pe_cmpR op_notIn_seq ha (pe_glob hg hm (v := .ref _) rfl hd) hb).imp fun σ H Q ⟨w, s, e, E, R, h⟩ => ⟨w, s, e, E, R, h.bind fun a s1 w1 H1 F1 R1 h1 v V1 => by
    cases V1 with
    | str x' =>
      have q := He.tupB_ok ht H1
      rw [dv_strs] at q
      exact ⟨_, _, rfl, .inr q, rfl, flat_strs zs, by rw [inV_strs]; exact h1.ok R1 _ (.bl _)⟩
    | _ => exact h1.elim⟩

/-! ### subscripts -/
def ixA : G2 := fun a b s => match a, b with
  | .str z, .int i => if z.length ≤ 16777216 then (atI z.cps.toList i).map fun c => (.str ⟨#[c]⟩, s) else none
  | a, b => match dgetA a b s with
    | some o => o.map fun v => (v, s)
    | none => match seqA a s, b with
      | some xs, .int i => (atI xs i).map fun v => (v, s)
      | _, _ => none
theorem VRs.atI {K : PySem.W.Frag} {w : Wd} {H : Hp} {xs : List AV} {ys : List V} {i : Int} {a : AV} (r : VRs K w H xs ys) (h : atI xs i = some a) : ∃ v, atI ys i = some v ∧ VR K w H a v := by
  unfold L2.atI at h ⊢
  rw [← r.length]
  cases e : ixN xs.length i with
  | none => rw [e] at h; cases h
  | some j =>
    rw [e] at h
    exact r.get h
theorem ix_dict (hu : X.A.units + 1 < cLine) : IxR X (fun x y H Q => ∃ a v, x = .ref a ∧ DGet H a y (some v) ∧ Q v H) := by
  intro value slice pins s σ H x y v u Q I rx ry ⟨a, z, ex, g, q⟩ hs
  subst ex
  obtain rfl : v = Value.ref a := rx
  exact tail_any (dict_typeIs I g) PySem.F.slot_dict_getitem.lookup (d_getItem hu I g ry fun w' s' I' rw' => ⟨z, H, I', rw', q⟩) hs
theorem ix_S (hu : X.A.units + 1 < cLine) : IxR X (rM2 X.K ixA) := by
  intro value slice pins s σ H x y v u Q I rx ry ⟨w, st, a, b, r, s', V1, V2, R, e, p⟩ hs
  unfold ixA at e
  split at e
  · split at e
    · rename_i hz
      simp only [Option.map_eq_some_iff] at e
      obtain ⟨c, e1, e2⟩ := e
      cases e2
      cases V1; cases V2
      exact ix_str value slice pins s σ H _ _ v u Q I rx ry ⟨_, _, c, rfl, rfl, by rw [szl]; exact hz, e1, p.val R (.str _)⟩ hs
    · cases e
  · split at e
    · rename_i o h1
      simp only [Option.map_eq_some_iff] at e
      obtain ⟨c, e1, e2⟩ := e
      subst e1
      cases e2
      obtain ⟨q, r, rfl, g, hr⟩ := dgetA_ok R V1 V2 h1
      cases r with
      | none => exact hr.elim
      | some z => exact ix_dict hu value slice pins s σ H _ _ v u Q I rx ry ⟨q, z, rfl, g, p.val R hr⟩ hs
    · split at e
      · simp only [Option.map_eq_some_iff] at e
        obtain ⟨c, e1, e2⟩ := e
        cases e2
        cases V2
        obtain ⟨q, ys, rfl, hq, rr⟩ := seqA_ok R V1 (by assumption)
        obtain ⟨z, hz, hv⟩ := rr.atI e1
        rcases hq with hq | hq
        · exact ix_tup value slice pins s σ H _ _ v u Q I rx ry ⟨q, ys, _, z, rfl, rfl, hq, hz, p.val R hv⟩ hs
        · exact ix_list value slice pins s σ H _ _ v u Q I rx ry ⟨q, ys, _, z, rfl, rfl, hq, hz, p.val R hv⟩ hs
      · cases e
theorem re_ix (hu : X.A.units + 1 < cLine) (ha : RE X W a ma) (hb : RE X W b mb) (hs : PlainIx b := by first | exact fun _ _ => rfl | (intro _ _; rfl)) : RE X W (.Subscript a b pos) (eOp ixA ma mb) :=
  (pe_ix (ix_S hu) ha hb hs).imp fun σ H Q h => two (ta := tM X.K W ma) (tb := tM X.K W mb) (fun _ _ _ _ z => z) h

/-! ### slices -/
abbrev OM := AE → Sto → Res (Option Int)
def oNone : OM := fun _ s => .ok none s
def oSome (m : EM) : OM := fun e s => (m e s).bind fun a s => match a with
  | .int i => .ok (some i) s
  | _ => .no
def tOM (K : PySem.W.Frag) (W : WX) (m : OM) : TO := fun σ H Q => ∃ w s e, ER K w H e σ ∧ Rel K w s H ∧ Out K w H (fun c d H' => W c d σ H') (fun _ H' o => Q o H') (m e s)
abbrev RO (X : Cx) (W : WX) (e : Option Expr) (m : OM) : Prop := PO X e (tOM X.K W m)
theorem _root_.L2.PO.imp {e : Option Expr} {t t' : TO} (h : PO X e t) (k : ∀ σ H Q, t' σ H Q → t σ H Q) : PO X e t' := ⟨fun pins s σ H Q I hw => h.run pins s σ H Q I (k σ H Q hw)⟩
theorem ro_none : RO X W none oNone := po_none.imp fun σ H Q ⟨w, s, e, E, R, h⟩ => h.ok R
theorem ro_some (h : RE X W a ma) : RO X W (some a) (oSome ma) := (po_some h).imp fun σ H Q ⟨w, s, e, E, R, h⟩ => ⟨w, s, e, E, R, h.bind fun a s1 w1 H1 F1 R1 h1 v V1 => by
  cases V1 with
  | int i => exact ⟨i, rfl, h1.ok R1⟩
  | _ => exact h1.elim⟩
def cutL {α : Type} (xs : List α) (lo hi : Option Int) : List α := (xs.drop (HT.sIx xs.length 0 lo)).take (HT.sIx xs.length xs.length hi - HT.sIx xs.length 0 lo)
def slA (a : AV) (lo hi : Option Int) (s : Sto) : Option (AV × Sto) := match a with
  | .tup xs => some (.tup (cutL xs lo hi), s)
  | .tpS xs => some (.tpS (cutL xs lo hi), s)
  | .scr xs => some (.lst (cutL xs lo hi), s)
  | a => (lstA a s).map fun xs => (.lst (cutL xs lo hi), s)
theorem VRs.cut {K : PySem.W.Frag} {w : Wd} {H : Hp} {xs : List AV} {ys : List V} (r : VRs K w H xs ys) (lo hi : Option Int) : VRs K w H (cutL xs lo hi) (cutV ys lo hi) := by
  unfold cutL cutV
  rw [← r.length]
  exact (r.drop _).take _
def rMSl (K : PySem.W.Frag) : V → Option Int → Option Int → Hp → VK → Prop := fun x lo hi H Q => ∃ w s a r s', VR K w H a x ∧ Rel K w s H ∧ slA a lo hi s = some (r, s') ∧ post K w H r s' Q
theorem cut_whole {α : Type} {xs : List α} {lo hi : Option Int} (h : HT.sIx xs.length 0 lo = 0 ∧ HT.sIx xs.length xs.length hi = xs.length) : cutL xs lo hi = xs := by
  unfold cutL
  rw [h.1, h.2, List.drop_zero, Nat.sub_zero, List.take_length]
/-- t[lo:hi], the new tuple known to have no dict -/
theorem sl_tupS : SlR X (fun x lo hi H Q => ∃ a xs, x = .ref a ∧ SqT X.K H a xs ∧ (HT.sIx xs.length 0 lo = 0 ∧ HT.sIx xs.length xs.length hi = xs.length → Q (.ref a) H) ∧
    ∀ (p : Addr) (ob : Obj), H p = none → ob.dict = none → Q (.ref p) (upd H p (.frz ob (.tup (cutV xs lo hi))))) := by
  intro pins s σ H x v vl vu lo hi sl Q I rx hs pl pu h
  obtain ⟨a, xs, rfl, hx, q1, q2⟩ := h
  cases rx
  obtain ⟨us, r, ht, hz⟩ := I.tuple hx
  have hn : us.toArray.size = xs.length := by rw [List.size_toArray]; exact r.length.symm
  refine ⟨"tuple", _, PyProof.Rows.slot_tuple_getitem.lookup, ht.typeIs, ?_⟩
  by_cases hw : HT.sIx xs.length 0 lo = 0 ∧ HT.sIx xs.length xs.length hi = xs.length
  · exact getItem_tuple_whole ht hs pl pu (by rw [hn]; exact hw) ⟨.ref a, H, I, rfl, q1 hw⟩
  · refine HT.getItem_tuple_cut ht hs pl pu (by rw [hn]; exact hw) ?_ (by rw [hn]; exact hz)
    rw [hn]
    have new := Heap.get?_push_size s.heap (o := { cls := .type "tuple", data := .seq ((us.drop (HT.sIx xs.length 0 lo)).take (HT.sIx xs.length xs.length hi - HT.sIx xs.length 0 lo)).toArray }) rfl
    refine ⟨.ref s.heap.objs.size, _, I.laid (t' := s.toks) (o := .frz { cls := .type "tuple", data := .seq ((us.drop (HT.sIx xs.length 0 lo)).take (HT.sIx xs.length xs.length hi - HT.sIx xs.length 0 lo)).toArray } (.tup (cutV xs lo hi))) (fun b ob q => Heap.get?_push_of_some _ q) (Nat.le_refl _) ⟨new, ?_⟩, rfl, q2 _ _ (I.hok.fresh (Nat.le_refl _)) rfl⟩
    exact ⟨Nat.le_trans (cutV_length xs lo hi) hz, _, (r.drop _).take _, ⟨_, new, rfl, _, rfl⟩⟩
theorem sl_S : SlR X (rMSl X.K) := by
  intro pins s σ H x v vl vu lo hi sl Q I rx hs pl pu ⟨w, st, a, r, s', V1, R, e, p⟩
  unfold slA at e
  split at e
  · cases e
    cases V1 with
    | tup h t =>
      refine sl_tupA pins s σ H _ v vl vu lo hi sl Q I rx hs pl pu ⟨_, _, rfl, h.sq, fun c => ?_, fun _ q n => p.tup R (t.cut lo hi) n⟩
      rw [← t.length] at c
      rw [cut_whole c] at p
      exact p.val R (.tup h t)
  · cases e
    cases V1 with
    | tpS h t =>
      refine sl_tupS pins s σ H _ v vl vu lo hi sl Q I rx hs pl pu ⟨_, _, rfl, h.sq, fun c => ?_, fun q ob n hd => p.tpS R hd (t.cut lo hi) n⟩
      rw [← t.length] at c
      rw [cut_whole c] at p
      exact p.val R (.tpS h t)
  · cases e
    cases V1 with
    | scr h t => exact sl_list pins s σ H _ v vl vu lo hi sl Q I rx hs pl pu ⟨_, _, rfl, h.sq, fun q n => p.lst R (t.cut lo hi) n⟩
  · simp only [Option.map_eq_some_iff] at e
    obtain ⟨xs, e1, e2⟩ := e
    cases e2
    obtain ⟨q, ys, rfl, hq, t⟩ := lstA_ok R V1 e1
    exact sl_list pins s σ H _ v vl vu lo hi sl Q I rx hs pl pu ⟨_, _, rfl, .of hq, fun q n => p.lst R (t.cut lo hi) n⟩
def eSl (ma : EM) (ml mh : OM) : EM := fun e s => (ma e s).bind fun a s => (ml e s).bind fun lo s => (mh e s).bind fun hi s => ofO (slA a lo hi s)
theorem re_sl {lo hi : Option Expr} {ml mh : OM} {p2 : Pos} (ha : RE X W a ma) (hl : RO X W lo ml) (hh : RO X W hi mh) : RE X W (.Subscript a (.Slice lo hi none p2) pos) (eSl ma ml mh) :=
  (pe_slice sl_S ha hl hh).imp fun σ H Q ⟨w, s, e, E, R, h⟩ => ⟨w, s, e, E, R, h.bind fun a s1 w1 H1 F1 R1 h1 v V1 => ⟨w1, s1, e, E.fut F1, R1, h1.bind fun lo s2 w2 H2 F2 R2 h2 =>
    ⟨w2, s2, e, (E.fut F1).fut F2, R2, h2.bind fun hi s3 w3 H3 F3 R3 h3 => by
      obtain ⟨r, s', e', q⟩ := ofO_out h3
      exact ⟨w3, s3, a, r, s', (V1.fut F2).fut F3, R3, e', q⟩⟩⟩⟩
/-- xs[::-1] of a list -/
def eRev (ma : EM) : EM := fun e s => (ma e s).bind fun a s => match lstA a s with
  | some xs => .ok (.lst xs.reverse) s
  | none => .no
theorem re_rev {k : Nat} {p1 p2 p3 : Pos} (ha : RE X W a ma) : RE X W (.Subscript a (.Slice none none (some (.UnaryOp .USub (.Constant (.int 1) k p1) p2)) p3) pos) (eRev ma) :=
  (pe_revL ha).imp fun σ H Q ⟨w, s, e, E, R, h⟩ => ⟨w, s, e, E, R, h.bind fun a s1 w1 H1 F1 R1 h1 v V1 => by
    split at h1
    · rename_i xs hx
      obtain ⟨p, ys, rfl, hp, t⟩ := lstA_ok R1 V1 hx
      exact ⟨p, ys, rfl, .of hp, fun q n => h1 w1 _ (Fut.lay n) (R1.lay n) _ (VR.layL R1 n t.reverse)⟩
    · exact h1.elim⟩
end
end S
set_option Elab.async false
set_option linter.all false
set_option maxRecDepth 100000
/-! Layer S. SE: calls of built-ins, methods of built-in values. -/
namespace S
open PySem PySem.Spec PyProof.Rows L2 StX
section
variable {X : Cx} {W : WX} {a b : Expr} {es : List Expr} {ma mb : EM} {ms : AM} {pos p : Pos} {x : Str}
/-! ### calls by values -/
def eCall (g : GL) (ms : AM) : EM := fun e s => (ms e s).bind fun xs s => ofO (g xs s)
theorem call_read {g : GL} {σ : L2.St} {H : Hp} {Q : VK} (h : tM X.K W (eCall g ms) σ H Q) : tCB (rML X.K g) (tAM X.K W ms) σ H Q := by
  obtain ⟨w, s, e, E, R, h⟩ := h
  refine ⟨w, s, e, E, R, h.bind fun xs s1 w1 H1 F1 R1 h1 vs V1 => ?_⟩
  obtain ⟨r, s', e', q⟩ := ofO_out h1
  exact ⟨w1, s1, xs, r, s', V1, R1, e', q⟩
theorem re_callB {id : String} {g : GL} (hc : CallR X (.builtin id) (rML X.K g)) (ha : RA X W (a :: es) ms) (hv : bootBuiltins x = some (.builtin id)) (hm : X.mg x = none) (hg : Gl X x := by rfl) (hn : x ≠ "__name__" := by decide) (hdb : (x == ("__debug__" : Str)) = false := by decide)
    (he : starEach (a :: es) X.env = (false, eval a X.env) :: starEach es X.env := by rfl) (hpl : (backTo pos (starEach es X.env)).any (·.1) = false := by rfl) : RE X W (.Call (.Name x p) (a :: es) [] pos) (eCall g ms) :=
  (pe_callB hc hg hm hv ha hn hdb he hpl).imp fun _ _ _ h => call_read h
theorem re_callTy {T : String} {g : GL} (hc : CallR X (.type T) (rML X.K g)) (ha : RA X W (a :: es) ms) (hv : bootBuiltins x = some (.type T)) (hm : X.mg x = none) (hg : Gl X x := by rfl) (hn : x ≠ "__name__" := by decide) (hdb : (x == ("__debug__" : Str)) = false := by decide)
    (he : starEach (a :: es) X.env = (false, eval a X.env) :: starEach es X.env := by rfl) (hpl : (backTo pos (starEach es X.env)).any (·.1) = false := by rfl) : RE X W (.Call (.Name x p) (a :: es) [] pos) (eCall g ms) :=
  (pe_callTy hc hg hm hv ha hn hdb he hpl).imp fun _ _ _ h => call_read h
section
variable {K : PySem.W.Frag} {w : Wd} {s : Sto} {H : Hp}
theorem VRs.one {a : AV} {vs : List V} (r : VRs K w H [a] vs) : ∃ v, vs = [v] ∧ VR K w H a v := by
  cases r with
  | cons h t => cases t; exact ⟨_, rfl, h⟩
theorem VRs.two {a b : AV} {vs : List V} (r : VRs K w H [a, b] vs) : ∃ u v, vs = [u, v] ∧ VR K w H a u ∧ VR K w H b v := by
  cases r with
  | cons h t =>
    obtain ⟨v, rfl, h2⟩ := t.one
    exact ⟨_, v, rfl, h, h2⟩
def intsA : List AV → Option (List Int)
  | [] => some []
  | .int i :: r => (intsA r).map fun ns => i :: ns
  | _ => none
theorem intsA_ok : ∀ {xs : List AV} {ys : List V} {ns : List Int}, VRs K w H xs ys → intsA xs = some ns → ys = ns.map V.int
  | [], _, _, r, e => by cases r; cases e; rfl
  | .int i :: xs, _, _, r, e => by
    cases r with
    | cons h t =>
      simp only [intsA, Option.map_eq_some_iff] at e
      obtain ⟨ns, e1, rfl⟩ := e
      cases h
      rw [List.map_cons, ← intsA_ok t e1]
  | .non :: _, _, _, _, e | .bl _ :: _, _, _, _, e | .str _ :: _, _, _, _, e | .tup _ :: _, _, _, _, e | .tpS _ :: _, _, _, _, e | .lst _ :: _, _, _, _, e | .ref _ :: _, _, _, _, e | .fn _ :: _, _, _, _, e | .scr _ :: _, _, _, _, e => by simp [intsA] at e
def blsA : List AV → Option (List Bool)
  | [] => some []
  | .bl i :: r => (blsA r).map fun ns => i :: ns
  | _ => none
theorem blsA_ok : ∀ {xs : List AV} {ys : List V} {ns : List Bool}, VRs K w H xs ys → blsA xs = some ns → ys = ns.map V.bl
  | [], _, _, r, e => by cases r; cases e; rfl
  | .bl i :: xs, _, _, r, e => by
    cases r with
    | cons h t =>
      simp only [blsA, Option.map_eq_some_iff] at e
      obtain ⟨ns, e1, rfl⟩ := e
      cases h
      rw [List.map_cons, ← blsA_ok t e1]
  | .non :: _, _, _, _, e | .int _ :: _, _, _, _, e | .str _ :: _, _, _, _, e | .tup _ :: _, _, _, _, e | .tpS _ :: _, _, _, _, e | .lst _ :: _, _, _, _, e | .ref _ :: _, _, _, _, e | .fn _ :: _, _, _, _, e | .scr _ :: _, _, _, _, e => by simp [blsA] at e
def strsA : List AV → Option (List Str)
  | [] => some []
  | .str i :: r => (strsA r).map fun ns => i :: ns
  | _ => none
theorem strsA_ok : ∀ {xs : List AV} {ys : List V} {ns : List Str}, VRs K w H xs ys → strsA xs = some ns → ys = ns.map V.str
  | [], _, _, r, e => by cases r; cases e; rfl
  | .str i :: xs, _, _, r, e => by
    cases r with
    | cons h t =>
      simp only [strsA, Option.map_eq_some_iff] at e
      obtain ⟨ns, e1, rfl⟩ := e
      cases h
      rw [List.map_cons, ← strsA_ok t e1]
  | .non :: _, _, _, _, e | .int _ :: _, _, _, _, e | .bl _ :: _, _, _, _, e | .tup _ :: _, _, _, _, e | .tpS _ :: _, _, _, _, e | .lst _ :: _, _, _, _, e | .ref _ :: _, _, _, _, e | .fn _ :: _, _, _, _, e | .scr _ :: _, _, _, _, e => by simp [strsA] at e
end
/-- len -/
def lenA : GL := fun as s => match as with
  | [.str z] => if z.length ≤ 16777216 then some (.int z.length, s) else none
  | [a] => (seqA a s).map fun xs => (.int xs.length, s)
  | _ => none
theorem call_lenS : CallR X (.builtin "len") (rML X.K lenA) := by
  intro pins s σ H vs us Q I r ⟨w, st, as, a, s', V1, R, e, p⟩
  unfold lenA at e
  split at e
  · split at e
    · rename_i hz
      cases e
      obtain ⟨v, rfl, h⟩ := V1.one
      cases h
      exact call_len_str pins s σ H _ us Q I r ⟨_, rfl, by rw [szl]; exact hz, p.val R (.int _)⟩
    · cases e
  · simp only [Option.map_eq_some_iff] at e
    obtain ⟨xs, e1, e2⟩ := e
    cases e2
    obtain ⟨v, rfl, h⟩ := V1.one
    obtain ⟨q, ys, rfl, hs, t⟩ := seqA_ok R h e1
    refine call_len_seq pins s σ H _ us Q I r ⟨q, ys, rfl, hs.symm, ?_⟩
    rw [← t.length]
    exact p.val R (.int _)
  · cases e
/-- abs, int -/
def absA : GL := fun as s => match as with
  | [.int i] => some (.int (if i < 0 then -i else i), s)
  | _ => none
theorem call_absS : CallR X (.builtin "abs") (rML X.K absA) := by
  intro pins s σ H vs us Q I r ⟨w, st, as, a, s', V1, R, e, p⟩
  unfold absA at e
  split at e
  · cases e
    obtain ⟨v, rfl, h⟩ := V1.one
    cases h
    exact call_abs pins s σ H _ us Q I r ⟨_, rfl, p.val R (.int _)⟩
  · cases e
def intA : GL := fun as s => match as with
  | [.int i] => some (.int i, s)
  | _ => none
theorem call_intS : CallR X (.type "int") (rML X.K intA) := by
  intro pins s σ H vs us Q I r ⟨w, st, as, a, s', V1, R, e, p⟩
  unfold intA at e
  split at e
  · cases e
    obtain ⟨v, rfl, h⟩ := V1.one
    cases h
    exact call_int1 pins s σ H _ us Q I r (.inl ⟨_, rfl, p.val R (.int _)⟩)
  · cases e
/-- of a list of ints, of bools -/
def litA {α : Type} (f : List AV → Option (List α)) (as : List AV) (s : Sto) : Option (List α) := match as with
  | [a] => (lstA a s).bind f
  | _ => none
theorem litA_ok {α : Type} {f : List AV → Option (List α)} {K : PySem.W.Frag} {w : Wd} {s : Sto} {H : Hp} {as : List AV} {vs : List V} {ns : List α} (R : Rel K w s H) (V1 : VRs K w H as vs) (e : litA f as s = some ns) :
    ∃ p ys xs, vs = [.ref p] ∧ H p = some (.lst ys) ∧ VRs K w H xs ys ∧ f xs = some ns := by
  unfold litA at e
  split at e
  · simp only [Option.bind_eq_some_iff] at e
    obtain ⟨xs, e1, e2⟩ := e
    obtain ⟨v, rfl, h⟩ := V1.one
    obtain ⟨p, ys, rfl, q, t⟩ := lstA_ok R h e1
    exact ⟨p, ys, xs, rfl, q, t, e2⟩
  · cases e
def sumA : GL := fun as s => (litA intsA as s).map fun ns => (.int ns.sum, s)
theorem call_sumS (hc : X.calm = true) : CallR X (.builtin "sum") (rML X.K sumA) := by
  intro pins s σ H vs us Q I r ⟨w, st, as, a, s', V1, R, e, p⟩
  simp only [sumA, Option.map_eq_some_iff] at e
  obtain ⟨ns, e1, e2⟩ := e
  cases e2
  obtain ⟨q, ys, xs, rfl, hq, t, e3⟩ := litA_ok R V1 e1
  have := intsA_ok t e3
  subst this
  exact cr_sum hc pins s σ H _ us Q I r ⟨q, ns, rfl, .of hq, p.val R (.int _)⟩
def maxI : List Int → Option Int
  | [] => none
  | i :: r => match maxI r with
    | none => some i
    | some m => some (if m ≤ i then i else m)
theorem maxI_ok : ∀ {ns : List Int} {m : Int}, maxI ns = some m → ∀ k, k ∈ ns → (∀ y, y ∈ ns → y ≤ k) → k = m
  | [], _, e, _, _, _ => by cases e
  | i :: r, m, e, k, hk, hm => by
    unfold maxI at e
    cases q : maxI r with
    | none =>
      rw [q] at e; cases e
      cases r with
      | nil => simpa using hk
      | cons j r => unfold maxI at q; split at q <;> cases q
    | some m' =>
      rw [q] at e; cases e
      have key : ∀ {ns : List Int} {m : Int}, maxI ns = some m → m ∈ ns ∧ ∀ y, y ∈ ns → y ≤ m := by
        intro ns
        induction ns with
        | nil => intro m e; cases e
        | cons j ns ih =>
          intro m e
          unfold maxI at e
          cases q : maxI ns with
          | none =>
            rw [q] at e; cases e
            cases ns with
            | nil => simp
            | cons j r => unfold maxI at q; split at q <;> cases q
          | some m2 =>
            rw [q] at e; cases e
            obtain ⟨h1, h2⟩ := ih q
            split
            · refine ⟨by simp, fun y hy => ?_⟩
              rcases List.mem_cons.mp hy with rfl | hy
              · omega
              · have := h2 y hy; omega
            · refine ⟨by simp [h1], fun y hy => ?_⟩
              rcases List.mem_cons.mp hy with rfl | hy
              · omega
              · exact h2 y hy
      obtain ⟨h1, h2⟩ := key q
      have a1 := hm i (by simp)
      have a2 := hm m' (by simp [h1])
      rcases List.mem_cons.mp hk with rfl | hk
      · rw [if_pos a2]
      · have := h2 k hk
        split <;> omega
theorem maxI_pos {ns : List Int} {m : Int} (e : maxI ns = some m) : 0 < ns.length := by
  cases ns with
  | nil => cases e
  | cons => simp
def minI (ns : List Int) : Option Int := (maxI (ns.map (- ·))).map (- ·)
def maxA : GL := fun as s => match as with
  | [.int i, .int j] => some (.int (if j > i then j else i), s)
  | as => ((litA intsA as s).bind maxI).map fun m => (.int m, s)
theorem call_maxS (hc : X.calm = true) : CallR X (.builtin "max") (rML X.K maxA) := by
  intro pins s σ H vs us Q I r ⟨w, st, as, a, s', V1, R, e, p⟩
  unfold maxA at e
  split at e
  · cases e
    obtain ⟨u, v, rfl, h1, h2⟩ := V1.two
    cases h1; cases h2
    exact call_max2 hc pins s σ H _ us Q I r ⟨_, _, rfl, p.val R (.int _)⟩
  · simp only [Option.map_eq_some_iff, Option.bind_eq_some_iff] at e
    obtain ⟨m, ⟨ns, e1, e3⟩, e2⟩ := e
    cases e2
    obtain ⟨q, ys, xs, rfl, hq, t, e4⟩ := litA_ok R V1 e1
    have := intsA_ok t e4
    subst this
    exact cr_max hc pins s σ H _ us Q I r ⟨q, ns, rfl, .of hq, maxI_pos e3, fun k h1 h2 => by rw [maxI_ok e3 k h1 h2]; exact p.val R (.int _)⟩
def minA : GL := fun as s => match as with
  | [.int i, .int j] => some (.int (if j < i then j else i), s)
  | as => ((litA intsA as s).bind minI).map fun m => (.int m, s)
theorem call_minS (hc : X.calm = true) : CallR X (.builtin "min") (rML X.K minA) := by
  intro pins s σ H vs us Q I r ⟨w, st, as, a, s', V1, R, e, p⟩
  unfold minA at e
  split at e
  · cases e
    obtain ⟨u, v, rfl, h1, h2⟩ := V1.two
    cases h1; cases h2
    exact call_min2 hc pins s σ H _ us Q I r ⟨_, _, rfl, p.val R (.int _)⟩
  · simp only [Option.map_eq_some_iff, Option.bind_eq_some_iff, minI] at e
    obtain ⟨m, ⟨ns, e1, ⟨m', e3, rfl⟩⟩, e2⟩ := e
    cases e2
    obtain ⟨q, ys, xs, rfl, hq, t, e4⟩ := litA_ok R V1 e1
    have := intsA_ok t e4
    subst this
    refine cr_min hc pins s σ H _ us Q I r ⟨q, ns, rfl, .of hq, by simpa using maxI_pos e3, fun k h1 h2 => ?_⟩
    have z : -k = m' := maxI_ok e3 (-k) (List.mem_map.mpr ⟨k, h1, rfl⟩) fun y hy => by
      obtain ⟨y', hy', rfl⟩ := List.mem_map.mp hy
      have := h2 y' hy'
      omega
    have z2 : k = -m' := by omega
    rw [z2]; exact p.val R (.int _)
def allA : GL := fun as s => (litA blsA as s).map fun ns => (.bl (ns.all id), s)
theorem call_allS (hc : X.calm = true) : CallR X (.builtin "all") (rML X.K allA) := by
  intro pins s σ H vs us Q I r ⟨w, st, as, a, s', V1, R, e, p⟩
  simp only [allA, Option.map_eq_some_iff] at e
  obtain ⟨ns, e1, e2⟩ := e
  cases e2
  obtain ⟨q, ys, xs, rfl, hq, t, e3⟩ := litA_ok R V1 e1
  have := blsA_ok t e3
  subst this
  exact cr_all hc pins s σ H _ us Q I r ⟨q, ns, rfl, .of hq, p.val R (.bl _)⟩
def anyA : GL := fun as s => (litA blsA as s).map fun ns => (.bl (ns.any id), s)
theorem call_anyS (hc : X.calm = true) : CallR X (.builtin "any") (rML X.K anyA) := by
  intro pins s σ H vs us Q I r ⟨w, st, as, a, s', V1, R, e, p⟩
  simp only [anyA, Option.map_eq_some_iff] at e
  obtain ⟨ns, e1, e2⟩ := e
  cases e2
  obtain ⟨q, ys, xs, rfl, hq, t, e3⟩ := litA_ok R V1 e1
  have := blsA_ok t e3
  subst this
  exact cr_any hc pins s σ H _ us Q I r ⟨q, ns, rfl, .of hq, p.val R (.bl _)⟩
/-- tuple(x), list(x) -/
def tupleA (st : Bool) : GL := fun as s => match as with
  | [.tup xs] => some (.tup xs, s)
  | [.tpS xs] => some (.tpS xs, s)
  | [a] => (lstA a s).map fun xs => (if st then .tpS xs else .tup xs, s)
  | _ => none
/-- tuple(l), known to have no dict -/
theorem call_tupleN : CallR X (.type "tuple") (fun xs H Q => ∃ a ys, xs = [.ref a] ∧ SqL X.K H a ys ∧ ∀ (l : Addr) (ob : Obj), H l = none → ob.dict = none → Q (.ref l) (upd H l (.frz ob (.tup ys)))) := by
  intro pins s σ H xs us Q I r h
  obtain ⟨a, ys, rfl, hq, q⟩ := h
  obtain ⟨u, rfl, rx⟩ := vals1 r
  cases rx
  obtain ⟨ws, rw', pl, hz⟩ := I.list hq
  have hn := rw'.length
  refine call_tuple_list pl.isList (fun h' kp => ?_) (by simp only [List.size_toArray] <;> omega)
  have J : Inv X pins σ H { s with heap := h' } := I.kept (t' := s.toks) kp
  have new := Heap.get?_push_size h' (o := { cls := .type "tuple", data := .seq ws.toArray }) rfl
  exact ⟨.ref h'.objs.size, _, J.laid (t' := s.toks) (o := .frz { cls := .type "tuple", data := .seq ws.toArray } (.tup ys)) (fun b o e => Heap.get?_push_of_some _ e) (Nat.le_refl _) ⟨new, hz, ws, rw', ⟨_, new, rfl, _, rfl⟩⟩, rfl, q _ _ (J.hok.fresh (Nat.le_refl _)) rfl⟩
theorem call_tupleS {sg : Bool} : CallR X (.type "tuple") (rML X.K (tupleA sg)) := by
  intro pins s σ H vs us Q I r ⟨w, st, as, a, s', V1, R, e, p⟩
  unfold tupleA at e
  split at e
  · cases e
    obtain ⟨v, rfl, h⟩ := V1.one
    cases h with
    | tup hs t => exact call_tuple_of pins s σ H _ us Q I r ⟨_, _, rfl, .inr ⟨hs.sq, p.val R (.tup hs t)⟩⟩
  · cases e
    obtain ⟨v, rfl, h⟩ := V1.one
    cases h with
    | tpS hs t => exact call_tuple_of pins s σ H _ us Q I r ⟨_, _, rfl, .inr ⟨hs.sq, p.val R (.tpS hs t)⟩⟩
  · simp only [Option.map_eq_some_iff] at e
    obtain ⟨xs, e1, e2⟩ := e
    cases e2
    obtain ⟨v, rfl, h⟩ := V1.one
    obtain ⟨q, ys, rfl, hs, t⟩ := lstA_ok R h e1
    cases sg with
    | true => exact call_tupleN pins s σ H _ us Q I r ⟨_, _, rfl, .of hs, fun l ob n hd => p.tpS R hd t n⟩
    | false => exact call_tuple_of pins s σ H _ us Q I r ⟨_, _, rfl, .inl ⟨.of hs, fun l n => p.tup R t n⟩⟩
  · cases e
def listA (alloc : Bool) : GL := fun as s => match as with
  | [a] => (seqA a s).map fun xs => if alloc then (.ref s.length, s ++ [.lst xs]) else (.lst xs, s)
  | _ => none
theorem call_listS {alloc : Bool} : CallR X (.type "list") (rML X.K (listA alloc)) := by
  intro pins s σ H vs us Q I r ⟨w, st, as, a, s', V1, R, e, p⟩
  unfold listA at e
  split at e
  · simp only [Option.map_eq_some_iff] at e
    obtain ⟨xs, e1, e2⟩ := e
    obtain ⟨v, rfl, h⟩ := V1.one
    obtain ⟨q, ys, rfl, hs, t⟩ := seqA_ok R h e1
    refine call_list_of pins s σ H _ us Q I r ⟨_, _, rfl, hs.symm, fun l n => ?_⟩
    cases alloc with
    | true => cases e2; exact p.new R (.lst t) n
    | false => cases e2; exact p.lst R t n
  · cases e
/-- dict([(k, v), ..]) with plain keys: in the store -/
def pairA : List AV → Option (List (Key × AV))
  | [] => some []
  | .tup [k, v] :: r => (asK k).bind fun k => (pairA r).map fun kvs => (k, v) :: kvs
  | _ => none
def mergeA (kvs : List (Key × AV)) : List (Key × AV) → List (Key × AV)
  | [] => kvs
  | (k, v) :: r => mergeA (putA kvs k v) r
def dictA : GL := fun as s => (litA pairA as s).map fun kvs => (.ref s.length, s ++ [.dK (mergeA [] kvs)])
end
end S
set_option Elab.async false
set_option linter.all false
set_option maxRecDepth 100000
/-! Layer S. SF: sorted, dict of pairs, list of a range, isinstance, repr, methods. -/
namespace S
open PySem PySem.Spec PyProof.Rows L2 StX
section
variable {X : Cx} {W : WX} {a b : Expr} {es : List Expr} {ma mb : EM} {ms : AM} {pos p : Pos} {x : Str}
section
variable {K : PySem.W.Frag} {w : Wd} {s : Sto} {H : Hp}
theorem pairA_ok : ∀ {xs : List AV} {ys : List V} {kvs : List (Key × AV)}, VRs K w H xs ys → pairA xs = some kvs →
    ∃ (ps : List Addr) (kv : List (Key × V)), ys = ps.map V.ref ∧ Paired (fun p kv => SqT K H p [kV kv.1, kv.2]) ps kv ∧ KR K w H kvs kv
  | [], _, _, r, e => by cases r; cases e; exact ⟨[], [], rfl, .nil, .nil⟩
  | .tup [k, v] :: xs, _, _, r, e => by
    cases r with
    | cons h t =>
      simp only [pairA, Option.bind_eq_some_iff, Option.map_eq_some_iff] at e
      obtain ⟨k', e1, kvs', e2, rfl⟩ := e
      obtain ⟨ps, kv, rfl, h1, h2⟩ := pairA_ok t e2
      cases h with
      | tup hs q =>
        obtain ⟨u1, u2, rfl, r1, r2⟩ := q.two
        have := asK_ok r1 e1
        subst this
        exact ⟨_ :: ps, (k', u2) :: kv, rfl, .cons hs.sq h1, .cons r2 h2⟩
  | .tup [] :: _, _, _, _, e | .tup [_] :: _, _, _, _, e | .tup (_ :: _ :: _ :: _) :: _, _, _, _, e | .non :: _, _, _, _, e | .int _ :: _, _, _, _, e | .bl _ :: _, _, _, _, e | .str _ :: _, _, _, _, e | .lst _ :: _, _, _, _, e | .tpS _ :: _, _, _, _, e | .ref _ :: _, _, _, _, e | .fn _ :: _, _, _, _, e | .scr _ :: _, _, _, _, e => by simp [pairA] at e
theorem KR.merge : ∀ {ms : List (Key × AV)} {ns : List (Key × V)}, KR K w H ms ns → ∀ {xs : List (Key × AV)} {ys : List (Key × V)}, KR K w H xs ys → KR K w H (mergeA xs ms) (mergeK ys ns)
  | _, _, .nil, _, _, r => r
  | _, _, .cons h t, _, _, r => by
    unfold mergeA mergeK
    rw [List.foldl_cons]
    exact KR.merge t (r.put _ h)
end
theorem call_dictS (hc : X.calm = true) : CallR X (.type "dict") (rML X.K dictA) := by
  intro pins s σ H vs us Q I r ⟨w, st, as, a, s', V1, R, e, p⟩
  simp only [dictA, Option.map_eq_some_iff] at e
  obtain ⟨kvs, e1, e2⟩ := e
  cases e2
  obtain ⟨q, ys, xs, rfl, hq, t, e3⟩ := litA_ok R V1 e1
  obtain ⟨ps, kv, rfl, h1, h2⟩ := pairA_ok t e3
  exact call_dictP hc pins s σ H _ us Q I r ⟨q, ps, kv, rfl, .of hq, h1, fun p' n => p.new R (.dK (h2.merge .nil)) n⟩

/-! ### sorted -/
def encA (a : AV) : PyData := (pd a).getD .none
def tupD : PyData → Bool
  | .tuple (_ :: _) => true
  | _ => false
def anyTupD : PyData → Bool
  | .tuple _ => true
  | _ => false
/-- alike; tuples with items, or none a tuple, or one item -/
def sortOk (xs : List AV) : Bool := xs.all (fun a => (pd a).isSome && decide ((encA a).depth ≤ 64) && !isND (encA a) && xs.all fun b => PySem.W.alike (encA a) (encA b)) && decide (xs.length ≤ 16777216) &&
  (xs.all (fun a => tupD (encA a)) || xs.all (fun a => !anyTupD (encA a)) || decide (xs.length ≤ 1))
def sortAV (xs : List AV) : List AV := xs.mergeSort (PySem.W.dataLe false encA)
def sortedA : GL := fun as s => (litA some as s).bind fun xs => if sortOk xs then some (.lst (sortAV xs), s) else none
theorem encA_of {a : AV} (h : (pd a).isSome = true) : pd a = some (encA a) := by
  unfold encA
  cases e : pd a with
  | none => rw [e] at h; cases h
  | some d => rfl
open PySem.W in
theorem sorted_one {prog : Program} {w : World} {A : Around} {E : Value → Shared → Prop} {s : Shared} {β : Type} {vs : List Value} {bs : List β} {enc : β → PyData} {R : Value → β → Prop} {l : Addr} {Q : Value → Shared → Prop}
    (hl : s.heap.IsList l vs.toArray) (e : EachIs R vs bs) (er : EachIs (fun v b => ∃ as, Reads s.heap v (enc b) as) vs bs) (hal : AllAlike (bs.map enc)) (h1 : bs.length ≤ 1) (hn : ∀ b ∈ bs, enc b ≠ .none)
    (hu : ∀ b, b ∈ bs → A.units + 2 + (enc b).depth < cLine) (h : ∀ out, out.length = bs.length → EachIs R out (bs.mergeSort (dataLe false enc)) → Q (.ref (s.heap.objs.size + 1)) { s with heap := sortedAll s.heap vs (List.toArray out) }) :
    wpAny (model prog w) A (call (.builtin "sorted") [.ref l]) Q E s := by
  have er' : EachIs (fun v b => ∃ as, Reads (sortingHeap (copyHeap s.heap vs) (s.heap.objs.size + 1) vs) v (enc b) as) vs bs := er.mono fun _ _ ⟨as, r⟩ => ⟨as, PyProof.Rows.Reads.keeps (fun _ _ => sorting_copy_old) r⟩
  have hL : vs.length ≤ 1 := by rw [e.length]; exact h1
  refine sorted_vals (κ := dataKind (sortingHeap (copyHeap s.heap vs) (s.heap.objs.size + 1) vs) (bs.map enc)) hl ⟨fun v hv => ?_, PyProof.Rows.general', ?_, fun h2 => absurd h2 (by omega)⟩ (by rw [sizeLine_eq]; omega)
    (h _ (by rw [sortVals_length false rfl]; exact e.length) (sortVals_data false e er' hal))
  · obtain ⟨d, hd, as, r⟩ := (each_map (R := fun v d => ∃ as, Reads (sortingHeap (copyHeap s.heap vs) (s.heap.objs.size + 1) vs) v d as) enc er').left v hv
    exact ⟨_, dataKind_some hal hd r⟩
  · intro E x y a b Q ha hb hq
    obtain ⟨d, as, hd, ra, rfl⟩ := dataKind_inv ha
    obtain ⟨d', as', hd', rb, rfl⟩ := dataKind_inv hb
    obtain ⟨b0, hb0, rfl⟩ := List.mem_map.mp hd
    show wpAny _ _ (PyProof.Rows.oneLt' false x y) Q E _
    exact oneLt_alike (f := false) (fun z => nomatch z) ra rb (hal _ hd _ hd') (hn b0 hb0) (Nat.lt_of_le_of_lt (Nat.add_le_add_left (Nat.min_le_left _ _) _) (hu b0 hb0)) hq
open PySem.W in
theorem each_of {K : PySem.W.Frag} {w : Wd} {H : Hp} : ∀ {xs : List AV} {ys : List V} {us : List Value}, VRs K w H xs ys → Vals ys us → EachIs (fun v a => ∃ y, RelV y v ∧ VR K w H a y) us xs
  | _, _, _, .nil, .nil => .nil
  | _, _, _, .cons h t, .cons r rr => .cons ⟨_, r, h⟩ (each_of t rr)
open PySem.W in
theorem of_each {K : PySem.W.Frag} {w : Wd} {H : Hp} : ∀ {us : List Value} {xs : List AV}, EachIs (fun v a => ∃ y, RelV y v ∧ VR K w H a y) us xs → ∃ ys, Vals ys us ∧ VRs K w H xs ys
  | _, _, .nil => ⟨[], .nil, .nil⟩
  | _, _, .cons ⟨y, r, h⟩ t => by
    obtain ⟨ys, r2, h2⟩ := of_each t
    exact ⟨y :: ys, .cons r r2, .cons h h2⟩
open PySem.W in
theorem each_reads {pins : List (Addr × Obj)} {σ : L2.St} {H : Hp} {s : Shared} (I : Inv X pins σ H s) {w : Wd} : ∀ {us : List Value} {xs : List AV}, (∀ a ∈ xs, (pd a).isSome = true) → EachIs (fun v a => ∃ y, RelV y v ∧ VR X.K w H a y) us xs →
    EachIs (fun v a => ∃ as, Reads s.heap v (encA a) as) us xs
  | _, _, _, .nil => .nil
  | _, _, hp, .cons ⟨y, r, h⟩ t => .cons (Dp.reads I _ _ _ (pd_dp h (encA_of (hp _ (by simp)))) r) (each_reads I (fun a ha => hp a (by simp [ha])) t)
open PySem.W in
theorem call_sortedS (hu : X.A.units + 80 < cLine) : CallR X (.builtin "sorted") (rML X.K sortedA) := by
  intro pins s σ H vs us Q I r ⟨w, st, as, a, s', V1, R, e, p⟩
  simp only [sortedA, Option.bind_eq_some_iff] at e
  obtain ⟨xs, e1, e2⟩ := e
  split at e2
  · rename_i hok
    cases e2
    obtain ⟨q, ys, xs', rfl, hq, t, e3⟩ := litA_ok R V1 e1
    cases e3
    obtain ⟨its, rv, pl, hz⟩ := I.list (SqL.of hq)
    rw [Vals.ref1 r]
    unfold sortOk at hok
    simp only [Bool.and_eq_true, Bool.or_eq_true, List.all_eq_true, decide_eq_true_eq, Bool.not_eq_true'] at hok
    obtain ⟨⟨h1, h2⟩, h3⟩ := hok
    have each := each_of t rv
    have er := each_reads I (fun a ha => (h1 a ha).1.1.1) each
    have hal : AllAlike (xs.map encA) := fun d hd d' hd' => by
      obtain ⟨a, ha, rfl⟩ := List.mem_map.mp hd
      obtain ⟨b, hb, rfl⟩ := List.mem_map.mp hd'
      exact (h1 a ha).2 b hb
    have hun : ∀ b, b ∈ xs → X.A.units + 2 + (encA b).depth < cLine := fun b hb => by have := (h1 b hb).1.1.2; omega
    have fin : ∀ out : List Value, out.length = xs.length → EachIs (fun v a => ∃ y, RelV y v ∧ VR X.K w H a y) out (xs.mergeSort (dataLe false encA)) → EP X pins σ Q (.ref (s.heap.objs.size + 1)) { s with heap := sortedAll s.heap its (List.toArray out) } := by
      intro out hlen ho
      obtain ⟨zs, rz, vz⟩ := of_each ho
      obtain ⟨ep, he'⟩ := PyProof.Rows.sortedAll_at s.heap its out.toArray
      have hlen' : zs.length ≤ sizeLine := by
        rw [rz.length, hlen, t.length]; rw [sizeLine_eq]; rw [← t.length]; exact h2
      exact ⟨.ref _, upd H (s.heap.objs.size + 1) (.lst zs), I.laid (t' := s.toks) (fun _ _ => PyProof.Rows.sortedAll_old) (Nat.le_succ _) ⟨hlen', out, ep, rz, he'⟩, rfl, p.lst R vz (I.hok.fresh (Nat.le_succ _))⟩
    rcases h3 with (h3 | h3) | h3
    · refine sorted_data pl.isList each er hal (.inl fun d hd => ?_) (by rw [sizeLine_eq]; exact h2) hun fin
      obtain ⟨a, ha, rfl⟩ := List.mem_map.mp hd
      have := h3 a ha
      unfold tupD at this
      split at this
      · exact ⟨_, _, by assumption⟩
      · cases this
    · refine sorted_data pl.isList each er hal (.inr fun d hd => ?_) (by rw [sizeLine_eq]; exact h2) hun fin
      obtain ⟨a, ha, rfl⟩ := List.mem_map.mp hd
      refine ⟨isND_ne (h1 a ha).1.2, fun zs hz => ?_⟩
      have := h3 a ha
      rw [hz] at this
      cases this
    · exact sorted_one pl.isList each er hal h3 (fun b hb => isND_ne (h1 b hb).1.2) hun fin
  · cases e2

/-! ### list(range(n)) -/
def rangeA (n : Int) : List AV := (List.range n.toNat).map fun i => AV.int (i : Nat)
theorem range_vrs {K : PySem.W.Frag} {w : Wd} {H : Hp} (n : Int) : VRs K w H (rangeA n) (rgV 0 n) := by
  unfold rangeA rgV
  rw [Int.sub_zero]
  generalize List.range n.toNat = l
  induction l with
  | nil => exact .nil
  | cons i l ih =>
    rw [List.map_cons, List.map_cons, Int.zero_add]
    exact .cons (.int _) ih

/-! ### isinstance -/
inductive TN where
  | str | tup | int | bool
def TN.name : TN → String
  | .str => "str" | .tup => "tuple" | .int => "int" | .bool => "bool"
def isA (T : TN) (a : AV) : Option Bool := match a with
  | .non => some false
  | .bl _ => some (match T with | .int => true | .bool => true | _ => false)
  | .int _ => some (match T with | .int => true | _ => false)
  | .str _ => some (match T with | .str => true | _ => false)
  | .tup _ => some (match T with | .tup => true | _ => false)
  | .tpS _ => some (match T with | .tup => true | _ => false)
  | .lst _ => some false
  | _ => none
def eIsi (T : TN) (ma : EM) : EM := fun e s => (ma e s).bind fun a s => match isA T a with
  | some b => .ok (.bl b) s
  | none => .no
theorem isA_ok {K : PySem.W.Frag} {w : Wd} {H : Hp} {T : TN} {a : AV} {v : V} {b : Bool} (r : VR K w H a v) (e : isA T a = some b) : ∃ t, TyX K H v (.type t) ∧ kitB t T.name = some b := by
  cases r with
  | non => cases e; exact ⟨_, .base .non, by cases T <;> decide +kernel⟩
  | bl k => cases e; exact ⟨_, .base (.bl _), by cases T <;> decide +kernel⟩
  | int k => cases e; exact ⟨_, .base (.int _), by cases T <;> decide +kernel⟩
  | str k => cases e; exact ⟨_, .base (.str _), by cases T <;> decide +kernel⟩
  | tup h t => cases e; exact ⟨_, .base (.tup h.2.2), by cases T <;> decide +kernel⟩
  | tpS h t =>
    cases e
    obtain ⟨_, _, ob, _, hp⟩ := h
    exact ⟨_, .fTuple hp, by cases T <;> decide +kernel⟩
  | lst h t => cases e; exact ⟨_, .base (.lst h.2.2), by cases T <;> decide +kernel⟩
  | _ => cases e
end
end S
set_option Elab.async false
set_option linter.all false
set_option maxRecDepth 100000
/-! Layer S. SG: isinstance, methods of built-ins, fields, own calls, methods, instances. -/
namespace S
open PySem PySem.Spec PyProof.Rows L2 StX
section
variable {X : Cx} {W : WX} {a b c : Expr} {es : List Expr} {ma mb mc : EM} {ms : AM} {pos p p2 apos cpos : Pos} {x : Str}
theorem re_isi {T : TN} {t : Str} (ha : RE X W a ma) (hm : X.mg "isinstance" = none) (hm2 : X.mg t = none) (hv2 : bootBuiltins t = some (.type T.name) := by rfl) (hg : Gl X "isinstance" := by rfl) (hg2 : Gl X t := by rfl) (hn2 : t ≠ "__name__" := by decide) (hd2 : (t == ("__debug__" : Str)) = false := by decide)
    (he : starEach [a, .Name t p2] X.env = (false, eval a X.env) :: starEach [.Name t p2] X.env := by rfl) (he2 : starEach [.Name t p2] X.env = (false, eval (.Name t p2) X.env) :: starEach [] X.env := by rfl) (hpl : (backTo pos (starEach [.Name t p2] X.env)).any (·.1) = false := by rfl) :
    RE X W (.Call (.Name "isinstance" p) [a, .Name t p2] [] pos) (eIsi T ma) :=
  (pe_callB call_isi hg hm PyProof.Rows.boot_isinstance (pa_cons ha (pa_cons (pe_bltn hg2 hm2 hv2 (v := .ty T.name) rfl hn2 hd2) pa_nil he2) he) (by decide) (by decide) he hpl).imp fun σ H Q ⟨w, s, e, E, R, h⟩ => ⟨w, s, e, E, R, h.bind fun a s1 w1 H1 F1 R1 h1 v V1 => by
    split at h1
    · rename_i k hk
      obtain ⟨t, ty, hkit⟩ := isA_ok V1 hk
      exact ⟨v, .ty T.name, .type t, .type T.name, k, rfl, .ty _, ty, kit_ty hkit, h1.ok R1 _ (.bl _)⟩
    · exact h1.elim⟩
/-- list(range(n)) -/
def eLRg (alloc : Bool) (ma : EM) : EM := fun e s => (ma e s).bind fun a s => match a with
  | .int n => if 0 ≤ n ∧ n ≤ 16777216 then (if alloc then .ok (.ref s.length) (s ++ [.lst (rangeA n)]) else .ok (.lst (rangeA n)) s) else .no
  | _ => .no

/-! ### methods of built-ins -/
def eBM (g : GM) (ma : EM) (ms : AM) : EM := fun e s => (ma e s).bind fun x s => (ms e s).bind fun xs s => ofO (g x xs s)
/-- what the type asks -/
def bmOk (T : String) (a : AV) (s : Sto) : Bool := match a with
  | .str _ => T == "str"
  | .ref n => match s[n]? with
    | some (.lst _) => T == "list"
    | some (.dK _) => T == "dict"
    | some (.dT _) => T == "dict"
    | _ => false
  | .lst _ => T == "list"
  | _ => false
theorem bmOk_ok {K : PySem.W.Frag} {w : Wd} {s : Sto} {H : Hp} {T : String} {a : AV} {v : V} (R : Rel K w s H) (r : VR K w H a v) (e : bmOk T a s = true) : tyV K T v H := by
  cases r with
  | str x => exact eq_of_beq e
  | ref hn =>
    dsimp only [bmOk] at e
    split at e
    · rename_i q
      obtain ⟨u, hu, o⟩ := R.ob _ _ _ hn q
      cases o with
      | lst r => exact .inl ⟨eq_of_beq e, _, .of hu⟩
    · rename_i q
      obtain ⟨u, hu, o⟩ := R.ob _ _ _ hn q
      cases o with
      | dK r => exact .inr (.inr (.inl ⟨eq_of_beq e, .inl ⟨_, hu⟩⟩))
    · rename_i q
      obtain ⟨u, hu, o⟩ := R.ob _ _ _ hn q
      cases o with
      | dT r => exact .inr (.inr (.inl ⟨eq_of_beq e, .inr ⟨_, hu⟩⟩))
    · cases e
  | lst h t => exact .inl ⟨eq_of_beq e, _, h.sq⟩
  | _ => cases e
def gBM (T : String) (g : GM) : GM := fun a as s => if bmOk T a s then g a as s else none
def eBMT (T : String) (g : GM) (ma : EM) (ms : AM) : EM := fun e s => (ma e s).bind fun x s => if bmOk T x s then (ms e s).bind fun xs s => ofO (g x xs s) else .no
theorem re_bm {T id : String} {name : Str} {g : GM} (pa : PlainAttrs T) (slot : Slot T name id) (hty : typeOf (.builtin id) = pure (.type "method_descriptor")) (hm : MtR X id (rMM X.K g)) (ho : RE X W a ma) (ha : RA X W (b :: es) ms)
    (hbase : attributeBase a name X.env (eval a X.env) = eval a X.env := by rfl)
    (hfew : ((backTo cpos (starEach (b :: es) X.env)).all (fun x => !x.1) && (backToKw cpos (keywordEach [] X.env)).all (fun x => x.1.isSome) && decide ((b :: es).length + ([] : List Keyword).length + (if ([] : List Keyword).isEmpty then 0 else 1) < 30)) = true := by rfl)
    (hline : (apos.endLine == cpos.line) = true := by rfl) (hs : starEach (b :: es) X.env = (false, eval b X.env) :: starEach es X.env := by rfl) (hpl : (backTo cpos (starEach es X.env)).any (·.1) = false := by rfl) :
    RE X W (.Call (.Attribute a name apos) (b :: es) [] cpos) (eBMT T g ma ms) :=
  (pe_bm pa slot hty hm ho ha hbase hfew hline hs hpl).imp fun σ H Q ⟨w, s, e, E, R, h⟩ => ⟨w, s, e, E, R, h.bind fun a s1 w1 H1 F1 R1 h1 v V1 => by
    split at h1
    · rename_i hk
      exact ⟨bmOk_ok R1 V1 hk, w1, s1, e, E.fut F1, R1, h1.bind fun xs s2 w2 H2 F2 R2 h2 vs V2 => by
        obtain ⟨r, s', e', q⟩ := ofO_out h2
        exact ⟨w2, s2, a, xs, r, s', V1.fut F2, V2, R2, e', q⟩⟩
    · exact h1.elim⟩
theorem re_bm0 {T id : String} {name : Str} {g : GM} (pa : PlainAttrs T) (slot : Slot T name id) (hty : typeOf (.builtin id) = pure (.type "method_descriptor")) (hm : MtR X id (rMM X.K g)) (ho : RE X W a ma)
    (hbase : attributeBase a name X.env (eval a X.env) = eval a X.env := by rfl) (hline : (apos.endLine == cpos.line) = true := by rfl) : RE X W (.Call (.Attribute a name apos) [] [] cpos) (eBMT T g ma aNil) :=
  (pe_bm0 pa slot hty hm ho hbase hline).imp fun σ H Q ⟨w, s, e, E, R, h⟩ => ⟨w, s, e, E, R, h.bind fun a s1 w1 H1 F1 R1 h1 v V1 => by
    split at h1
    · rename_i hk
      obtain ⟨r, s', e', q⟩ := ofO_out (h1 : Out _ _ _ _ _ (ofO (g a [] s1)))
      exact ⟨bmOk_ok R1 V1 hk, w1, s1, a, [], r, s', V1, .nil, R1, e', q⟩
    · exact h1.elim⟩
/-- l.append(y) -/
def appendA : GM := fun a as s => match a, as with
  | .ref n, [y] => match s[n]? with
    | some (.lst xs) => if xs.length < 16777216 then some (.non, s.set n (.lst (xs ++ [y]))) else none
    | _ => none
  | _, _ => none
theorem mt_appendS : MtR X "list.append" (rMM X.K appendA) := by
  intro pins s σ H v vs u us Q I rv rvs ⟨w, st, a, as, r, s', V1, V2, R, e, p⟩
  unfold appendA at e
  split at e
  · split at e
    · rename_i q
      split at e
      · rename_i hz
        cases e
        obtain ⟨z, rfl, hy⟩ := V2.one
        cases V1 with
        | ref hn =>
          obtain ⟨u', hu, o⟩ := R.ob _ _ _ hn q
          cases o with
          | lst t => exact mt_append pins s σ H _ _ u us Q I rv rvs ⟨_, _, z, rfl, rfl, hu, by rw [← t.length, szl]; exact hz, p.put R hn (fun _ _ z => by rw [hu] at z; cases z) (.lst (t.append (.cons hy .nil))) .non⟩
      · cases e
    · cases e
  · cases e
/-- l.insert(i, y) -/
def insertA : GM := fun a as s => match a, as with
  | .ref n, [.int i, y] => match s[n]? with
    | some (.lst xs) => if xs.length < 16777216 ∧ 0 ≤ i ∧ i < 2 ^ 63 then some (.non, s.set n (.lst (xs.take i.toNat ++ [y] ++ xs.drop i.toNat))) else none
    | _ => none
  | _, _ => none
theorem mt_insertS : MtR X "list.insert" (rMM X.K insertA) := by
  intro pins s σ H v vs u us Q I rv rvs ⟨w, st, a, as, r, s', V1, V2, R, e, p⟩
  unfold insertA at e
  split at e
  · split at e
    · rename_i q
      split at e
      · rename_i hz
        cases e
        obtain ⟨z0, z, rfl, h0, hy⟩ := V2.two
        cases h0
        cases V1 with
        | ref hn =>
          obtain ⟨u', hu, o⟩ := R.ob _ _ _ hn q
          cases o with
          | lst t => exact mt_insert pins s σ H _ _ u us Q I rv rvs ⟨_, _, _, z, rfl, rfl, hu, by rw [← t.length, szl]; exact hz.1, hz.2.1, hz.2.2, p.put R hn (fun _ _ z => by rw [hu] at z; cases z) (.lst (((t.take _).append (.cons hy .nil)).append (t.drop _))) .non⟩
      · cases e
    · cases e
  · cases e
/-- l.pop() -/
def popA : GM := fun a as s => match a, as with
  | .ref n, [] => match s[n]? with
    | some (.lst xs) => match xs[xs.length - 1]? with
      | some y => some (y, s.set n (.lst xs.dropLast))
      | none => none
    | _ => none
  | _, _ => none
theorem VRs.dropLast {K : PySem.W.Frag} {w : Wd} {H : Hp} {xs : List AV} {ys : List V} (r : VRs K w H xs ys) : VRs K w H xs.dropLast ys.dropLast := by
  rw [List.dropLast_eq_take, List.dropLast_eq_take, ← r.length]
  exact r.take _
theorem mt_popS : MtR X "list.pop" (rMM X.K popA) := by
  intro pins s σ H v vs u us Q I rv rvs ⟨w, st, a, as, r, s', V1, V2, R, e, p⟩
  unfold popA at e
  split at e
  · split at e
    · rename_i q
      split at e
      · rename_i y hy
        cases e
        cases V2
        cases V1 with
        | ref hn =>
          obtain ⟨u', hu, o⟩ := R.ob _ _ _ hn q
          cases o with
          | lst t =>
            obtain ⟨z, hz, vz⟩ := t.get hy
            exact mt_pop pins s σ H _ _ u us Q I rv rvs ⟨_, _, z, rfl, rfl, hu, by rw [← t.length]; exact hz, p.put R hn (fun _ _ z => by rw [hu] at z; cases z) (.lst t.dropLast) vz⟩
      · cases e
    · cases e
  · cases e
/-- l.extend(m), both lists -/
def extendA : GM := fun a as s => match a, as with
  | .ref n, [b] => match s[n]?, lstA b s with
    | some (.lst xs), some zs => if xs.length + zs.length ≤ 16777216 then some (.non, s.set n (.lst (xs ++ zs))) else none
    | _, _ => none
  | _, _ => none
theorem mt_extendS : MtR X "list.extend" (rMM X.K extendA) := by
  intro pins s σ H v vs u us Q I rv rvs ⟨w, st, a, as, r, s', V1, V2, R, e, p⟩
  unfold extendA at e
  split at e
  · split at e
    · rename_i q hb
      split at e
      · rename_i hz
        cases e
        obtain ⟨z, rfl, hy⟩ := V2.one
        obtain ⟨pb, ys, rfl, hpb, tb⟩ := lstA_ok R hy hb
        cases V1 with
        | ref hn =>
          obtain ⟨u', hu, o⟩ := R.ob _ _ _ hn q
          cases o with
          | lst t => exact mt_extend pins s σ H _ _ u us Q I rv rvs ⟨_, pb, _, _, rfl, rfl, hu, hpb, by rw [← t.length, ← tb.length, szl]; exact hz, p.put R hn (fun _ _ z => by rw [hu] at z; cases z) (.lst (t.append tb)) .non⟩
      · cases e
    · cases e
  · cases e
end
end S
set_option Elab.async false
set_option linter.all false
set_option maxRecDepth 100000
/-! Layer S. SH: strong tuples by displays, methods of tuples, index, get, fields. -/
namespace S
open PySem PySem.Spec PyProof.Rows L2 StX
section
variable {X : Cx} {W : WX} {a b c : Expr} {es : List Expr} {ma mb mc : EM} {ms : AM} {pos p p2 apos cpos : Pos} {x : Str}
/-- a written tuple, known to have no dict -/
def tTupS (t : TA) : TE := fun σ H Q => t σ H fun xs H1 => xs.length ≤ sizeLine ∧ ∀ (p : Addr) (ob : Obj), H1 p = none → ob.dict = none → Q (.ref p) (upd H1 p (.frz ob (.tup xs)))
theorem pe_tupS {k : Nat} {t : TA} (h : PA X es t) : PE X (.Tuple es k pos) (tTupS t) := by
  refine ⟨fun pins s σ H Q I hq => wpAny_Tuple_spliced (thn (h.run pos pins s σ H _ I hq) fun us s1 ⟨xs, H1, J, r, z, q⟩ => ⟨by rw [← r.length]; exact z, ?_⟩)⟩
  have new := Heap.get?_push_size s1.heap (o := { cls := .type "tuple", data := .seq us.toArray }) rfl
  exact ⟨.ref s1.heap.objs.size, _, J.laid (t' := s1.toks) (o := .frz { cls := .type "tuple", data := .seq us.toArray } (.tup xs)) (fun b u e => Heap.get?_push_of_some _ e) (Nat.le_refl _) ⟨new, z, us, r, ⟨_, new, rfl, _, rfl⟩⟩, rfl, q _ _ (J.hok.fresh (Nat.le_refl _)) rfl⟩
def eTupS (ms : AM) : EM := fun e s => (ms e s).bind fun xs s => if xs.length ≤ 16777216 then .ok (.tpS xs) s else .no
theorem re_tupS {k} (h : RA X W es ms) : RE X W (.Tuple es k pos) (eTupS ms) := (pe_tupS h).imp fun σ H Q ⟨w, s, e, E, R, h⟩ => ⟨w, s, e, E, R, h.bind fun xs s1 w1 H1 F1 R1 h1 vs V1 => by
    split at h1
    · rename_i hz
      exact ⟨by rw [← V1.length, szl]; exact hz, fun p ob n hd => h1 w1 _ (Fut.lay n) (R1.lay n) _ (VR.layS R1 n hd V1)⟩
    · exact h1.elim⟩

/-! ### t.index(x), t.count(x) of a tuple known to have no dict -/
def tTMt (r : V → List V → Hp → VK → Prop) (to : TE) (t : TA) : TE := fun σ H Q => to σ H fun x H1 => (∃ p ob xs, x = .ref p ∧ H1 p = some (.frz ob (.tup xs)) ∧ ob.dict = none) ∧ t σ H1 fun xs H2 => r x xs H2 Q
theorem pe_tm {id : String} {name : Str} {r : V → List V → Hp → VK → Prop} {to : TE} {t : TA} (slot : Slot "tuple" name id) (hty : typeOf (.builtin id) = pure (.type "method_descriptor")) (hm : MtR X id r) (ho : PE X a to) (ha : PA X (b :: es) t)
    (hbase : attributeBase a name X.env (eval a X.env) = eval a X.env)
    (hfew : ((backTo cpos (starEach (b :: es) X.env)).all (fun x => !x.1) && (backToKw cpos (keywordEach [] X.env)).all (fun x => x.1.isSome) && decide ((b :: es).length + ([] : List Keyword).length + (if ([] : List Keyword).isEmpty then 0 else 1) < 30)) = true)
    (hline : (apos.endLine == cpos.line) = true) (hs : starEach (b :: es) X.env = (false, eval b X.env) :: starEach es X.env) (hpl : (backTo cpos (starEach es X.env)).any (·.1) = false) :
    PE X (.Call (.Attribute a name apos) (b :: es) [] cpos) (tTMt r to t) := by
  refine ⟨fun pins s σ H Q I h => wpAny_Call_method_late hbase hfew hline rfl (thn (ho.run pins s σ H _ I h) fun v s1 ⟨x, H1, J, rx, ⟨p, ob, xs, ex, ep, ed⟩, q⟩ => ?_)⟩
  subst ex
  obtain rfl : v = Value.ref p := rx
  obtain ⟨e1, _, us, _, o, e2, e3, _⟩ := J.hok p _ ep
  rw [e1] at e2
  cases e2
  refine ⟨"tuple", id, PySem.F.plainAttrs_tuple, slot, hty, ⟨_, e1, e3⟩, fun a' ea => by cases ea; exact ⟨_, e1, ed⟩, ?_⟩
  have hA := ha.run cpos pins s1 σ H1 _ J q
  rw [hs] at hA ⊢
  refine Calls.callWith_builtin (by show (false || (backTo cpos (starEach es X.env)).any (·.1)) = false; rw [hpl] <;> rfl) (Calls.evalArgs_plain (thn hA fun us s2 ⟨vs, H2, J2, r2, q2⟩ => ?_))
  exact hm pins s2 σ H2 (.ref p) vs (.ref p) us Q J2 rfl r2 q2
def tpsOk (a : AV) : Bool := match a with
  | .tpS _ => true
  | _ => false
def eTM (g : GM) (ma : EM) (ms : AM) : EM := fun e s => (ma e s).bind fun x s => if tpsOk x then (ms e s).bind fun xs s => ofO (g x xs s) else .no
theorem re_tm {id : String} {name : Str} {g : GM} (slot : Slot "tuple" name id) (hty : typeOf (.builtin id) = pure (.type "method_descriptor")) (hm : MtR X id (rMM X.K g)) (ho : RE X W a ma) (ha : RA X W (b :: es) ms)
    (hbase : attributeBase a name X.env (eval a X.env) = eval a X.env := by rfl)
    (hfew : ((backTo cpos (starEach (b :: es) X.env)).all (fun x => !x.1) && (backToKw cpos (keywordEach [] X.env)).all (fun x => x.1.isSome) && decide ((b :: es).length + ([] : List Keyword).length + (if ([] : List Keyword).isEmpty then 0 else 1) < 30)) = true := by rfl)
    (hline : (apos.endLine == cpos.line) = true := by rfl) (hs : starEach (b :: es) X.env = (false, eval b X.env) :: starEach es X.env := by rfl) (hpl : (backTo cpos (starEach es X.env)).any (·.1) = false := by rfl) :
    RE X W (.Call (.Attribute a name apos) (b :: es) [] cpos) (eTM g ma ms) :=
  (pe_tm slot hty hm ho ha hbase hfew hline hs hpl).imp fun σ H Q ⟨w, s, e, E, R, h⟩ => ⟨w, s, e, E, R, h.bind fun a s1 w1 H1 F1 R1 h1 v V1 => by
    split at h1
    · rename_i hk
      refine ⟨?_, w1, s1, e, E.fut F1, R1, h1.bind fun xs s2 w2 H2 F2 R2 h2 vs V2 => by
        obtain ⟨r, s', e', q⟩ := ofO_out h2
        exact ⟨w2, s2, a, xs, r, s', V1.fut F2, V2, R2, e', q⟩⟩
      cases V1 with
      | tpS hs t =>
        obtain ⟨_, _, ob, hd, hp⟩ := hs
        exact ⟨_, ob, _, rfl, hp, hd⟩
      | _ => cases hk
    · exact h1.elim⟩
def idxS (ys : List Str) (z : Str) : Option Nat := if z ∈ ys then some (ys.idxOf z) else none
theorem idxS_ok {ys : List Str} {z : Str} {j : Nat} (h : idxS ys z = some j) : ys[j]? = some z ∧ ∀ m, m < j → ys[m]? ≠ some z := by
  unfold idxS at h
  split at h
  · rename_i hm
    cases h
    have hl : ys.idxOf z < ys.length := List.idxOf_lt_length_of_mem hm
    refine ⟨by rw [List.getElem?_eq_getElem hl, List.getElem_idxOf hl], fun m hm' e => ?_⟩
    have := List.not_of_lt_findIdx (p := (· == z)) (xs := ys) (i := m) hm'
    have hml : m < ys.length := Nat.lt_trans hm' hl
    rw [List.getElem?_eq_getElem hml] at e
    cases e
    simp at this
  · cases h
/-- t.index(x), l.index(x), of texts -/
def indexA : GM := fun a as s => match as with
  | [.str z] => ((seqA a s).bind strsA).bind fun ys => (idxS ys z).map fun j => (.int (j : Nat), s)
  | _ => none
theorem mt_tindexS : MtR X "tuple.index" (rMM X.K (fun a as s => if tpsOk a then indexA a as s else none)) := by
  intro pins s σ H v vs u us Q I rv rvs ⟨w, st, a, as, r, s', V1, V2, R, e, p⟩
  dsimp only at e
  split at e
  · rename_i hk
    unfold indexA at e
    split at e
    · simp only [Option.bind_eq_some_iff, Option.map_eq_some_iff] at e
      obtain ⟨ys, ⟨xs, e1, e2⟩, j, e3, e4⟩ := e
      cases e4
      obtain ⟨z, rfl, hz⟩ := V2.one
      cases hz
      cases V1 with
      | tpS hs t =>
        cases e1
        have := strsA_ok t e2
        subst this
        obtain ⟨h1, h2⟩ := idxS_ok e3
        exact mt_tup_index pins s σ H _ _ u us Q I rv rvs ⟨_, ys, _, j, rfl, rfl, hs.sq, h1, h2, p.val R (.int _)⟩
      | _ => cases hk
    · cases e
  · cases e
theorem eqV_str (z x : Str) : eqV (.str z) (.str x) = (z == x) := rfl
theorem mt_lindexS : MtR X "list.index" (rMM X.K (fun a as s => (lstA a s).bind fun _ => indexA a as s)) := by
  intro pins s σ H v vs u us Q I rv rvs ⟨w, st, a, as, r, s', V1, V2, R, e, p⟩
  simp only [Option.bind_eq_some_iff] at e
  obtain ⟨xs0, e0, e⟩ := e
  unfold indexA at e
  split at e
  · simp only [Option.bind_eq_some_iff, Option.map_eq_some_iff] at e
    obtain ⟨ys, ⟨xs, e1, e2⟩, j, e3, e4⟩ := e
    cases e4
    obtain ⟨z, rfl, hz⟩ := V2.one
    cases hz
    obtain ⟨q, zs, rfl, hq, t⟩ := lstA_ok R V1 e0
    have hx : xs = xs0 := by
      unfold lstA at e0
      unfold seqA at e1
      split at e0
      · cases e0; cases e1; rfl
      · dsimp only at e1
        split at e0
        · rename_i q; rw [q] at e1; cases e0; cases e1; rfl
        · cases e0
      · cases e0
    subst hx
    have := strsA_ok t e2
    subst this
    obtain ⟨h1, h2⟩ := idxS_ok e3
    refine mt_index pins s σ H _ _ u us Q I rv rvs ⟨q, _, _, j, _, rfl, rfl, .of hq, rfl, S.flat_strs ys, by rw [List.getElem?_map, h1]; rfl, by rw [eqV_str]; simp, fun m z' hm hz' => ?_, p.val R (.int _)⟩
    rw [List.getElem?_map] at hz'
    cases e5 : ys[m]? with
    | none => rw [e5] at hz'; cases hz'
    | some y =>
      rw [e5] at hz'
      cases hz'
      rw [eqV_str]
      have := h2 m hm
      rw [e5] at this
      simpa using this
  · cases e
/-- t.count(k), of ints -/
def countA : GM := fun a as s => match a, as with
  | .tpS xs, [.int k] => (intsA xs).map fun ns => (.int (ns.count k : Nat), s)
  | _, _ => none
theorem plain_ints : ∀ ns : List Int, PyData.plainAll (ns.map .int) = true
  | [] => rfl
  | n :: ns => by
    rw [List.map_cons]
    show (true && PyData.plainAll (ns.map .int)) = true
    rw [plain_ints ns]
    rfl
theorem eqv_int (a b : Int) : PyData.eqv (.int a) (.int b) = (a == b) := by
  simp [PyData.eqv]
theorem pds_ints {K : PySem.W.Frag} {H : Hp} : ∀ ns : List Int, DpAll K H (ns.map V.int) (ns.map PyData.int)
  | [] => .nil
  | n :: ns => .cons (.int n) (pds_ints ns)
theorem depth_ints : ∀ ns : List Int, PyData.depthAll (ns.map .int) = 0
  | [] => rfl
  | n :: ns => by
    rw [List.map_cons]
    show max 0 (PyData.depthAll (ns.map .int)) = 0
    rw [depth_ints ns]
    rfl
theorem mt_tcountS (hu : X.A.units + 64 < cLine) : MtR X "tuple.count" (rMM X.K countA) := by
  intro pins s σ H v vs u us Q I rv rvs ⟨w, st, a, as, r, s', V1, V2, R, e, p⟩
  unfold countA at e
  split at e
  · simp only [Option.map_eq_some_iff] at e
    obtain ⟨ns, e1, e2⟩ := e
    cases e2
    obtain ⟨z, rfl, hz⟩ := V2.one
    cases hz
    cases V1 with
    | tpS hs t =>
      have := intsA_ok t e1
      subst this
      cases rv
      obtain ⟨u1, rfl, ru⟩ := rvs.one
      obtain ⟨its, r1, pl, _⟩ := I.tuple hs.sq
      obtain ⟨as1, rs⟩ := Dp.readsAll I _ _ _ (pds_ints ns) r1
      obtain ⟨as2, rx⟩ := Dp.reads I (.int _) _ _ (.int _) ru
      refine PySem.SeqAt.count_tuple_data (vs := its.toArray) pl rs rx (plain_ints ns) rfl (by rw [depth_ints]; omega) ?_
      refine ⟨.int (ns.count _ : Nat), H, I.tok _, ⟨s.toks, ?_⟩, p.val R (.int _)⟩
      congr 2
      rw [List.countP_map]
      unfold List.count
      congr 1
  · cases e

/-! ### d.get(k, x) -/
def eGet (ma mb mc : EM) : EM := fun e s => (ma e s).bind fun d s => if bmOk "dict" d s then (mb e s).bind fun k s => (mc e s).bind fun x s => match dgetA d k s with
  | some o => .ok (o.getD x) s
  | none => .no
  else .no
theorem bmOk_dict {K : PySem.W.Frag} {w : Wd} {s : Sto} {H : Hp} {a : AV} {v : V} (R : Rel K w s H) (r : VR K w H a v) (e : bmOk "dict" a s = true) : ∃ d, v = .ref d ∧ IsD H d := by
  have ty := bmOk_ok R r e
  cases v with
  | ref d =>
    refine ⟨d, rfl, ?_⟩
    rcases ty with ⟨z, _⟩ | ⟨z, _⟩ | ⟨_, h⟩ | ⟨z, _⟩
    · exact absurd z (by decide)
    · exact absurd z (by decide)
    · exact h.imp (fun ⟨k, e⟩ => ⟨k, .inl e⟩) fun ⟨k, e⟩ => ⟨k, .inl e⟩
    · exact absurd z (by decide)
  | str _ => exact absurd (show "dict" = "str" from ty) (by decide)
  | int _ => exact absurd (show "dict" = "int" from ty) (by decide)
  | _ => exact ty.elim
theorem re_get (hu : X.A.units + 1 < cLine) (ha : RE X W a ma) (hb : RE X W b mb) (hc : RE X W c mc) (m : M2 X a "get" apos b c cpos := by exact ⟨rfl, rfl, rfl, rfl⟩) : RE X W (.Call (.Attribute a "get" apos) [b, c] [] cpos) (eGet ma mb mc) :=
  (pe_dget2 hu ha hb hc m).imp fun σ H Q ⟨w, s, e, E, R, h⟩ => ⟨w, s, e, E, R, h.bind fun d s1 w1 H1 F1 R1 h1 v V1 => by
    split at h1
    · rename_i hk
      obtain ⟨d', rfl, hd⟩ := bmOk_dict R1 V1 hk
      exact ⟨d', rfl, hd, w1, s1, e, E.fut F1, R1, h1.bind fun k s2 w2 H2 F2 R2 h2 vk Vk => ⟨w2, s2, e, (E.fut F1).fut F2, R2, h2.bind fun x s3 w3 H3 F3 R3 h3 vx Vx => by
        split at h3
        · rename_i o ho
          obtain ⟨q, r, eq, g, hr⟩ := dgetA_ok R3 ((V1.fut F2).fut F3) (Vk.fut F3) ho
          cases eq
          refine ⟨r, g, h3.ok R3 _ ?_⟩
          cases o <;> cases r <;> first | exact Vx | exact hr | exact hr.elim
        · exact h3.elim⟩⟩
    · exact h1.elim⟩
end
end S
set_option Elab.async false
set_option linter.all false
set_option maxRecDepth 100000
/-! Layer S. SI: fields, targets, assignments, augmented assignments. -/
namespace S
open PySem PySem.Spec PyProof.Rows L2 StX
def fldA (fs : List (Str × AV)) (f : Str) : Option AV := match fs with
  | [] => none
  | (g, v) :: r => if g = f then some v else fldA r f
def putFA (f : Str) (v : AV) : List (Str × AV) → List (Str × AV)
  | [] => [(f, v)]
  | (g, x) :: r => if g = f then (g, v) :: r else (g, x) :: putFA f v r
section
variable {K : PySem.W.Frag} {w : Wd} {s : Sto} {H : Hp}
theorem KR.fld (f : Str) : ∀ {fs : List (Str × AV)} {vs : List (Str × V)}, KR K w H fs vs → ORel K w H (fldA fs f) (vs.lookup f)
  | _, _, .nil => trivial
  | _, _, .cons (k := k) (a := a) (v := v) (xs := xs) (ys := ys) h t => by
    have ih := KR.fld f t
    by_cases e : k = f
    · have e1 : fldA ((k, a) :: xs) f = some a := by show (if k = f then _ else _) = _; rw [if_pos e]
      have e2 : List.lookup f ((k, v) :: ys) = some v := by simp [List.lookup, e]
      rw [e1, e2]; exact h
    · have e1 : fldA ((k, a) :: xs) f = fldA xs f := by show (if k = f then _ else _) = _; rw [if_neg e]
      have e2 : List.lookup f ((k, v) :: ys) = List.lookup f ys := by
        have : (f == k) = false := by simpa using fun z => e z.symm
        simp [List.lookup, this]
      rw [e1, e2]; exact ih
theorem KR.putF (f : Str) {a : AV} {v : V} (h : VR K w H a v) : ∀ {fs : List (Str × AV)} {vs : List (Str × V)}, KR K w H fs vs → KR K w H (putFA f a fs) (L2.putF f v vs)
  | _, _, .nil => .cons h .nil
  | _, _, .cons (k := k) h' t => by
    unfold putFA L2.putF
    by_cases e : k = f
    · rw [if_pos e, if_pos e]; exact .cons h t
    · rw [if_neg e, if_neg e]; exact .cons h' (KR.putF f h t)
theorem ORel.none_iff {a : Option AV} {v : Option V} (r : ORel K w H a v) (h : a = none) : v = none := by
  subst h
  cases v with
  | none => rfl
  | some _ => exact r.elim
/-- the instance's fields -/
def insA (c : Str) (a : AV) (s : Sto) : Option (Nat × List (Str × AV)) := match a with
  | .ref n => match s[n]? with
    | some (.ins c' fs) => if c' = c then some (n, fs) else none
    | _ => none
  | _ => none
theorem insA_ok {c : Str} {a : AV} {v : V} {n : Nat} {fs : List (Str × AV)} (R : Rel K w s H) (r : VR K w H a v) (e : insA c a s = some (n, fs)) : a = .ref n ∧ s[n]? = some (.ins c fs) ∧ ∃ p dx vs, v = .ref p ∧ w.ι[n]? = some p ∧ H p = some (.ins (He.ga K c) dx vs) ∧ KR K w H fs vs := by
  unfold insA at e
  split at e
  · split at e
    · rename_i q
      split at e
      · rename_i hc
        cases e
        subst hc
        cases r with
        | ref hn =>
          obtain ⟨u, hu, o⟩ := R.ob _ _ _ hn q
          cases o with
          | ins r => exact ⟨rfl, q, _, _, _, rfl, hn, hu, r⟩
      · cases e
    · cases e
  · cases e
end
section
variable {X : Cx} {W : WX} {a b c : Expr} {es : List Expr} {ma mb mc : EM} {ms : AM} {pos pos' p p2 apos cpos tpos : Pos} {x f : Str} {cn : Str}
/-- o.f -/
def eFld (cn f : Str) (ma : EM) : EM := fun e s => (ma e s).bind fun x s => match insA cn x s with
  | some (_, fs) => match fldA fs f with
    | some v => .ok v s
    | none => .no
  | none => .no
theorem re_fld (hc : Cls X.K (He.ga X.K cn)) (hn : NoAttr X.K (He.ga X.K cn) f) (ha : RE X W a ma) (hb : attributeBase a f X.env (eval a X.env) = eval a X.env := by rfl) : RE X W (.Attribute a f pos) (eFld cn f ma) :=
  (pe_fld ha hb).imp fun σ H Q ⟨w, s, e, E, R, h⟩ => ⟨w, s, e, E, R, h.bind fun a s1 w1 H1 F1 R1 h1 v V1 => by
    split at h1
    · rename_i n fs hi
      obtain ⟨_, _, p, dx, vs, rfl, hp, hH, kr⟩ := insA_ok R1 V1 hi
      split at h1
      · rename_i y hy
        have q := kr.fld f
        rw [hy] at q
        cases e2 : vs.lookup f with
        | none => rw [e2] at q; exact q.elim
        | some z => rw [e2] at q; exact ⟨p, _, dx, vs, z, rfl, hH, hc, hn, e2, h1.ok R1 z q⟩
      · exact h1.elim
    · exact h1.elim⟩
/-- o.f = e -/
def setFA (cn f : Str) (o v : AV) (s : Sto) : Option Sto := match insA cn o s with
  | some (n, fs) => if fs.length < 1000 then some (s.set n (.ins cn (putFA f v fs))) else none
  | none => none
def sFldM (cn f : Str) (mo mv : EM) : SM := fun e s => (mv e s).sbind e fun v s => (mo e s).sbind e fun o s => match setFA cn f o v s with
  | some s => .nx e s
  | none => .no
theorem KR.len' {κ : Type} {K : PySem.W.Frag} {w : Wd} {H : Hp} {xs : List (κ × AV)} {ys : List (κ × V)} (r : KR K w H xs ys) : ys.length = xs.length := r.length.symm
theorem setFA_ok {K : PySem.W.Frag} {w : Wd} {s s' : Sto} {H : Hp} {o v : AV} {x y : V} (R : Rel K w s H) (V1 : VR K w H o x) (V2 : VR K w H v y) (e : setFA cn f o v s = some s') :
    ∃ p dx vs, x = .ref p ∧ H p = some (.ins (He.ga K cn) dx vs) ∧ vs.length < 1000 ∧ Fut w H w (upd H p (.ins (He.ga K cn) dx (L2.putF f y vs))) ∧ Rel K w s' (upd H p (.ins (He.ga K cn) dx (L2.putF f y vs))) := by
  unfold setFA at e
  split at e
  · rename_i n fs hi
    split at e
    · rename_i hl
      cases e
      obtain ⟨_, _, p, dx, vs, rfl, hp, hH, kr⟩ := insA_ok R V1 hi
      exact ⟨p, dx, vs, rfl, hH, by rw [kr.len']; exact hl, Fut.put hp (fun _ _ z => by rw [hH] at z; cases z), R.put hp (fun _ _ z => by rw [hH] at z; cases z) (.ins (kr.putF f V2))⟩
    · cases e
  · cases e
theorem rs_fld (hc : Cls X.K (He.ga X.K cn)) (hn : NoAttr X.K (He.ga X.K cn) f) (ha : RE X W a ma) (hv : RE X W b mb) (hs : swapsWith b (some (.Attribute a f pos')) pos.line X.env = pure false := by rfl) : RS X W (.Assign [.Attribute a f pos'] b pos) (sFldM cn f ma mb) :=
  (ps_fld ha hv hs).imp fun D σ H ⟨w, s, e, E, R, h⟩ => ⟨w, s, e, E, R, sbind_out E h fun v s1 w1 H1 F1 R1 h1 y V1 => ⟨w1, s1, e, E.fut F1, R1, sbind_out (E.fut F1) h1 fun o s2 w2 H2 F2 R2 h2 z V2 => by
    split at h2
    · rename_i s3 hs3
      obtain ⟨p, dx, vs, rfl, hH, hl, F, R3⟩ := setFA_ok R2 V2 (V1.fut F2) hs3
      exact ⟨p, _, dx, vs, rfl, hH, hc, hn, hl, h2 w2 _ σ F R3 (((E.fut F1).fut F2).fut F)⟩
    · exact h2.elim⟩⟩

/-! ### targets -/
abbrev GX := AV → AE → Sto → Option (AE × Sto)
abbrev GXs := List AV → AE → Sto → Option (AE × Sto)
def gpost (K : PySem.W.Frag) (w : Wd) (H : Hp) (e' : AE) (s' : Sto) (N : L2.St → Hp → Prop) : Prop := ∀ w' H' σ', Fut w H w' H' → Rel K w' s' H' → ER K w' H' e' σ' → N σ' H'
def tG (K : PySem.W.Frag) (m : GX) : TG := fun v σ H N => ∃ w s e a e' s', VR K w H a v ∧ ER K w H e σ ∧ Rel K w s H ∧ m a e s = some (e', s') ∧ gpost K w H e' s' N
def tGs (K : PySem.W.Frag) (m : GXs) : TGs := fun vs σ H N => ∃ w s e as e' s', VRs K w H as vs ∧ ER K w H e σ ∧ Rel K w s H ∧ m as e s = some (e', s') ∧ gpost K w H e' s' N
abbrev RG (X : Cx) (t : Expr) (m : GX) : Prop := PG X t (tG X.K m)
abbrev RGs (X : Cx) (t : List Expr) (m : GXs) : Prop := PGs X t (tGs X.K m)
theorem _root_.L2.PG.imp {e : Expr} {t t' : TG} (h : PG X e t) (k : ∀ v σ H Q, t' v σ H Q → t v σ H Q) : PG X e t' := ⟨fun pins s σ H v u Q I r hw => h.run pins s σ H v u Q I r (k v σ H Q hw)⟩
theorem _root_.L2.PGs.imp {e : List Expr} {t t' : TGs} (h : PGs X e t) (k : ∀ v σ H Q, t' v σ H Q → t v σ H Q) : PGs X e t' := ⟨fun pins s σ H v u Q I r hw => h.run pins s σ H v u Q I r (k v σ H Q hw)⟩
def gNm (i : Nat) : GX := fun a e s => some (e.set i (some a), s)
theorem rg_name {i : Nat} (hN : X.N.Nodup) (hi : X.N[i]? = some x := by rfl) (hx : Loc X.env.scope x := by first | exact Or.inl rfl | exact Or.inr rfl) (hf : X.fn x = true ∨ X.env.scope.names.lookup x = some .local := by first | exact .inl rfl | exact .inr rfl) : RG X (.Name x pos) (gNm i) :=
  (pg_name hN hi hx hf).imp fun v σ H N ⟨w, s, e, a, e', s', V1, E, R, h, q⟩ => by
    cases h
    exact q w H _ Fut.refl R (E.set i V1)
def gsNil : GXs := fun as e s => match as with
  | [] => some (e, s)
  | _ => none
def gsCons (m : GX) (ms : GXs) : GXs := fun as e s => match as with
  | a :: r => match m a e s with
    | some (e, s) => ms r e s
    | none => none
  | [] => none
theorem gpost.fut {K : PySem.W.Frag} {w w' : Wd} {H H' : Hp} {e' : AE} {s' : Sto} {N : L2.St → Hp → Prop} (F : Fut w H w' H') (h : gpost K w H e' s' N) : gpost K w' H' e' s' N := fun w2 H2 σ2 F2 R E => h w2 H2 σ2 (F.trans F2) R E
theorem rgs_nil : RGs X [] gsNil := pgs_nil.imp fun v σ H N ⟨w, s, e, as, e', s', V1, E, R, h, q⟩ => by
  unfold gsNil at h
  split at h
  · cases h
    cases V1
    exact ⟨rfl, q w H σ Fut.refl R E⟩
  · cases h
theorem rgs_cons {m : GX} {ms : GXs} (h1 : RG X a m) (h2 : RGs X es ms) (hs : (assignEach (a :: es) X.env).map (·.2) = assign a X.env :: (assignEach es X.env).map (·.2) := by rfl) : RGs X (a :: es) (gsCons m ms) :=
  (pgs_cons h1 h2 hs).imp fun v σ H N ⟨w, s, e, as, e', s', V1, E, R, h, q⟩ => by
    unfold gsCons at h
    split at h
    · split at h
      · rename_i e1 s1 h3
        cases V1 with
        | cons v1 t1 => exact ⟨_, _, rfl, w, s, e, _, e1, s1, v1, E, R, h3, fun w2 H2 σ2 F2 R2 E2 => ⟨w2, s1, e1, _, e', s', t1.fut F2, E2, R2, h, q.fut F2⟩⟩
      · cases h
    · cases h
def tupI : AV → Option (List AV)
  | .tup xs => some xs
  | .tpS xs => some xs
  | _ => none
theorem tupI_ok {K : PySem.W.Frag} {w : Wd} {H : Hp} {a : AV} {v : V} {xs : List AV} (r : VR K w H a v) (h : tupI a = some xs) : ∃ p ys, v = .ref p ∧ SqT K H p ys ∧ VRs K w H xs ys := by
  cases r with
  | tup hs r => cases h; exact ⟨_, _, rfl, hs.sq, r⟩
  | tpS hs r => cases h; exact ⟨_, _, rfl, hs.sq, r⟩
  | _ => cases h
def gTp (n : Nat) (ms : GXs) : GX := fun a e s => match tupI a with
  | some xs => if xs.length = n then ms xs e s else none
  | none => none
theorem rg_tup {k n : Nat} {ms : GXs} (hc : X.calm = true) (h : RGs X es ms) (hn : (assignEach es X.env).length = n := by rfl) (hst : (assignEach es X.env).findIdx? (·.1) = none := by rfl) : RG X (.Tuple es k pos) (gTp n ms) :=
  (pg_tup hc h hn hst).imp fun v σ H N ⟨w, s, e, a, e', s', V1, E, R, h, q⟩ => by
    unfold gTp at h
    split at h
    · rename_i xs hx
      split at h
      · rename_i hl
        obtain ⟨p, ys, rfl, hs, t⟩ := tupI_ok V1 hx
        exact ⟨p, ys, rfl, hs, by rw [← t.length]; exact hl, w, s, e, xs, e', s', t, E, R, h, q⟩
      · cases h
    · cases h
/-- a store, by values -/
def setA (o i v : AV) (s : Sto) : Option Sto := match o with
  | .ref n => match s[n]?, i with
    | some (.lst xs), .int k => match ixN xs.length k with
      | some j => some (s.set n (.lst (xs.set j v)))
      | none => none
    | some (.dK kvs), i => match asK i with
      | some k => if kvs.length < 16777216 then some (s.set n (.dK (putA kvs k v))) else none
      | none => none
    | some (.dT kvs), i => match asTK i with
      | some k => if kvs.length < 16777216 then some (s.set n (.dT (putA kvs k v))) else none
      | none => none
    | _, _ => none
  | _ => none
def tSet (K : PySem.W.Frag) : TSet := fun o i v H Q => ∃ w s a b c s', VR K w H a o ∧ VR K w H b i ∧ VR K w H c v ∧ Rel K w s H ∧ setA a b c s = some s' ∧ ∀ w' H', Fut w H w' H' → Rel K w' s' H' → Q H'
theorem set_S (hu : X.A.units + 1 < cLine) : PSet X (tSet X.K) := by
  intro pins s σ H o i v ov iv u Q I ro ri rv ⟨w, st, a, b, c, s', V1, V2, V3, R, e, q⟩
  unfold setA at e
  split at e
  · split at e
    · rename_i xs k q1
      split at e
      · rename_i j hj
        cases e
        cases V2
        cases V1 with
        | ref hn =>
          obtain ⟨u', hu', o'⟩ := R.ob _ _ _ hn q1
          cases o' with
          | lst t => exact set_list pins s σ H _ _ v ov iv u Q I ro ri rv ⟨_, _, k, j, rfl, rfl, hu', by rw [← t.length]; exact hj, q w _ (Fut.put hn (fun _ _ z => by rw [hu'] at z; cases z)) (R.put hn (fun _ _ z => by rw [hu'] at z; cases z) (.lst (VRs.set V3 j t)))⟩
      · cases e
    · rename_i q1
      split at e
      · rename_i kk hk
        split at e
        · rename_i hz
          cases e
          have := asK_ok V2 hk
          subst this
          cases V1 with
          | ref hn =>
            obtain ⟨u', hu', o'⟩ := R.ob _ _ _ hn q1
            cases o' with
            | dK t => exact set_dict hu pins s σ H _ _ v ov iv u Q I ro ri rv ⟨_, _, rfl, .k hu' (by rw [← t.length, szl]; exact hz), q w _ (Fut.put hn (fun _ _ z => by rw [hu'] at z; cases z)) (R.put hn (fun _ _ z => by rw [hu'] at z; cases z) (.dK (t.put kk V3)))⟩
        · cases e
      · cases e
    · rename_i q1
      split at e
      · rename_i kk hk
        split at e
        · rename_i hz
          cases e
          obtain ⟨b', rfl, hb⟩ := asTK_ok V2 hk
          cases V1 with
          | ref hn =>
            obtain ⟨u', hu', o'⟩ := R.ob _ _ _ hn q1
            cases o' with
            | dT t => exact set_dict hu pins s σ H _ _ v ov iv u Q I ro ri rv ⟨_, _, rfl, .t hu' hb (by rw [← t.length, szl]; exact hz), q w _ (Fut.put hn (fun _ _ z => by rw [hu'] at z; cases z)) (R.put hn (fun _ _ z => by rw [hu'] at z; cases z) (.dT (t.put kk V3)))⟩
        · cases e
      · cases e
    · cases e
  · cases e
/-- o[i] as a target -/
def gSb (mo mi : EM) : GX := fun v e s => match mo e s with
  | .ok o s => match mi e s with
    | .ok i s => (setA o i v s).map fun s => (e, s)
    | _ => none
  | _ => none
theorem rg_sub (hu : X.A.units + 1 < cLine) (ho : RE X W a ma) (hi : RE X W b mb)
    (ha : ∀ v, assign (.Subscript a b pos) X.env v = (do
      let ov ← holding [v] (eval a X.env)
      let iv ← holding [v, ov] (eval b X.env)
      standAt pos
      holding [v, ov, iv] (setItem ov iv v)
      release [v, ov, iv] []) := by intro _; rfl) : RG X (.Subscript a b pos) (gSb ma mb) :=
  (pg_sub ho hi (set_S hu) ha).imp fun v σ H N ⟨w, s, e, c, e', s', V1, E, R, h, q⟩ => by
    unfold gSb at h
    split at h
    · rename_i o s1 h1
      refine ⟨w, s, e, E, R, ?_⟩
      rw [h1]
      intro w1 H1 F1 R1 vo Vo
      split at h
      · rename_i i s2 h2
        simp only [Option.map_eq_some_iff] at h
        obtain ⟨s3, h3, h4⟩ := h
        cases h4
        refine ⟨w1, s1, e, E.fut F1, R1, ?_⟩
        rw [h2]
        intro w2 H2 F2 R2 vi Vi
        exact ⟨w2, s2, o, i, c, _, Vo.fut F2, Vi, V1.fut (F1.trans F2), R2, h3, fun w3 H3 F3 R3 => q w3 H3 σ (F1.trans (F2.trans F3)) R3 (E.fut (F1.trans (F2.trans F3)))⟩
      · cases h
    · cases h
/-- o.f as a target -/
def gFd (cn f : Str) (mo : EM) : GX := fun v e s => match mo e s with
  | .ok o s => (setFA cn f o v s).map fun s => (e, s)
  | _ => none
theorem rg_fld (hc : Cls X.K (He.ga X.K cn)) (hn : NoAttr X.K (He.ga X.K cn) f) (ho : RE X W a ma) : RG X (.Attribute a f pos) (gFd cn f ma) := by
  refine ⟨fun pins s σ H v u N I rv ⟨w, st, e, c, e', s', V1, E, R, h, q⟩ => ?_⟩
  have ha : assign (.Attribute a f pos) X.env u = (do
      let ov ← holding [u] (eval a X.env)
      standAt pos.atName
      holding [u, ov] (setAttr ov f u)
      release [u, ov] []) := by rfl
  rw [ha]
  unfold gFd at h
  split at h
  · rename_i o s1 h1
    simp only [Option.map_eq_some_iff] at h
    obtain ⟨s2, h2, h3⟩ := h
    cases h3
    refine wpAny_bind (wpAny_holding (thn (ho.run pins s σ H (fun x H1 => ∃ w1, Fut w H w1 H1 ∧ Rel X.K w1 s1 H1 ∧ VR X.K w1 H1 o x) I ⟨w, st, e, E, R, ?_⟩) fun ov s1' ⟨x, H1, J, rx, w1, F1, R1, Vo⟩ => ?_))
    · rw [h1]
      exact fun w1 H1 F1 R1 x Vx => ⟨w1, F1, R1, Vx⟩
    · obtain ⟨p, dx, vs, rfl, hH, hl, F, R3⟩ := setFA_ok R1 Vo (V1.fut F1) h2
      obtain rfl : ov = Value.ref p := rx
      refine wpAny_bind (wpAny_standAt (wpAny_bind (wpAny_holding (setattr_ok J hH hc hn hl rv fun s3 J3 => ?_))))
      exact wpAny_release ⟨σ, _, J3, q w1 _ σ (F1.trans F) R3 (E.fut (F1.trans F))⟩
  · cases h
/-- target = e -/
def sAsg (g : GX) (m : EM) : SM := fun e s => (m e s).sbind e fun a s => match g a e s with
  | some (e, s) => .nx e s
  | none => .no
theorem asg_read {te : TE} {g : GX} {D : Ends} {σ : L2.St} {H : Hp} (h : tSM X.K W (sAsg g ma) D σ H) : tAsg (tM X.K W ma) (tG X.K g) D σ H := by
  obtain ⟨w, s, e, E, R, h⟩ := h
  exact ⟨w, s, e, E, R, sbind_out E h fun a s1 w1 H1 F1 R1 h1 v V1 => by
    split at h1
    · rename_i e2 s2 hg
      exact ⟨w1, s1, e, a, e2, s2, V1, E.fut F1, R1, hg, fun w2 H2 σ2 F2 R2 E2 => h1 w2 H2 σ2 F2 R2 E2⟩
    · exact h1.elim⟩
theorem rs_asg {g : GX} (ha : RE X W b mb) (hg : RG X a g) (hs : swapsWithSole [a] b pos.line X.env = pure false := by rfl) (hw : swappedStores [a] b X.env = pure none := by rfl) (h1 : (assignEach [a] X.env).map (·.2) = [assign a X.env] := by rfl) : RS X W (.Assign [a] b pos) (sAsg g mb) :=
  (ps_asg ha hg hs hw h1).imp fun D σ H h => asg_read (te := tM X.K W mb) h
/-- x, y = a, b of plain local names -/
def sPar2 (i j : Nat) (ms : AM) : SM := fun e s => (ms e s).sbind e fun xs s => match xs with
  | [a, b] => .nx ((e.set i (some a)).set j (some b)) s
  | _ => .no
theorem rs_par {i j : Nat} {x y : Str} {px py pt pt2 : Pos} {kt k2} (hc : X.calm = true) (hN : X.N.Nodup) (ha : RA X W [a, b] ms) (hi : X.N[i]? = some x := by rfl) (hj : X.N[j]? = some y := by rfl) (hij : i ≠ j := by decide)
    (hx : X.env.scope.names.lookup x = some .local := by rfl) (hy : X.env.scope.names.lookup y = some .local := by rfl)
    (hw : swappedStores [.Tuple [.Name x px, .Name y py] kt pt] (.Tuple [a, b] k2 pt2) X.env = pure (some [x, y]) := by rfl)
    (hs : swapsWithSole [.Tuple [.Name x px, .Name y py] kt pt] (.Tuple [a, b] k2 pt2) pos.line X.env = pure false := by rfl) : RS X W (.Assign [.Tuple [.Name x px, .Name y py] kt pt] (.Tuple [a, b] k2 pt2) pos) (sPar2 i j ms) :=
  (ps_par hc hN hi hj hij hx hy ha hw hs).imp fun D σ H ⟨w, s, e, E, R, h⟩ => ⟨w, s, e, E, R, sbind_out E h fun xs s1 w1 H1 F1 R1 h1 vs V1 => by
    split at h1
    · obtain ⟨u, v, rfl, r1, r2⟩ := V1.two
      exact ⟨u, v, rfl, h1 w1 H1 _ Fut.refl R1 (((E.fut F1).set i r1).set j r2)⟩
    · exact h1.elim⟩
/-- x, y, z = a, b, c -/
def sPar3 (i j l : Nat) (ms : AM) : SM := fun e s => (ms e s).sbind e fun xs s => match xs with
  | [a, b, c] => .nx (((e.set i (some a)).set j (some b)).set l (some c)) s
  | _ => .no
/-- x op= e -/
def ipA (k : Int) : G2 := fun a b s => match a, b with
  | .int i, .int j => some (.int (i + k * j), s)
  | _, _ => none
def sAug (i : Nat) (k : Int) (m : EM) : SM := fun e s => match e[i]? with
  | some (some (.int u)) => (m e s).sbind e fun v s => match v with
    | .int v => .nx (e.set i (some (.int (u + k * v)))) s
    | _ => .no
  | _ => .no
theorem rs_augAdd {i : Nat} (hN : X.N.Nodup) (he : RE X W a ma) (hi : X.N[i]? = some x := by rfl) (hx : Loc X.env.scope x := by first | exact Or.inl rfl | exact Or.inr rfl) (hf : X.fn x = true ∨ X.env.scope.names.lookup x = some .local := by first | exact .inl rfl | exact .inr rfl) :
    RS X W (.AugAssign (.Name x pos') .Add a pos) (sAug i 1 ma) :=
  (ps_aug hN hi hx he ip_add hf).imp fun D σ H ⟨w, s, e, E, R, h⟩ => by
    unfold sAug at h
    split at h
    · rename_i u hu
      obtain ⟨v, h1, h2⟩ := E.get i _ hu
      cases h2
      exact ⟨_, h1, w, s, e, E, R, sbind_out E h fun b s1 w1 H1 F1 R1 h1 vb Vb => by
        split at h1
        · cases Vb
          refine ⟨_, _, rfl, rfl, ?_⟩
          have := h1 w1 H1 _ Fut.refl R1 ((E.fut F1).set i (.int _))
          rw [Int.one_mul] at this
          exact this
        · exact h1.elim⟩
    · exact h.elim
theorem rs_augSub {i : Nat} (hN : X.N.Nodup) (he : RE X W a ma) (hi : X.N[i]? = some x := by rfl) (hx : Loc X.env.scope x := by first | exact Or.inl rfl | exact Or.inr rfl) (hf : X.fn x = true ∨ X.env.scope.names.lookup x = some .local := by first | exact .inl rfl | exact .inr rfl) :
    RS X W (.AugAssign (.Name x pos') .Sub a pos) (sAug i (-1) ma) :=
  (ps_aug hN hi hx he ip_sub hf).imp fun D σ H ⟨w, s, e, E, R, h⟩ => by
    unfold sAug at h
    split at h
    · rename_i u hu
      obtain ⟨v, h1, h2⟩ := E.get i _ hu
      cases h2
      exact ⟨_, h1, w, s, e, E, R, sbind_out E h fun b s1 w1 H1 F1 R1 h1 vb Vb => by
        split at h1
        · cases Vb
          refine ⟨_, _, rfl, rfl, ?_⟩
          rename_i v
          have := h1 w1 H1 _ Fut.refl R1 ((E.fut F1).set i (.int _))
          rw [show u + -1 * v = u - v by omega] at this
          exact this
        · exact h1.elim⟩
    · exact h.elim
/-- o[i] += e, o a list in the store -/
def sAugIx (mo mi me : EM) : SM := fun e s => (mo e s).sbind e fun o s => (mi e s).sbind e fun i s => match o, i with
  | .ref n, .int k => match s[n]? with
    | some (.lst xs) => match (if 0 ≤ k then xs[k.toNat]? else none) with
      | some (.int u) => (me e s).sbind e fun v s => match v with
        | .int v => match setA o i (.int (u + v)) s with
          | some s => .nx e s
          | none => .no
        | _ => .no
      | _ => .no
    | _ => .no
  | _, _ => .no
end
end S
set_option Elab.async false
set_option linter.all false
set_option maxRecDepth 100000
/-! Layer S. SJ: chains, o[i] += e, own calls, methods, instances, defs. -/
namespace S
open PySem PySem.Spec PyProof.Rows L2 StX
section
variable {X : Cx} {W : WX} {a b c : Expr} {es : List Expr} {ma mb mc : EM} {ms : AM} {pos pos' p p2 apos cpos tpos : Pos} {x f m : Str} {cn : Str}
/-! ### chains -/
def eCh (g g' : G2) (ma mb mc : EM) : EM := fun e s => (ma e s).bind fun x s => (mb e s).bind fun y s => match g x y s with
  | some (.bl true, s) => (mc e s).bind fun z s => ofO (g' y z s)
  | some (.bl false, s) => .ok (.bl false) s
  | _ => .no
theorem chain_read {g g' : G2} {σ : L2.St} {H : Hp} {Q : VK} (h : tM X.K W (eCh g g' ma mb mc) σ H Q) : tChain (rM2 X.K g) (rM2 X.K g') (tM X.K W ma) (tM X.K W mb) (tM X.K W mc) σ H Q := by
  obtain ⟨w, s, e, E, R, h⟩ := h
  refine ⟨w, s, e, E, R, h.bind fun a s1 w1 H1 F1 R1 h1 v V1 => ⟨w1, s1, e, E.fut F1, R1, h1.bind fun b s2 w2 H2 F2 R2 h2 u V2 => ?_⟩⟩
  split at h2
  · rename_i s3 hg
    refine ⟨w2, s2, a, b, _, s3, V1.fut F2, V2, R2, hg, fun w3 H3 z F3 R3 Vz => ?_⟩
    cases Vz
    exact ⟨true, rfl, iteT ⟨w3, s3, e, ((E.fut F1).fut F2).fut F3, R3, (h2.fut F3).bind fun c s4 w4 H4 F4 R4 h4 vc Vc => by
      obtain ⟨r, s', e', q⟩ := ofO_out h4
      exact ⟨w4, s4, b, c, r, s', (V2.fut F3).fut F4, Vc, R4, e', q⟩⟩⟩
  · rename_i s3 hg
    refine ⟨w2, s2, a, b, _, s3, V1.fut F2, V2, R2, hg, fun w3 H3 z F3 R3 Vz => ?_⟩
    cases Vz
    exact ⟨false, rfl, iteF ((h2.fut F3).ok R3 _ (.bl false))⟩
  · exact h2.elim
theorem re_chain {op op' : CmpOp} {g g' : G2} (ho : OpR X (compareOp op) (rM2 X.K g)) (ho' : OpR X (compareOp op') (rM2 X.K g')) (ha : RE X W a ma) (hb : RE X W b mb) (hc : RE X W c mc) (hm : lastMarks [op, op'] [b, c] = false := by with_unfolding_all rfl) :
    RE X W (.Compare a [op, op'] [b, c] pos) (eCh g g' ma mb mc) := (pe_chain ho ho' ha hb hc hm).imp fun _ _ _ h => chain_read h
theorem rt_chain {op op' : CmpOp} {g g' : G2} (ho : OpR X (compareOp op) (rM2 X.K g)) (ho' : OpR X (compareOp op') (rM2 X.K g')) (ha : RE X W a ma) (hb : RE X W b mb) (hc : RE X W c mc) (hm : lastMarks [op, op'] [b, c] = false := by with_unfolding_all rfl) :
    RT X W (.Compare a [op, op'] [b, c] pos) (asB (eCh g g' ma mb mc)) := (pt_chain ho ho' ha hb hc hm).imp fun σ H Q h => by
  have h' : tM X.K W (eCh g g' ma mb mc) σ H fun x H' => ∃ k, x = .bl k ∧ Q k H' := by
    obtain ⟨w, s, e, E, R, h⟩ := h
    refine ⟨w, s, e, E, R, h.bind fun a s1 w1 H1 F1 R1 h1 v V1 => ?_⟩
    cases V1 <;> first | exact h1.elim | exact ⟨_, rfl, h1.ok R1⟩
  exact chain_read h'

/-! ### o[i] += e -/
def rGetL (K : PySem.W.Frag) : V → V → Hp → VK → Prop := fun o i H Q => ∃ p xs k z, o = .ref p ∧ i = .int k ∧ 0 ≤ k ∧ H p = some (.lst xs) ∧ xs[k.toNat]? = some z ∧ Q z H
theorem get_S : PGet X (rGetL X.K) := by
  intro pins s σ H o i ov iv Q I ro ri ⟨p, xs, k, z, eo, ei, h0, hp, hz, q⟩
  subst eo ei
  obtain rfl : ov = Value.ref p := ro
  obtain ⟨t, rfl⟩ := ri
  obtain ⟨its, rv, pl, hn⟩ := I.list (SqL.of hp)
  obtain ⟨u, hu, ru⟩ := rv.get hz
  have hl := (List.getElem?_eq_some_iff.mp hz).1
  have h63 := line63
  exact getItem_listL pl.isList h0 (by omega) hu ⟨z, H, I, ru, q⟩
theorem rs_augIx (hu : X.A.units + 1 < cLine) (ho : RE X W a ma) (hi : RE X W b mb) (he : RE X W c mc)
    (ha : ∀ ov iv new, augStore b ov iv new = (do holding [new, ov, iv] (setItem ov iv new); release [new, ov, iv] []; pure .next) := by intros; rfl) : RS X W (.AugAssign (.Subscript a b tpos) .Add c pos) (sAugIx ma mb mc) :=
  (ps_augS ho hi get_S he ip_add (set_S hu) ha).imp fun D σ H ⟨w, s, e, E, R, h⟩ => ⟨w, s, e, E, R, sbind_out E h fun o s1 w1 H1 F1 R1 h1 vo Vo => ⟨w1, s1, e, E.fut F1, R1, sbind_out (E.fut F1) h1 fun i s2 w2 H2 F2 R2 h2 vi Vi => by
    split at h2
    · rename_i n k
      split at h2
      · rename_i xs hs
        split at h2
        · rename_i u hx
          split at hx
          · rename_i h0
            cases Vi
            have Vo2 := Vo.fut F2
            cases Vo2 with
            | ref hn =>
              obtain ⟨uo, huo, o'⟩ := R2.ob _ _ _ hn hs
              cases o' with
              | lst t =>
                obtain ⟨z, hz, vz⟩ := t.get hx
                cases vz
                refine ⟨_, _, k, _, rfl, rfl, h0, huo, hz, w2, s2, e, (E.fut F1).fut F2, R2, sbind_out ((E.fut F1).fut F2) h2 fun v s3 w3 H3 F3 R3 h3 vv Vv => ?_⟩
                split at h3
                · cases Vv
                  refine ⟨_, _, rfl, rfl, ?_⟩
                  split at h3
                  · rename_i s4 hs4
                    exact ⟨w3, s3, .ref n, .int k, _, s4, (VR.ref hn).fut F3, .int k, .int _, R3, hs4, fun w4 H4 F4 R4 => h3 w4 H4 σ F4 R4 ((((E.fut F1).fut F2).fut F3).fut F4)⟩
                  · exact h3.elim
                · exact h3.elim
          · cases hx
        · exact h2.elim
      · exact h2.elim
    · exact h2.elim⟩⟩
end
end S
set_option Elab.async false
set_option linter.all false
set_option maxRecDepth 100000
/-! Layer S. SK: own calls, methods, instances, defs. -/
namespace S
open PySem PySem.Spec PyProof.Rows L2 StX
/-- what a def does, as a promise -/
def spM (K : PySem.W.Frag) (fm : Fn) : Sp := fun vs H Q E => ∃ w s as, VRs K w H as vs ∧ Rel K w s H ∧ Out K w H E (fun w' H' a => ∀ v, VR K w' H' a v → Q v H') (fm as s)
def startA (N : Nat) (as : List AV) : AE := as.map some ++ List.replicate (N - as.length) none
/-- a def by its body: n parameters, N slots -/
def fnM (n N : Nat) (m : SM) : Fn := fun as s => if as.length = n then (match m (startA N as) s with
  | .nx _ s => .ok .non s
  | .rt a s => .ok a s
  | .exc c fs _ s => .exc c fs s
  | _ => .no) else .no
theorem spM_len {K : PySem.W.Frag} {n N : Nat} {m : SM} {vs : List V} {H : Hp} {Q : VK} {E : XK} (h : spM K (fnM n N m) vs H Q E) : vs.length = n := by
  obtain ⟨w, s, as, r, _, o⟩ := h
  unfold fnM at o
  split at o
  · rename_i hl; rw [← r.length]; exact hl
  · exact o.elim
theorem VRs.at {K : PySem.W.Frag} {w : Wd} {H : Hp} : ∀ {as : List AV} {vs : List V} (i : Nat), VRs K w H as vs → ∀ a, as[i]? = some a → ∃ v, vs[i]? = some v ∧ VR K w H a v := fun i r a h => r.get h
theorem start_er {K : PySem.W.Frag} {w : Wd} {H : Hp} {as : List AV} {vs : List V} (r : VRs K w H as vs) (N : List Str) : ER K w H (startA N.length as) (L2.start N vs) := by
  have hl := r.length
  refine ⟨by unfold startA L2.start; simp [hl], fun i a h => ?_⟩
  unfold startA at h
  unfold L2.start
  by_cases hi : i < as.length
  · rw [List.getElem?_append_left (by simpa using hi)] at h
    rw [List.getElem?_append_left (by simpa using (by omega : i < vs.length))]
    rw [List.getElem?_map] at h ⊢
    cases e : as[i]? with
    | none => rw [e] at h; cases h
    | some a' =>
      rw [e] at h
      cases h
      obtain ⟨v, hv, q⟩ := r.get e
      exact ⟨v, by rw [hv]; rfl, q⟩
  · rw [List.getElem?_append_right (by simpa using Nat.le_of_not_lt hi), List.getElem?_replicate] at h
    split at h <;> cases h
/-- the body's end is the def's end -/
theorem body_out {K : PySem.W.Frag} {w : Wd} {H : Hp} {E : XK} {Q : VK} {n N : Nat} {m : SM} {as : List AV} {s : Sto} (h : Out K w H E (fun w' H' a => ∀ v, VR K w' H' a v → Q v H') (fnM n N m as s)) :
    SOut K w H (fun c d _ H' => E c d H') { nx := fun _ H' => Q .non H', rt := Q } (m (startA N as) s) := by
  unfold fnM at h
  split at h
  · cases e : m (startA N as) s with
    | nx e1 s1 => rw [e] at h; exact fun w' H' σ F R _ => h w' H' F R _ .non
    | rt a s1 => rw [e] at h; exact fun w' H' v F R V => h w' H' F R v V
    | bk e1 s1 => rw [e] at h; exact h.elim
    | ct e1 s1 => rw [e] at h; exact h.elim
    | exc c fs e1 s1 => rw [e] at h; exact fun w' H' σ d F R _ x => h w' H' d F R x
    | no => rw [e] at h; exact h.elim
  · exact h.elim
/-- THE RULE for a def -/
theorem fn_ok {P : Program} {w : World} {K : PySem.W.Frag} {mg : Str → Option Value} {base : Heap} {x qual : Str} {params : Arguments} {body : List Stmt} {scope : Scope} {f : Addr} {fd : FuncData} {N ps : List Str} {k : Nat} {m : SM}
    (F : FunD K x qual params body scope [] [] f fd) (S : FnScope N ps scope)
    (hb : ∀ (cdv : Value) (A : Around) (outer : List Env) (s : Shared) (H : Hp) (E : XK), Room k (A.deeper (envOfC qual scope s.heap.objs.size f cdv)) → Takes (cxOf (L2.CX P w) P w K mg base N qual scope f cdv A outer s H E) (fun c d _ H' => E c d H') →
      RSs (cxOf (L2.CX P w) P w K mg base N qual scope f cdv A outer s H E) (fun c d _ H' => E c d H') body m) : FnOk P w K mg base (L2.CX P w) (k + 1) f fd ps (spM K (fnM ps.length N.length m)) :=
  F.ok S (fun _ _ _ _ h => spM_len h) fun cdv A outer s H vs Q E hr hsp => ⟨_, hb cdv A outer s H E hr (takes_of rfl rfl rfl rfl), by
    obtain ⟨w, st, as, r, R, o⟩ := hsp
    exact ⟨w, st, _, start_er r N, R, body_out o⟩⟩
section
variable {X : Cx} {W : WX} {a b c : Expr} {es : List Expr} {ma mb mc : EM} {ms : AM} {pos p apos cpos : Pos} {x f m cn : Str} {k : Nat} {g C : Addr} {fd : FuncData} {ps : List Str} {fm : Fn}
/-- f(..) -/
def eFn (fm : Fn) (ms : AM) : EM := fun e s => (ms e s).bind fm
theorem fn_read {σ : L2.St} {H : Hp} {Q : VK} (h : tM X.K W (eFn fm ms) σ H Q) : tAM X.K W ms σ H fun vs H1 => spM X.K fm vs H1 Q (WE W σ) := by
  obtain ⟨w, s, e, E, R, h⟩ := h
  exact ⟨w, s, e, E, R, h.bind fun as s1 w1 H1 F1 R1 h1 vs V1 => ⟨w1, s1, as, V1, R1, h1⟩⟩
theorem re_call (F : FnOk X.prog X.w X.K X.mg X.base (L2.CX X.prog X.w) k g fd ps (spM X.K fm)) (hr : Room k X.A) (hm : X.mg x = some (.ref g)) (hk : PySem.W.keepIn X.K (.ref g) = true) (hb : Binds X.K fd ps []) (tk : Takes X W) (ha : RA X W (a :: es) ms) (hg : Gl X x := by rfl)
    (hdb : (x == ("__debug__" : Str)) = false := by decide) (he : starEach (a :: es) X.env = (false, eval a X.env) :: starEach es X.env := by rfl) (hpl : (backTo pos (starEach es X.env)).any (·.1) = false := by rfl) : RE X W (.Call (.Name x p) (a :: es) [] pos) (eFn fm ms) :=
  (pe_callS F hr hg hm hk hb (passAt tk) ha hdb he hpl).imp fun _ _ _ h => fn_read h
/-- no exception comes out of it -/
def noX (r : Res AV) : Res AV := match r with
  | .exc _ _ _ => .no
  | r => r
theorem noX_out {K : PySem.W.Frag} {w : Wd} {H : Hp} {E : XK} {P : Wd → Hp → AV → Prop} {r : Res AV} (h : Out K w H E P (noX r)) : Out K w H (fun _ _ _ => False) P r := by
  cases r with
  | ok a s => exact h
  | exc c fs s => exact h.elim
  | no => exact h.elim
theorem pass_no : Passes (L2.CX X.prog X.w) X (fun _ _ _ => False) := fun _ _ _ _ _ _ _ ⟨_, _, _, _, _, _, _, _, _, _, _, _, z⟩ => z.elim
/-- a call out of which no exception comes: everywhere -/
def eFnN (fm : Fn) (ms : AM) : EM := fun e s => (ms e s).bind fun xs s => noX (fm xs s)
theorem re_callN (F : FnOk X.prog X.w X.K X.mg X.base (L2.CX X.prog X.w) k g fd ps (spM X.K fm)) (hr : Room k X.A) (hm : X.mg x = some (.ref g)) (hk : PySem.W.keepIn X.K (.ref g) = true) (hb : Binds X.K fd ps []) (ha : RA X W (a :: es) ms) (hg : Gl X x := by rfl)
    (hdb : (x == ("__debug__" : Str)) = false := by decide) (he : starEach (a :: es) X.env = (false, eval a X.env) :: starEach es X.env := by rfl) (hpl : (backTo pos (starEach es X.env)).any (·.1) = false := by rfl) : RE X W (.Call (.Name x p) (a :: es) [] pos) (eFnN fm ms) :=
  (pe_call F hr hg hm hk hb .nil pass_no ha hdb he hpl).imp fun σ H Q ⟨w, s, e, E, R, h⟩ => ⟨w, s, e, E, R, h.bind fun as s1 w1 H1 F1 R1 h1 vs V1 => ⟨w1, s1, as, by rw [List.append_nil]; exact V1, R1, noX_out h1⟩⟩
/-- a local name that holds a def -/
def eCallL (i : Nat) (y : Str) (fm : Fn) (ms : AM) : EM := fun e s => match e[i]? with
  | some (some (.fn z)) => if z = y then (ms e s).bind fun xs s => noX (fm xs s) else .no
  | _ => .no
/-- one of several defs -/
def eCallA (i : Nat) (T : List (Str × Fn)) (ms : AM) : EM := fun e s => match e[i]? with
  | some (some (.fn z)) => match T.lookup z with
    | some fm => (ms e s).bind fun xs s => noX (fm xs s)
    | none => .no
  | _ => .no
structure HeldS (X : Cx) (k : Nat) (z : Str) (fm : Fn) : Prop where
  ex : ∃ (fd : FuncData) (ps : List Str), FnOk X.prog X.w X.K X.mg X.base (L2.CX X.prog X.w) k (He.ga X.K z) fd ps (spM X.K fm) ∧ PySem.W.keepIn X.K (.ref (He.ga X.K z)) = true ∧ Binds X.K fd ps []
theorem re_callA {i : Nat} {T : List (Str × Fn)} (hT : ∀ z fm, T.lookup z = some fm → HeldS X k z fm) (hr : Room k X.A) (ha : RA X W (a :: es) ms) (hN : X.N[i]? = some x := by rfl) (hv : Vis X.env.scope x := by first | exact Or.inl rfl | exact Or.inr (Or.inl rfl) | exact Or.inr (Or.inr rfl))
    (hdb : (x == ("__debug__" : Str)) = false := by decide) (hcd : (x == ("__classdict__" : Str)) = false := by decide)
    (he : starEach (a :: es) X.env = (false, eval a X.env) :: starEach es X.env := by rfl) (hpl : (backTo pos (starEach es X.env)).any (·.1) = false := by rfl) : RE X W (.Call (.Name x p) (a :: es) [] pos) (eCallA i T ms) := by
  refine ⟨fun pins s σ H Q I h => ?_⟩
  obtain ⟨w, st, e, E, R, h⟩ := h
  unfold eCallA at h
  split at h
  · rename_i z hz
    split at h
    · rename_i fm hfm
      obtain ⟨fd, ps, F, hk, hb⟩ := (hT z fm hfm).ex
      obtain ⟨v, h1, h2⟩ := E.get i _ hz
      cases h2
      refine (pe_callL (i := i) F hr hN hv hk hb .nil pass_no ha hdb hcd he hpl).run pins s σ H Q I ⟨h1, ?_⟩
      exact ⟨w, st, e, E, R, h.bind fun as s1 w1 H1 F1 R1 h1 vs V1 => ⟨w1, s1, as, by rw [List.append_nil]; exact V1, R1, noX_out h1⟩⟩
    · exact h.elim
  · exact h.elim
/-- o.m(..) -/
def eMeth (cn m : Str) (fm : Fn) (mo : EM) (ms : AM) : EM := fun e s => (mo e s).bind fun o s => match insA cn o s with
  | some (_, fs) => match fldA fs m with
    | none => (ms e s).bind fun xs s => noX (fm (o :: xs) s)
    | some _ => .no
  | none => .no
theorem meth_read {σ : L2.St} {H : Hp} {Q : VK} (h : tM X.K W (eMeth cn m fm ma ms) σ H Q) : tMeth (He.ga X.K cn) m (spM X.K fm) [] (fun _ _ _ => False) (tM X.K W ma) (tAM X.K W ms) σ H Q := by
  obtain ⟨w, s, e, E, R, h⟩ := h
  refine ⟨w, s, e, E, R, h.bind fun o s1 w1 H1 F1 R1 h1 x V1 => ?_⟩
  split at h1
  · rename_i n fs hi
    obtain ⟨rfl, hs, p, dx, vs, rfl, hp, hH, kr⟩ := insA_ok R1 V1 hi
    split at h1
    · rename_i hf
      exact ⟨p, dx, vs, rfl, hH, (kr.fld m).none_iff hf, w1, s1, e, E.fut F1, R1, h1.bind fun as s2 w2 H2 F2 R2 h2 us V2 => ⟨w2, s2, _ :: as, by rw [List.append_nil]; exact .cons (V1.fut F2) V2, R2, noX_out h2⟩⟩
    · exact h1.elim
  · exact h1.elim
theorem re_meth {pl : Sem Bool} (hc : Cls X.K (He.ga X.K cn)) (hm : Meth X.K (He.ga X.K cn) m g) (F : FnOk X.prog X.w X.K X.mg X.base (L2.CX X.prog X.w) k g fd ps (spM X.K fm)) (hr : Room k X.A) (hb : Binds X.K fd ps []) (ho : RE X W a ma) (ha : RA X W (b :: es) ms)
    (hst : starEach (b :: es) X.env = (false, eval b X.env) :: starEach es X.env := by rfl) (hpl : (backTo pos (starEach es X.env)).any (·.1) = false := by rfl)
    (ht : eval (.Call (.Attribute a m apos) (b :: es) [] pos) X.env = (do
      let ov ← eval a X.env
      standAt apos.atName
      let (f, first) ← holding [ov] (getMethod ov m pl)
      callWith pos f first (backTo pos (starEach (b :: es) X.env)) (backToKw pos (keywordEach [] X.env))) := by rfl) : RE X W (.Call (.Attribute a m apos) (b :: es) [] pos) (eMeth cn m fm ma ms) :=
  (pe_meth (pl := pl) ho hc hm F hr hb .nil pass_no ha hst hpl ht).imp fun _ _ _ h => meth_read h
theorem re_meth0 {pl : Sem Bool} (hc : Cls X.K (He.ga X.K cn)) (hm : Meth X.K (He.ga X.K cn) m g) (F : FnOk X.prog X.w X.K X.mg X.base (L2.CX X.prog X.w) k g fd ps (spM X.K fm)) (hr : Room k X.A) (hb : Binds X.K fd ps []) (ho : RE X W a ma)
    (ht : eval (.Call (.Attribute a m apos) [] [] pos) X.env = (do
      let ov ← eval a X.env
      standAt apos.atName
      let (f, first) ← holding [ov] (getMethod ov m pl)
      callWith pos f first (backTo pos (starEach [] X.env)) (backToKw pos (keywordEach [] X.env))) := by rfl) : RE X W (.Call (.Attribute a m apos) [] [] pos) (eMeth cn m fm ma aNil) :=
  (pe_meth0 (pl := pl) ho hc hm F hr hb .nil pass_no ht).imp fun σ H Q h => by
    have h2 := meth_read h
    obtain ⟨w, s, e, E, R, h⟩ := h2
    refine ⟨w, s, e, E, R, h.imp fun w1 H1 o k v V => ?_⟩
    obtain ⟨p, dx, vs, e1, e2, e3, w2, s2, e', E2, R2, h4⟩ := k v V
    exact ⟨p, dx, vs, e1, e2, e3, h4.ok R2 [] .nil⟩
/-- C(..) -/
def eMake (cn : Str) (fm : Fn) (ms : AM) : EM := fun e s => (ms e s).bind fun xs s => match fm (.ref s.length :: xs) (s ++ [.ins cn []]) with
  | .ok .non s' => .ok (.ref s.length) s'
  | _ => .no
theorem re_make (M : Mk X.K (He.ga X.K cn) g) (F : FnOk X.prog X.w X.K X.mg X.base (L2.CX X.prog X.w) k g fd ps (spM X.K fm)) (hr : Room (k + 1) X.A) (hm : X.mg x = some (.ref (He.ga X.K cn))) (hb : Binds X.K fd ps []) (ha : RA X W (a :: es) ms) (hg : Gl X x := by rfl)
    (hdb : (x == ("__debug__" : Str)) = false := by decide) (he : starEach (a :: es) X.env = (false, eval a X.env) :: starEach es X.env := by rfl) (hpl : (backTo pos (starEach es X.env)).any (·.1) = false := by rfl) : RE X W (.Call (.Name x p) (a :: es) [] pos) (eMake cn fm ms) :=
  (pe_make M F hr hg hm hb .nil pass_no ha hdb he hpl).imp fun σ H Q ⟨w, s, e, E, R, h⟩ => ⟨w, s, e, E, R, h.bind fun as s1 w1 H1 F1 R1 h1 vs V1 y dx n1 n2 ne => by
    have R2 := R1.lay (u := .own y) n2
    have n3 : upd H1 dx (.own y) y = none := by rw [upd_ne (Ne.symm ne)]; exact n1
    have F2 := Fut.lay (w := w1) (H := H1) (u := .own y) n2
    have F3 := Fut.add (w := w1) (H := upd H1 dx (.own y)) (p := y) (u := .ins (He.ga X.K cn) dx []) n3
    have R3 := R2.add (o := .ins cn []) (u := .ins (He.ga X.K cn) dx []) n3 (.ins .nil)
    refine ⟨w1.add y, s1 ++ [.ins cn []], .ref s1.length :: as, ?_, R3, ?_⟩
    · rw [List.append_nil]
      exact .cons (VR.add R2) ((V1.fut F2).fut F3)
    · split at h1
      · rename_i s2 hs2
        rw [hs2]
        intro w4 H4 F4 R4 v V4
        cases V4
        have V5 : VR X.K (w1.add y) (upd (upd H1 dx (.own y)) y (.ins (He.ga X.K cn) dx [])) (.ref s1.length) (.ref y) := VR.add R2
        exact ⟨rfl, h1 w4 H4 (F2.trans (F3.trans F4)) R4 _ (V5.fut F4)⟩
      · exact h1.elim⟩
end
end S
set_option Elab.async false
set_option linter.all false
set_option maxRecDepth 100000
/-! Layer S. SL: zip over lists and tuples in any mix, enumerate over a tuple, as things walked. -/
namespace S
open PySem PySem.Spec PyProof.Rows L2 StX
/-- a list (false), a tuple (true) -/
def SqK (b : Bool) (K : PySem.W.Frag) (H : Hp) (a : Addr) (xs : List V) : Prop := if b then SqT K H a xs else SqL K H a xs
def ItK (b : Bool) (h : Heap) (it l : Addr) (i : Nat) : Prop := if b then h.IsTupleIter it l i else h.IsListIter it l i
def VlK (b : Bool) (h : Heap) (l : Addr) (xs : Array Value) : Prop := if b then h.IsTuple l xs else h.IsList l xs
def itO (b : Bool) (l : Addr) : Obj := if b then { cls := .type "tuple_iterator", data := .fields #[.ref l, .int 0 0] } else { cls := .type "list_iterator", data := .fields #[.ref l, .int 0 0] }
theorem drawsK {prog : Program} {w : World} {A : Around} (hh : A.handled = none) (b : Bool) (it l : Addr) (hne : l ≠ it) (xs : Array Value) : Draws prog w A it [it, l] xs.size (fun i v => xs[i]? = some v) (fun i h => ItK b h it l i ∧ VlK b h l xs) := by
  cases b with
  | true => exact Draws.tuple hh it l hne xs
  | false => exact Draws.list hh it l hne xs
theorem beginsK (b : Bool) (l : Addr) (xs : Array Value) : Begins (.ref l) (itO b l) fun h => VlK b h l xs := by
  cases b with
  | true => exact begins_tuple l xs
  | false => exact begins_list l xs
section
variable {X : Cx} {pins : List (Addr × Obj)} {σ : L2.St} {H : Hp} {s : Shared} {b : Bool} {a : Addr} {xs ys : List V}
theorem seqK (I : Inv X pins σ H s) (h : SqK b X.K H a xs) : ∃ its : List Value, Vals xs its ∧ VlK b s.heap a its.toArray := by
  cases b with
  | true =>
    obtain ⟨its, r, p, _⟩ := I.tuple (show SqT X.K H a xs from h)
    exact ⟨its, r, p⟩
  | false =>
    obtain ⟨its, r, p, _⟩ := I.list (show SqL X.K H a xs from h)
    exact ⟨its, r, p.isList⟩
theorem injK (I : Inv X pins σ H s) (h : SqK b X.K H a xs) (h' : SqK b X.K H a ys) : xs = ys := by
  cases b with
  | true => exact I.tuple_inj (show SqT X.K H a xs from h) (show SqT X.K H a ys from h')
  | false => exact I.list_inj (show SqL X.K H a xs from h) (show SqL X.K H a ys from h')
theorem VlK.lt {h : Heap} {xs : Array Value} (q : VlK b h a xs) : a < h.objs.size := by
  cases b with
  | true => obtain ⟨o, ho, _⟩ := (show h.IsTuple a xs from q); exact Heap.lt_size ho
  | false => obtain ⟨o, ho, _⟩ := (show h.IsList a xs from q); exact Heap.lt_size ho
theorem ItK.obj {h : Heap} {it l : Addr} {i : Nat} (q : ItK b h it l i) : ∃ o, h.get? it = some o ∧ ∀ v, o.data ≠ .cell v := by
  cases b with
  | true => obtain ⟨o, ho, _, hd⟩ := (show h.IsTupleIter it l i from q); exact ⟨o, ho, fun v z => by rw [hd] at z; cases z⟩
  | false => obtain ⟨o, ho, _, hd⟩ := (show h.IsListIter it l i from q); exact ⟨o, ho, fun v z => by rw [hd] at z; cases z⟩
theorem ItK.at {h h' : Heap} {it l : Addr} {i : Nat} (q : ItK b h it l i) (k : ∀ o, h.get? it = some o → h'.get? it = some o) : ItK b h' it l i := by
  cases b with
  | true => exact Heap.IsTupleIter.at (show h.IsTupleIter it l i from q) k
  | false => exact Heap.IsListIter.at (show h.IsListIter it l i from q) k
theorem itK_new {h : Heap} {it l : Addr} (e : h.get? it = some (itO b l)) : ItK b h it l 0 := by
  cases b with
  | true => exact ⟨_, e, rfl, rfl⟩
  | false => exact ⟨_, e, rfl, rfl⟩
end
/-- zip of two things, as they stand at each turn, the items in new pairs -/
def ItzK (b1 b2 : Bool) (K : PySem.W.Frag) (a b : Addr) : It :=
  ⟨fun i H => ∃ (xs ys : List V) (x y : V), SqK b1 K H a xs ∧ SqK b2 K H b ys ∧ xs[i]? = some x ∧ ys[i]? = some y,
    fun i H v H' => ∃ T x y, v = .ref T ∧ H T = none ∧ H' = upd H T (.tup [x, y]) ∧ (∀ xs, SqK b1 K H a xs → xs[i]? = some x) ∧ ∀ ys, SqK b2 K H b ys → ys[i]? = some y,
    fun i H => ∃ xs ys : List V, SqK b1 K H a xs ∧ SqK b2 K H b ys ∧ i ≤ xs.length ∧ i ≤ ys.length ∧ (i = xs.length ∨ i = ys.length)⟩
/-- the zip's cells -/
def ZipSt (b1 b2 : Bool) (a b z TI TO i1 i2 : Addr) (i : Nat) (h : Heap) : Prop := IsZip h z TI TO .none ∧ IsTupOf2 h TI (.ref i1) (.ref i2) ∧ (∃ x y, IsTupOf2 h TO x y) ∧ ItK b1 h i1 a i ∧ ItK b2 h i2 b i
theorem turn_zipK {P : Program} {w : World} {K : PySem.W.Frag} {elts : List Expr} {kk : Nat} {tpos : Pos} {b1 b2 : Bool} {a b z TI TO i1 i2 : Addr} (D : ZipSep2 z TI TO i1 i2 [i1, a] [i2, b]) (n1 : a ≠ i1) (n2 : b ≠ i2) :
    Turn P w K (.Tuple elts kk tpos) (ItzK b1 b2 K a b) [z, TI, TO, i1, i2] z (ZipSt b1 b2 a b z TI TO i1 i2) where
  mem := by simp
  obj := fun i h ⟨hz, hTI, ⟨x, y, hTO⟩, h1, h2⟩ c hc => by
    have hc' : c = z ∨ c = TI ∨ c = TO ∨ c = i1 ∨ c = i2 := by simpa using hc
    rcases hc' with rfl | rfl | rfl | rfl | rfl
    · exact ⟨_, hz, fun v q => nomatch q⟩
    · exact ⟨_, hTI, fun v q => nomatch q⟩
    · exact ⟨_, hTO, fun v q => nomatch q⟩
    · exact h1.obj
    · exact h2.obj
  keep := fun i h h' ⟨hz, hTI, ⟨x, y, hTO⟩, h1, h2⟩ k => ⟨k z (by simp) _ hz, k TI (by simp) _ hTI, ⟨x, y, k TO (by simp) _ hTO⟩, h1.at fun o q => k i1 (by simp) o q, h2.at fun o q => k i2 (by simp) o q⟩
  item := by
    intro X hP hw hK hc i pins s σ H E I hf ⟨hz, hTI, ⟨x0, y0, hTO⟩, h1, h2⟩ ⟨xs, ys, x, y, hqx, hqy, hx, hy⟩
    subst hP hw hK
    obtain ⟨us, ru, pu⟩ := seqK I hqx
    obtain ⟨vs, rv, pv⟩ := seqK I hqy
    obtain ⟨u, hu, qu⟩ := ru.get hx
    obtain ⟨v, hv, qv⟩ := rv.get hy
    have zl : z < s.heap.objs.size := Heap.lt_size hz
    have l1 := (List.getElem?_eq_some_iff.mp hu).1
    have l2 := (List.getElem?_eq_some_iff.mp hv).1
    refine wpAny_pyNext_zipD2_item D (drawsK (A := X.A.in1) (I.ok.hd hc) b1 i1 a n1 us.toArray) (drawsK (A := X.A.in1) (I.ok.hd hc) b2 i2 b n2 vs.toArray) hz hTI hTO ⟨h1, pu⟩ ⟨h2, pv⟩ (by simpa using l1) (by simpa using l2) fun x1 x2 h' tk e1 e2 z1 t1 s1 s2 hT hs hk => ?_
    have e1' : x1 = u := by
      have e : us[i]? = some x1 := by simpa using e1
      rw [hu] at e; exact (Option.some.inj e).symm
    have e2' : x2 = v := by
      have e : vs[i]? = some x2 := by simpa using e2
      rw [hv] at e; exact (Option.some.inj e).symm
    subst e1' e2'
    refine ⟨_, rfl, wpAny_letOwnedTupleGo_zip (s := { s with heap := h', toks := tk }) z1 fun h'' z2 sb => ?_⟩
    have hT2 : h''.get? s.heap.objs.size = some { cls := .type "tuple", data := .seq #[x1, x2] } := (sb.2 _ (Nat.ne_of_gt zl)).trans hT
    have new : ObjOk X.prog X.w (upd H s.heap.objs.size (.tup [x, y])) h'' s.heap.objs.size (.tup [x, y]) := ⟨by show 2 ≤ sizeLine; decide, [x1, x2], .cons qu (.cons qv .nil), ⟨_, hT2, rfl, _, rfl⟩⟩
    have J : Inv X pins σ (upd H s.heap.objs.size (.tup [x, y])) { s with heap := h'', toks := tk } :=
      I.turnedNew (ch := [z, TI, TO, i1, i2]) (fun c o hb q => by
        have n : c ≠ z ∧ c ≠ TI ∧ c ≠ TO ∧ c ≠ i1 ∧ c ≠ i2 := by simpa using hb
        exact (sb.2 c n.1).trans (hk c o n.1 n.2.2.1 n.2.2.2.1 n.2.2.2.2 q)) hf (Nat.le_refl _) new
    refine ⟨.ref s.heap.objs.size, _, J, rfl, ⟨_, x, y, rfl, I.hok.fresh (Nat.le_refl _), rfl, fun l hl => by rw [injK I hl hqx]; exact hx, fun l hl => by rw [injK I hl hqy]; exact hy⟩, ⟨z2, ?_, ⟨x1, x2, ?_⟩, ?_, ?_⟩, fun c hcm => ?_⟩
    · exact (sb.2 _ D.TIz).trans (hk _ _ D.TIz D.TITO D.TIi1 D.TIi2 hTI)
    · exact (sb.2 _ D.TOz).trans t1
    · exact s1.1.at fun o q => (sb.2 _ D.zi1.symm).trans q
    · exact s2.1.at fun o q => (sb.2 _ D.zi2.symm).trans q
    · have hlt : c < s.heap.objs.size := by
        have hc' : c = z ∨ c = TI ∨ c = TO ∨ c = i1 ∨ c = i2 := by simpa using hcm
        rcases hc' with rfl | rfl | rfl | rfl | rfl
        · exact zl
        · exact Heap.lt_size hTI
        · exact Heap.lt_size hTO
        · obtain ⟨_, q, _⟩ := h1.obj; exact Heap.lt_size q
        · obtain ⟨_, q, _⟩ := h2.obj; exact Heap.lt_size q
      rw [upd_ne (Nat.ne_of_lt hlt)]
      exact (hf c hcm).1
  done := by
    intro X hP hw hK hc i pins s σ H E I hf ⟨hz, hTI, ⟨x0, y0, hTO⟩, h1, h2⟩ ⟨xs, ys, hqx, hqy, m1, m2, hend⟩
    subst hP hw hK
    obtain ⟨us, ru, pu⟩ := seqK I hqx
    obtain ⟨vs, rv, pv⟩ := seqK I hqy
    have k1 := ru.length
    have k2 := rv.length
    refine wpAny_pyNext_zipD2_end D (drawsK (A := X.A.in1) (I.ok.hd hc) b1 i1 a n1 us.toArray) (drawsK (A := X.A.in1) (I.ok.hd hc) b2 i2 b n2 vs.toArray) hz hTI hTO ⟨h1, pu⟩ ⟨h2, pv⟩ (by simp; omega) (by simp; omega) (by simp; omega) fun h' tk hk => ⟨rfl, I.turnedL (ch := [z, TI, TO, i1, i2]) (fun c o hb q => ?_) hf⟩
    have n : c ≠ z ∧ c ≠ TI ∧ c ≠ TO ∧ c ≠ i1 ∧ c ≠ i2 := by simpa using hb
    exact hk c o n.1 n.2.2.1 n.2.2.2.1 n.2.2.2.2 q
  self := fun A i s Q E st h => wpAny_pyIter_zip st.1 h
def iZipK (b1 b2 : Bool) (K : PySem.W.Frag) (ta : TA) : TI := fun σ H R => ta σ H fun vs H1 => ∃ a b xs ys, vs = [.ref a, .ref b] ∧ SqK b1 K H1 a xs ∧ SqK b2 K H1 b ys ∧ R (ItzK b1 b2 K a b) H1
theorem pi_zipK {X : Cx} {b1 b2 : Bool} {e e2 : Expr} {ta : TA} {p pos tpos : Pos} {elts : List Expr} {kk : Nat} (hg : Gl X "zip") (hm : X.mg "zip" = none) (ha : PA X [e, e2] ta)
    (hs : starEach [e, e2] X.env = (false, eval e X.env) :: starEach [e2] X.env) (hpl : (backTo pos (starEach [e2] X.env)).any (·.1) = false) : PI X (.Tuple elts kk tpos) (.Call (.Name "zip" p) [e, e2] [] pos) (iZipK b1 b2 X.K ta) := by
  refine ⟨fun pins s σ H R I h => Call_ (ld_blt I hg hm PyProof.Rows.boot_zip (PyProof.Rows.callWith_type1 (thn (ha.run pos pins s σ H _ I h) fun us s1 ⟨vs, H1, J, r1, a, b, xs, ys, ev, hqx, hqy, q⟩ => ?_) hs hpl))⟩
  subst ev
  obtain ⟨u1, u2, rfl, ra, rb⟩ : ∃ u1 u2, us = [u1, u2] ∧ RelV (.ref a) u1 ∧ RelV (.ref b) u2 := by
    cases r1 with
    | cons r t => cases t with
      | cons r' t' => cases t'; exact ⟨_, _, rfl, r, r'⟩
  cases ra
  cases rb
  obtain ⟨ws, _, pu⟩ := seqK J hqx
  obtain ⟨zs, _, pv⟩ := seqK J hqy
  refine zip_begins2 (beginsK b1 a ws.toArray) (beginsK b2 b zs.toArray) pu pv fun h' z0 t1 t2 g1 g2 hs' hk => wpAny_pyIter_zip z0 ?_
  have fr : ∀ c, c ∈ [s1.heap.objs.size + 4, s1.heap.objs.size + 2, s1.heap.objs.size + 3, s1.heap.objs.size, s1.heap.objs.size + 1] → FpOk X pins H1 c := fun c hcm => by
    have hc' : c = s1.heap.objs.size + 4 ∨ c = s1.heap.objs.size + 2 ∨ c = s1.heap.objs.size + 3 ∨ c = s1.heap.objs.size ∨ c = s1.heap.objs.size + 1 := by simpa using hcm
    have le : s1.heap.objs.size ≤ c := by
      rcases hc' with q | q | q | q | q
      · rw [q]; exact Nat.le_add_right _ _
      · rw [q]; exact Nat.le_add_right _ _
      · rw [q]; exact Nat.le_add_right _ _
      · exact Nat.le_of_eq q.symm
      · rw [q]; exact Nat.le_add_right _ _
    exact J.fpOk le (J.hok.fresh le)
  have J2 : Inv X pins σ H1 { s1 with heap := h' } := J.kept (t' := s1.toks) hk
  have la := VlK.lt pu
  have lb := VlK.lt pv
  exact ⟨s1.heap.objs.size + 4, [s1.heap.objs.size + 4, s1.heap.objs.size + 2, s1.heap.objs.size + 3, s1.heap.objs.size, s1.heap.objs.size + 1], _, _, H1, rfl, J2,
    turn_zipK (zip_sep2 (N := s1.heap.objs.size) (fp1 := [a]) (fp2 := [b]) (by simpa using la) (by simpa using lb)) (Nat.ne_of_lt la) (Nat.ne_of_lt (Nat.lt_succ_of_lt lb)), ⟨z0, t1, ⟨_, _, t2⟩, itK_new g1, itK_new g2⟩, fr, q⟩
theorem walk_zipK {b1 b2 : Bool} {K : PySem.W.Frag} {a b : Addr} {xs ys : List V} {n : Nat} (hn : n = min xs.length ys.length) : Walk (ItzK b1 b2 K a b) n (fun H => SqK b1 K H a xs ∧ SqK b2 K H b ys) (YPair (fun i => xs[i]?) (fun i => ys[i]?)) := by
  subst hn
  refine ⟨fun i H hi q => ?_, fun H q => ⟨xs, ys, q.1, q.2, by omega, by omega, by omega⟩, fun i H v H' _ q ⟨T, x, y, e1, e2, e3, e4, e5⟩ => ⟨T, x, y, e1, e2, e3, e4 xs q.1, e5 ys q.2⟩⟩
  have h1 : i < xs.length := by omega
  have h2 : i < ys.length := by omega
  exact ⟨xs, ys, xs[i], ys[i], q.1, q.2, by simp [h1], by simp [h2]⟩

/-! ### enumerate(t) -/
def IteT (K : PySem.W.Frag) (a : Addr) : It :=
  ⟨fun i H => ∃ (xs : List V) (x : V), SqT K H a xs ∧ xs[i]? = some x, fun i H v H' => ∃ T x, v = .ref T ∧ H T = none ∧ H' = upd H T (.tup [.int (i : Nat), x]) ∧ ∀ xs, SqT K H a xs → xs[i]? = some x, fun i H => ∃ xs : List V, SqT K H a xs ∧ xs.length = i⟩
def EnSt (a e it : Addr) (i : Nat) (h : Heap) : Prop := (∃ old, IsEnum h e it ((i : Nat) : Int) old) ∧ h.IsTupleIter it a i
theorem turn_enumT {P : Program} {w : World} {K : PySem.W.Frag} {elts : List Expr} {kk : Nat} {tpos : Pos} {a e it : Addr} (n0 : e ≠ it) (n1 : a ≠ it) (n2 : e ≠ a) : Turn P w K (.Tuple elts kk tpos) (IteT K a) [e, it] e (EnSt a e it) where
  mem := by simp
  obj := fun i h ⟨⟨old, he⟩, o, ho, _, hd⟩ c hc => by
    have hc' : c = e ∨ c = it := by simpa using hc
    rcases hc' with rfl | rfl
    · exact ⟨_, he, fun v q => nomatch q⟩
    · exact ⟨o, ho, fun v q => by rw [hd] at q; cases q⟩
  keep := fun i h h' ⟨⟨old, he⟩, hi⟩ k => ⟨⟨old, k e (by simp) _ he⟩, hi.at fun o q => k it (by simp) o q⟩
  item := by
    intro X hP hw hK hc i pins s σ H E I hf ⟨⟨old, he⟩, hit⟩ ⟨xs, x, hq, hx⟩
    subst hP hw hK
    obtain ⟨us, ru, pu, _⟩ := I.tuple hq
    obtain ⟨u, hu, qu⟩ := ru.get hx
    have el : e < s.heap.objs.size := Heap.lt_size he
    have l1 := (List.getElem?_eq_some_iff.mp hu).1
    refine wpAny_pyNext_enum_itemD (Draws.tuple (A := X.A.in1) (I.ok.hd hc) it a n1 us.toArray) he ⟨hit, pu⟩ (by simpa using l1) n0 (by simp [n0, n2]) fun x1 h' tk e1 ho s1 hT hs hk => ?_
    have e1' : x1 = u := by
      have e : us[i]? = some x1 := by simpa using e1
      rw [hu] at e; exact (Option.some.inj e).symm
    subst e1'
    refine ⟨_, rfl, wpAny_letOwnedTupleGo_enum (s := { s with heap := h', toks := tk + 1 }) ho fun h'' he' sb => ?_⟩
    have hT2 : h''.get? s.heap.objs.size = some { cls := .type "tuple", data := .seq #[.int i tk, x1] } := (sb.2 _ (Nat.ne_of_gt el)).trans hT
    have new : ObjOk X.prog X.w (upd H s.heap.objs.size (.tup [.int (i : Nat), x])) h'' s.heap.objs.size (.tup [.int (i : Nat), x]) := ⟨by show 2 ≤ sizeLine; decide, [.int i tk, x1], .cons ⟨_, rfl⟩ (.cons qu .nil), ⟨_, hT2, rfl, _, rfl⟩⟩
    have J : Inv X pins σ (upd H s.heap.objs.size (.tup [.int (i : Nat), x])) { s with heap := h'', toks := tk + 1 } :=
      I.turnedNew (ch := [e, it]) (fun c o hb q => by
        have n : c ≠ e ∧ c ≠ it := by simpa using hb
        exact (sb.2 c n.1).trans (hk c o n.1 n.2 q)) hf (Nat.le_refl _) new
    refine ⟨.ref s.heap.objs.size, _, J, rfl, ⟨_, x, rfl, I.hok.fresh (Nat.le_refl _), rfl, fun ys hy => by rw [I.tuple_inj hy hq]; exact hx⟩, ⟨⟨x1, ?_⟩, s1.1.at fun o q => (sb.2 it (Ne.symm n0)).trans q⟩, fun c hcm => ?_⟩
    · rw [show ((i + 1 : Nat) : Int) = (i : Int) + 1 by omega]; exact he'
    · have hlt : c < s.heap.objs.size := by
        have hc' : c = e ∨ c = it := by simpa using hcm
        rcases hc' with rfl | rfl
        · exact el
        · obtain ⟨_, q, _⟩ := hit; exact Heap.lt_size q
      rw [upd_ne (Nat.ne_of_lt hlt)]
      exact (hf c hcm).1
  done := by
    intro X hP hw hK hc i pins s σ H E I hf ⟨⟨old, he⟩, hit⟩ ⟨xs, hq, hx⟩
    subst hP hw hK
    obtain ⟨us, ru, pu, _⟩ := I.tuple hq
    have k1 := ru.length
    have e0 : us.toArray.size = i := by simp; omega
    refine wpAny_pyNext_enum_endD (Draws.tuple (A := X.A.in1) (I.ok.hd hc) it a n1 us.toArray) he (by rw [e0]; exact ⟨hit, pu⟩) fun h' hk => ⟨rfl, I.turnedL (t' := s.toks) (ch := [e, it]) (fun c o hb q => ?_) hf⟩
    have n : c ≠ e ∧ c ≠ it := by simpa using hb
    exact hk c o n.2 q
  self := fun A i s Q E ⟨⟨_, he⟩, _⟩ h => wpAny_pyIter_enum he h
open AutoSeq1 (wpAny_loadPart') in
theorem enum_newT (l : Addr) (o : Obj) (xs : Array Value) (n : Nat) (hc : o.cls = .type "tuple") (hd : o.data = .seq xs n) :
    Meets (Builtin.«enumerate.__new__» ⟨[.type "enumerate", .ref l], []⟩) (fun _ R s => s.heap.get? l = some o ∧
      R (.ok (.ret (.ref (s.heap.push (itO true l)).objs.size))) { s with heap := (s.heap.push (itO true l)).push { cls := .type "enumerate", data := .fields #[.none, .bool false, .ref s.heap.objs.size, rawInt 0, .none, .none] } }) :=
  .of_wp fun prog w A R s h => by
    obtain ⟨hp, g, d, tk, os⟩ := s
    obtain ⟨hl, h⟩ := h
    obtain ⟨c0, d0, t0, s0⟩ := o
    simp only at hc hd
    subst hc hd
    have hsub := sub_enumerate
    have hT : Heap.IsTuple (Shared.heap ⟨hp, g, d, tk, os⟩) l xs := ⟨_, hl, rfl, n, rfl⟩
    wp_walk using wpAny_loadPart' hl
    refine wpAny_stack_any fun st => wpAny_pure ?_
    split
    · rename_i c _ _ _ _ _
      cases (c == Value.type "enumerate") <;> (wp_walk using wpAny_loadPart' hl, wpAny_pyIter_tuple hT) <;> exact ⟨_, rfl, h⟩
    · (wp_walk using wpAny_loadPart' hl, wpAny_pyIter_tuple hT); exact ⟨_, rfl, h⟩
def iEnumT (K : PySem.W.Frag) (ta : TA) : TI := fun σ H R => ta σ H fun vs H1 => ∃ a xs, vs = [.ref a] ∧ SqT K H1 a xs ∧ R (IteT K a) H1
theorem pi_enumT {X : Cx} {e : Expr} {ta : TA} {p pos tpos : Pos} {elts : List Expr} {kk : Nat} (hg : Gl X "enumerate") (hm : X.mg "enumerate" = none) (ha : PA X [e] ta) (hs : starEach [e] X.env = [(false, eval e X.env)]) :
    PI X (.Tuple elts kk tpos) (.Call (.Name "enumerate" p) [e] [] pos) (iEnumT X.K ta) := by
  refine ⟨fun pins s σ H R I h => Call_ (ld_blt I hg hm boot_enumerate (PyProof.Rows.callWith_type1 (thn (ha.run pos pins s σ H _ I h) fun us s1 ⟨vs, H1, J, r1, a, xs, ev, hq, q⟩ => ?_) hs rfl))⟩
  subst ev
  rw [Vals.ref1 r1]
  obtain ⟨ws, _, ⟨o, ho, hc, n, hd⟩, _⟩ := J.tuple hq
  have la := Heap.lt_size ho
  refine callType_new F.called_enumerate (by decide) (F.typeCall_enumerate_1 _) (F.newCall_enumerate_1 _) (fun obj => F.args_object_init_2 obj _) F.entry_enumerate_new (enum_newT a o ws.toArray n hc hd) ⟨ho, ?_⟩
  have hz : (s1.heap.push (itO true a)).objs.size = s1.heap.objs.size + 1 := Heap.size_push ..
  show _ ∧ _
  rw [hz]
  have he : IsEnum ((s1.heap.push (itO true a)).push { cls := .type "enumerate", data := .fields #[.none, .bool false, .ref s1.heap.objs.size, rawInt 0, .none, .none] }) (s1.heap.objs.size + 1) s1.heap.objs.size 0 .none := by
    have := Heap.get?_push_size (s1.heap.push (itO true a)) (o := { cls := .type "enumerate", data := .fields #[.none, .bool false, .ref s1.heap.objs.size, rawInt 0, .none, .none] }) rfl
    rw [hz] at this; exact this
  have J2 : Inv X pins σ H1 { s1 with heap := (s1.heap.push (itO true a)).push { cls := .type "enumerate", data := .fields #[.none, .bool false, .ref s1.heap.objs.size, rawInt 0, .none, .none] } } := J.kept (t' := s1.toks) fun c o q => Heap.get?_push_of_some _ (Heap.get?_push_of_some _ q)
  refine ⟨⟨_, he, rfl⟩, wpAny_pyIter_enum he ?_⟩
  refine ⟨s1.heap.objs.size + 1, [s1.heap.objs.size + 1, s1.heap.objs.size], _, _, H1, rfl, J2, turn_enumT (a := a) (e := s1.heap.objs.size + 1) (it := s1.heap.objs.size) (Nat.succ_ne_self _) (Nat.ne_of_lt la) (Nat.ne_of_gt (Nat.lt_succ_of_lt la)), ⟨⟨.none, he⟩, ⟨_, Heap.get?_push_of_some _ (Heap.get?_push_size _ rfl), rfl, rfl⟩⟩, fun c hcm => ?_, q⟩
  have hc' : c = s1.heap.objs.size + 1 ∨ c = s1.heap.objs.size := by simpa using hcm
  have le : s1.heap.objs.size ≤ c := by
    rcases hc' with rfl | rfl
    · exact Nat.le_succ _
    · exact Nat.le_refl _
  exact J.fpOk le (J.hok.fresh le)
theorem walk_enumT {K : PySem.W.Frag} {a : Addr} {xs : List V} : Walk (IteT K a) xs.length (fun H => SqT K H a xs) (YPair (fun i => some (.int (i : Nat))) (fun i => xs[i]?)) :=
  ⟨fun i H hi q => ⟨xs, xs[i], q, by simp [hi]⟩, fun H q => ⟨xs, q, rfl⟩, fun i H v H' _ q ⟨T, x, e1, e2, e3, e4⟩ => ⟨T, .int (i : Nat), x, e1, e2, e3, rfl, e4 xs q⟩⟩
end S
set_option Elab.async false
set_option linter.all false
set_option maxRecDepth 100000
/-! Layer S. SM: what stays through a change within the world; sources of loops; for, while, comprehensions. -/
namespace S
open PySem PySem.Spec PyProof.Rows L2 StX
section
variable {K : PySem.W.Frag} {w : Wd} {H : Hp} {d : Addr} {u : HO}
def Wd.push (w : Wd) (d : Addr) : Wd := ⟨w.ι, d :: w.π⟩
/-- a change at a place of the store, or of a list that is being filled -/
theorem in_ne {p : Addr} (hd : d ∈ w.ι ∨ d ∈ w.π) (h1 : p ∉ w.ι) (h2 : p ∉ w.π) : p ≠ d := by
  rintro rfl
  exact hd.elim h1 h2
mutual
theorem VR.upd (hd : d ∈ w.ι ∨ d ∈ w.π) : ∀ {a v}, VR K w H a v → VR K w (upd H d u) a v
  | _, _, .non => .non
  | _, _, .bl b => .bl b
  | _, _, .int i => .int i
  | _, _, .str x => .str x
  | _, _, .tup h r => .tup ⟨h.1, h.2.1, by rw [upd_ne (in_ne hd h.1 h.2.1)]; exact h.2.2⟩ (VRs.upd hd r)
  | _, _, .tpS h r => .tpS ⟨h.1, h.2.1, by rw [upd_ne (in_ne hd h.1 h.2.1)]; exact h.2.2⟩ (VRs.upd hd r)
  | _, _, .lst h r => .lst ⟨h.1, h.2.1, by rw [upd_ne (in_ne hd h.1 h.2.1)]; exact h.2.2⟩ (VRs.upd hd r)
  | _, _, .scr h r => .scr (h.elim (fun h => .inl ⟨h.1, h.2.1, by unfold Rd; rw [upd_ne (in_ne hd h.1 h.2.1)]; exact h.2.2⟩) .inr) (VRs.upd hd r)
  | _, _, .ref h => .ref h
  | _, _, .fn x => .fn x
theorem VRs.upd (hd : d ∈ w.ι ∨ d ∈ w.π) : ∀ {xs ys}, VRs K w H xs ys → VRs K w (upd H d u) xs ys
  | _, _, .nil => .nil
  | _, _, .cons h t => .cons (VR.upd hd h) (VRs.upd hd t)
end
mutual
/-- a list begins to be filled -/
theorem VR.enter (hn : H d = none) : ∀ {a v}, VR K w H a v → VR K (w.push d) (upd H d u) a v
  | _, _, .non => .non
  | _, _, .bl b => .bl b
  | _, _, .int i => .int i
  | _, _, .str x => .str x
  | _, _, .tup h r => have n := ne_of_none h.2.2 hn; .tup ⟨h.1, by simpa [Wd.push, n] using h.2.1, by rw [upd_ne n]; exact h.2.2⟩ (VRs.enter hn r)
  | _, _, .tpS ⟨h1, h2, ob, h3, h4⟩ r => have n := ne_of_none h4 hn; .tpS ⟨h1, by simpa [Wd.push, n] using h2, ob, h3, by rw [upd_ne n]; exact h4⟩ (VRs.enter hn r)
  | _, _, .lst h r => have n := ne_of_none h.2.2 hn; .lst ⟨h.1, by simpa [Wd.push, n] using h.2.1, by rw [upd_ne n]; exact h.2.2⟩ (VRs.enter hn r)
  | _, _, .scr (.inl ⟨h1, h2, .inl h3⟩) r => have n := ne_of_none h3 hn; .scr (.inl ⟨h1, by simpa [Wd.push, n] using h2, .inl (by rw [upd_ne n]; exact h3)⟩) (VRs.enter hn r)
  | _, _, .scr (.inl ⟨h1, h2, .inr ⟨o, h3⟩⟩) r => have n := ne_of_none h3 hn; .scr (.inl ⟨h1, by simpa [Wd.push, n] using h2, .inr ⟨o, by rw [upd_ne n]; exact h3⟩⟩) (VRs.enter hn r)
  | _, _, .scr (.inr h) r => .scr (.inr h) (VRs.enter hn r)
  | _, _, .ref h => .ref h
  | _, _, .fn x => .fn x
theorem VRs.enter (hn : H d = none) : ∀ {xs ys}, VRs K w H xs ys → VRs K (w.push d) (upd H d u) xs ys
  | _, _, .nil => .nil
  | _, _, .cons h t => .cons (VR.enter hn h) (VRs.enter hn t)
end
mutual
/-- it is filled -/
theorem VR.leave {ι π : List Addr} : ∀ {a v}, VR K ⟨ι, d :: π⟩ H a v → VR K ⟨ι, π⟩ H a v
  | _, _, .non => .non
  | _, _, .bl b => .bl b
  | _, _, .int i => .int i
  | _, _, .str x => .str x
  | _, _, .tup h r => .tup ⟨h.1, fun z => h.2.1 (List.mem_cons_of_mem _ z), h.2.2⟩ (VRs.leave r)
  | _, _, .tpS h r => .tpS ⟨h.1, fun z => h.2.1 (List.mem_cons_of_mem _ z), h.2.2⟩ (VRs.leave r)
  | _, _, .lst h r => .lst ⟨h.1, fun z => h.2.1 (List.mem_cons_of_mem _ z), h.2.2⟩ (VRs.leave r)
  | _, _, .scr h r => .scr (h.elim (fun h => .inl ⟨h.1, fun z => h.2.1 (List.mem_cons_of_mem _ z), h.2.2⟩) .inr) (VRs.leave r)
  | _, _, .ref h => .ref h
  | _, _, .fn x => .fn x
theorem VRs.leave {ι π : List Addr} : ∀ {xs ys}, VRs K ⟨ι, d :: π⟩ H xs ys → VRs K ⟨ι, π⟩ H xs ys
  | _, _, .nil => .nil
  | _, _, .cons h t => .cons (VR.leave h) (VRs.leave t)
end
theorem KR.mono {κ : Type} {w' : Wd} {H' : Hp} (f : ∀ a v, VR K w H a v → VR K w' H' a v) : ∀ {xs : List (κ × AV)} {ys : List (κ × V)}, KR K w H xs ys → KR K w' H' xs ys
  | _, _, .nil => .nil
  | _, _, .cons h t => .cons (f _ _ h) (KR.mono f t)
theorem VRs.mono {w' : Wd} {H' : Hp} (f : ∀ a v, VR K w H a v → VR K w' H' a v) : ∀ {xs ys}, VRs K w H xs ys → VRs K w' H' xs ys
  | _, _, .nil => .nil
  | _, _, .cons h t => .cons (f _ _ h) (VRs.mono f t)
theorem OR.mono {w' : Wd} {H' : Hp} (f : ∀ a v, VR K w H a v → VR K w' H' a v) : ∀ {o u}, OR K w H o u → OR K w' H' o u
  | _, _, .lst r => .lst (r.mono f)
  | _, _, .dK r => .dK (r.mono f)
  | _, _, .dT r => .dT (r.mono f)
  | _, _, .ins r => .ins (r.mono f)
  | _, _, .frz r => .frz (OR.mono f r)
theorem ER.mono {w' : Wd} {H' : Hp} {e : AE} {σ : L2.St} (f : ∀ a v, VR K w H a v → VR K w' H' a v) (r : ER K w H e σ) : ER K w' H' e σ := ⟨r.len, fun i a h => by
  obtain ⟨v, h1, h2⟩ := r.get i a h
  exact ⟨v, h1, f _ _ h2⟩⟩
variable {s : Sto}
theorem Rel.enter {zs : List V} (R : Rel K w s H) (hn : H d = none) : Rel K (w.push d) s (upd H d (.lst zs)) := by
  have n := R.nofresh hn
  refine ⟨R.len, R.nd, fun i p o h1 h2 => ?_, fun p hp => ?_⟩
  · obtain ⟨v, hv, r⟩ := R.ob i p o h1 h2
    exact ⟨v, by rw [upd_ne (ne_of_none hv hn)]; exact hv, r.mono fun _ _ q => q.enter hn⟩
  · rcases List.mem_cons.mp (show p ∈ d :: w.π from hp) with rfl | hp
    · exact ⟨⟨_, upd_same⟩, n.1⟩
    · obtain ⟨⟨ys, h1⟩, h2⟩ := R.pi p hp
      exact ⟨⟨ys, by rw [upd_ne (ne_of_none h1 hn)]; exact h1⟩, h2⟩
theorem Rel.leave {ι π : List Addr} (R : Rel K ⟨ι, d :: π⟩ s H) : Rel K ⟨ι, π⟩ s H :=
  ⟨R.len, R.nd, fun i p o h1 h2 => let ⟨v, hv, r⟩ := R.ob i p o h1 h2; ⟨v, hv, r.mono fun _ _ q => q.leave⟩, fun p hp => R.pi p (List.mem_cons_of_mem _ hp)⟩
theorem Rel.fill {zs : List V} (R : Rel K w s H) (hd : d ∈ w.π) : Rel K w s (upd H d (.lst zs)) := by
  refine ⟨R.len, R.nd, fun i p o h1 h2 => ?_, fun p hp => ?_⟩
  · obtain ⟨v, hv, r⟩ := R.ob i p o h1 h2
    have n : p ≠ d := by
      rintro rfl
      exact (R.pi p hd).2 (List.mem_of_getElem? h1)
    exact ⟨v, by rw [upd_ne n]; exact hv, r.mono fun _ _ q => q.upd (.inr hd)⟩
  · obtain ⟨⟨ys, h1⟩, h2⟩ := R.pi p hp
    refine ⟨?_, h2⟩
    by_cases e : p = d
    · rw [e]; exact ⟨_, upd_same⟩
    · exact ⟨ys, by rw [upd_ne e]; exact h1⟩
/-- from within to without -/
theorem Fut.out_pi {ι π ι' : List Addr} {H' : Hp} (F : Fut ⟨ι, d :: π⟩ H ⟨ι', d :: π⟩ H') : Fut ⟨ι, π⟩ H ⟨ι', π⟩ H' := ⟨F.pre, rfl, F.keep, F.new, F.frz⟩
theorem Fut.fill {w0 : Wd} {H0 : Hp} (F : Fut w0 H0 w H) (hn : H0 d = none) (hd : d ∉ w.ι) : Fut w0 H0 w (upd H d u) := ⟨F.pre, F.pi, fun p o h n => by rw [upd_ne (ne_of_none h hn)]; exact F.keep p o h n, F.new, fun p ob v h => by rw [upd_ne (ne_of_none h hn)]; exact F.frz p ob v h⟩
end

/-! ### sources of loops -/
/-- what a loop walks: the items, and what must stand in the store as it is -/
structure Src where
  items : List AV
  gd : List (Nat × AO)
def Src.ok (src : Src) (s : Sto) : Prop := ∀ p ∈ src.gd, s[p.1]? = some p.2
/-- a word that stays -/
structure Stb (K : PySem.W.Frag) (G : Wd → Hp → Prop) : Prop where
  fut : ∀ {w H w' H'}, Fut w H w' H' → G w H → G w' H'
  ent : ∀ {w H d u}, H d = none → G w H → G (w.push d) (upd H d u)
  fil : ∀ {w H d u}, d ∈ w.π → d ∉ w.ι → G w H → G w (upd H d u)
structure ItOk (K : PySem.W.Frag) (src : Src) (w0 : Wd) (H0 : Hp) (J : It) : Prop where
  ex : ∃ G : Wd → Hp → Prop, Stb K G ∧ G w0 H0 ∧ (∀ i w H s, i < src.items.length → G w H → Rel K w s H → src.ok s → J.go i H) ∧ (∀ w H s, G w H → Rel K w s H → src.ok s → J.stop src.items.length H) ∧
    ∀ i a w H s x H', src.items[i]? = some a → G w H → Rel K w s H → src.ok s → J.yld i H x H' → Fut w H w H' ∧ Rel K w s H' ∧ VR K w H' a x
abbrev IM := AE → Sto → Res Src
def tIM (K : PySem.W.Frag) (W : WX) (m : IM) : TI := fun σ H R => ∃ w s e, ER K w H e σ ∧ Rel K w s H ∧ Out K w H (fun c d H' => W c d σ H') (fun w' H' src => ∀ J, ItOk K src w' H' J → R J H') (m e s)
abbrev RI (X : Cx) (W : WX) (tg iter : Expr) (m : IM) : Prop := PI X tg iter (tIM X.K W m)
theorem _root_.L2.PI.imp {X : Cx} {tg e : Expr} {t t' : TI} (h : PI X tg e t) (k : ∀ σ H R, t' σ H R → t σ H R) : PI X tg e t' := ⟨fun pins s σ H R I hw => h.run pins s σ H R I (k σ H R hw)⟩
theorem stb_vrs {K : PySem.W.Frag} {a : AV} {v : V} : Stb K fun w H => VR K w H a v := ⟨fun F h => h.fut F, fun n h => h.enter n, fun d _ h => h.upd (.inr d)⟩
theorem stb_and {K : PySem.W.Frag} {G G' : Wd → Hp → Prop} (h : Stb K G) (h' : Stb K G') : Stb K fun w H => G w H ∧ G' w H := ⟨fun F q => ⟨h.fut F q.1, h'.fut F q.2⟩, fun n q => ⟨h.ent n q.1, h'.ent n q.2⟩, fun d n q => ⟨h.fil d n q.1, h'.fil d n q.2⟩⟩
/-- the items of a thing in order, with what must stand -/
def seqSrc (a : AV) (s : Sto) : Option Src := match a with
  | .ref n => match s[n]? with
    | some (.lst xs) => some ⟨xs, [(n, .lst xs)]⟩
    | _ => none
  | a => (seqA a s).map fun xs => ⟨xs, []⟩
/-- a list (false) or a tuple (true) by its value -/
def kindA (a : AV) : Option Bool := match a with
  | .tup _ => some true
  | .tpS _ => some true
  | .lst _ => some false
  | .scr _ => some false
  | .ref _ => some false
  | _ => none
theorem seqSrc_now {K : PySem.W.Frag} {w : Wd} {H : Hp} {a : AV} {v : V} {s0 s : Sto} {src : Src} {b : Bool} (e : seqSrc a s0 = some src) (hb : kindA a = some b) (hok : src.ok s) (R : Rel K w s H) (V1 : VR K w H a v) :
    ∃ p ys, v = .ref p ∧ SqK b K H p ys ∧ VRs K w H src.items ys := by
  cases V1 with
  | tup h t => cases hb; cases e; exact ⟨_, _, rfl, h.sq, t⟩
  | tpS h t => cases hb; cases e; exact ⟨_, _, rfl, h.sq, t⟩
  | lst h t => cases hb; cases e; exact ⟨_, _, rfl, h.sq, t⟩
  | scr h t => cases hb; cases e; exact ⟨_, _, rfl, h.sq, t⟩
  | ref hn =>
    cases hb
    unfold seqSrc at e
    dsimp only at e
    split at e
    · cases e
      have q := hok _ (List.mem_singleton.mpr rfl)
      obtain ⟨u, hu, o⟩ := R.ob _ _ _ hn q
      cases o with
      | lst t => exact ⟨_, _, rfl, SqL.of hu, t⟩
    · cases e
  | _ => cases hb
theorem VRs.get_len {K : PySem.W.Frag} {w : Wd} {H : Hp} {xs : List AV} {ys : List V} (r : VRs K w H xs ys) {i : Nat} {a : AV} {v : V} (h1 : xs[i]? = some a) (h2 : ys[i]? = some v) : VR K w H a v := by
  obtain ⟨v', h3, h4⟩ := r.get h1
  rw [h3] at h2; cases h2; exact h4
def srcOf (o : Option Src) : Option Src := o
/-- a list -/
def iL (m : EM) : IM := fun e s => (m e s).bind fun a s => match kindA a, seqSrc a s with
  | some false, some src => .ok src s
  | _, _ => .no
def iT (m : EM) : IM := fun e s => (m e s).bind fun a s => match kindA a, seqSrc a s with
  | some true, some src => .ok src s
  | _, _ => .no
section
variable {X : Cx} {W : WX} {tg a b : Expr} {ma mb : EM} {ms : AM} {pos p : Pos}
theorem Out.src {K : PySem.W.Frag} {w : Wd} {H : Hp} {WW : XK} {s : Sto} {src : Src} {R : It → Hp → Prop} {J : It} (h : Out K w H WW (fun w' H' src => ∀ J, ItOk K src w' H' J → R J H') (.ok src s)) (Rl : Rel K w s H) (ok : ItOk K src w H J) : R J H := h w H Fut.refl Rl J ok
theorem it_list {K : PySem.W.Frag} {w : Wd} {H : Hp} {a : AV} {q : Addr} {s0 : Sto} {src : Src} (e : seqSrc a s0 = some src) (hb : kindA a = some false) (V1 : VR K w H a (.ref q)) : ItOk K src w H (Itl K q) := by
  refine ⟨fun w H => VR K w H a (.ref q), stb_vrs, V1, fun i w H s hi V2 R ok => ?_, fun w H s V2 R ok => ?_, fun i x w H s v H' hx V2 R ok y => ?_⟩
  · obtain ⟨_, ys, e2, hs, t⟩ := seqSrc_now e hb ok R V2
    cases e2
    have : i < ys.length := by rw [← t.length]; exact hi
    exact ⟨ys, ys[i], hs, by simp [this]⟩
  · obtain ⟨_, ys, e2, hs, t⟩ := seqSrc_now e hb ok R V2
    cases e2
    exact ⟨ys, hs, by rw [t.length]; exact Nat.le_refl _⟩
  · obtain ⟨_, ys, e2, hs, t⟩ := seqSrc_now e hb ok R V2
    cases e2
    obtain ⟨rfl, y⟩ := y
    exact ⟨Fut.refl, R, t.get_len hx (y ys hs)⟩
theorem it_tup {K : PySem.W.Frag} {w : Wd} {H : Hp} {a : AV} {q : Addr} {s0 : Sto} {src : Src} (e : seqSrc a s0 = some src) (hb : kindA a = some true) (V1 : VR K w H a (.ref q)) : ItOk K src w H (Itt K q) := by
  refine ⟨fun w H => VR K w H a (.ref q), stb_vrs, V1, fun i w H s hi V2 R ok => ?_, fun w H s V2 R ok => ?_, fun i x w H s v H' hx V2 R ok y => ?_⟩
  · obtain ⟨_, ys, e2, hs, t⟩ := seqSrc_now e hb ok R V2
    cases e2
    have : i < ys.length := by rw [← t.length]; exact hi
    exact ⟨ys, ys[i], hs, by simp [this]⟩
  · obtain ⟨_, ys, e2, hs, t⟩ := seqSrc_now e hb ok R V2
    cases e2
    exact ⟨ys, hs, by rw [t.length]; exact Nat.le_refl _⟩
  · obtain ⟨_, ys, e2, hs, t⟩ := seqSrc_now e hb ok R V2
    cases e2
    obtain ⟨rfl, y⟩ := y
    exact ⟨Fut.refl, R, t.get_len hx (y ys hs)⟩
theorem seqSrc_self {a : AV} {s : Sto} {src : Src} (e : seqSrc a s = some src) : src.ok s := by
  cases a with
  | ref n =>
    unfold seqSrc at e
    dsimp only at e
    split at e
    · rename_i q
      cases e
      intro p hp
      rw [List.mem_singleton.mp hp]
      exact q
    · cases e
  | _ =>
    unfold seqSrc at e
    simp only [Option.map_eq_some_iff] at e
    obtain ⟨xs, _, rfl⟩ := e
    intro p hp
    cases hp
theorem ri_list (ha : RE X W a ma) : RI X W tg a (iL ma) := (pi_list ha).imp fun σ H Q ⟨w, s, e, E, R, h⟩ => ⟨w, s, e, E, R, h.bind fun x s1 w1 H1 F1 R1 h1 v V1 => by
  split at h1
  · rename_i src hk hs
    obtain ⟨q, ys, rfl, sq, t⟩ := seqSrc_now hs hk (seqSrc_self hs) R1 V1
    exact ⟨q, rfl, ⟨ys, sq⟩, h1.src R1 (it_list hs hk V1)⟩
  · exact h1.elim⟩
theorem ri_tup (ha : RE X W a ma) : RI X W tg a (iT ma) := (pi_tup ha).imp fun σ H Q ⟨w, s, e, E, R, h⟩ => ⟨w, s, e, E, R, h.bind fun x s1 w1 H1 F1 R1 h1 v V1 => by
  split at h1
  · rename_i src hk hs
    obtain ⟨q, ys, rfl, sq, t⟩ := seqSrc_now hs hk (seqSrc_self hs) R1 V1
    exact ⟨q, rfl, ⟨ys, sq⟩, h1.src R1 (it_tup hs hk V1)⟩
  · exact h1.elim⟩
/-- range(n) -/
def iRg (m : EM) : IM := fun e s => (m e s).bind fun a s => match a with
  | .int n => if n < 2 ^ 62 ∧ -(2 ^ 62) ≤ n then .ok ⟨rangeA n, []⟩ s else .no
  | _ => .no
theorem rangeA_get {n : Int} {i : Nat} {a : AV} (h : (rangeA n)[i]? = some a) : a = .int (i : Nat) := by
  unfold rangeA at h
  rw [List.getElem?_map] at h
  cases e : (List.range n.toNat)[i]? with
  | none => rw [e] at h; cases h
  | some j =>
    rw [e] at h
    cases h
    rw [List.getElem?_range] at e
    · cases e; rfl
    · exact Decidable.byContradiction fun hn => by
        rw [List.getElem?_eq_none (by simpa using hn)] at e; cases e
theorem rangeA_len {n : Int} : (rangeA n).length = n.toNat := by unfold rangeA; simp
theorem ri_range (ha : RE X W a ma) (hm : X.mg "range" = none) (hg : Gl X "range" := by rfl) (hs : starEach [a] X.env = [(false, eval a X.env)] := by rfl) (hs2 : starEach [a] X.env = (false, eval a X.env) :: starEach [] X.env := by rfl) : RI X W tg (.Call (.Name "range" p) [a] [] pos) (iRg ma) :=
  (pi_range1 hg hm (pa_cons ha pa_nil hs2) hs).imp fun σ H Q ⟨w, s, e, E, R, h⟩ => ⟨w, s, e, E, R, h.bind fun x s1 w1 H1 F1 R1 h1 v V1 => by
    split at h1
    · split at h1
      · rename_i hz
        cases V1
        refine ⟨_, rfl, hz.2, hz.1, h1.src R1 ⟨fun _ _ => True, ⟨fun _ _ => trivial, fun _ _ => trivial, fun _ _ _ => trivial⟩, trivial, fun i w H s hi _ _ _ => ?_, fun w H s _ _ _ => ?_, fun i x w H s v H' hx _ R _ y => ?_⟩⟩
        · rw [rangeA_len] at hi; exact hi
        · rw [rangeA_len]; exact Nat.le_refl _
        · obtain ⟨rfl, rfl⟩ := y
          rw [rangeA_get hx, Int.zero_add]
          exact ⟨Fut.refl, R, .int _⟩
      · exact h1.elim
    · exact h1.elim⟩
/-- a text's signs -/
def signsA (z : Str) : List AV := z.cps.toList.map fun c => .str ⟨#[c]⟩
def iS (m : EM) : IM := fun e s => (m e s).bind fun a s => match a with
  | .str z => .ok ⟨signsA z, []⟩ s
  | _ => .no
theorem ri_str (ha : RE X W a ma) : RI X W tg a (iS ma) := (pi_str ha).imp fun σ H Q ⟨w, s, e, E, R, h⟩ => ⟨w, s, e, E, R, h.bind fun x s1 w1 H1 F1 R1 h1 v V1 => by
  split at h1
  · rename_i z
    cases V1
    refine ⟨_, rfl, h1.src R1 ⟨fun _ _ => True, ⟨fun _ _ => trivial, fun _ _ => trivial, fun _ _ _ => trivial⟩, trivial, fun i w H s hi _ _ _ => ?_, fun w H s _ _ _ => ?_, fun i x w H s v H' hx _ R _ y => ?_⟩⟩
    · have : i < z.cps.size := by simpa [signsA] using hi
      exact this
    · show z.cps.size ≤ _
      simp [signsA]
    · obtain ⟨rfl, c, hc, rfl⟩ := y
      have : x = .str ⟨#[c]⟩ := by
        unfold signsA at hx
        rw [List.getElem?_map, Array.getElem?_toList, hc] at hx
        cases hx; rfl
      subst this
      exact ⟨Fut.refl, R, .str _⟩
  · exact h1.elim⟩
/-- zip(x, y) -/
def pairsA : List AV → List AV → List AV
  | x :: xs, y :: ys => .tup [x, y] :: pairsA xs ys
  | _, _ => []
theorem pairsA_len : ∀ xs ys : List AV, (pairsA xs ys).length = min xs.length ys.length
  | [], _ => by simp [pairsA]
  | _ :: _, [] => by simp [pairsA]
  | x :: xs, y :: ys => by simp [pairsA, pairsA_len xs ys]
theorem pairsA_get : ∀ {xs ys : List AV} {i : Nat} {a : AV}, (pairsA xs ys)[i]? = some a → ∃ x y, a = .tup [x, y] ∧ xs[i]? = some x ∧ ys[i]? = some y
  | [], _, _, _, h => by simp [pairsA] at h
  | _ :: _, [], _, _, h => by simp [pairsA] at h
  | x :: xs, y :: ys, 0, a, h => by simp [pairsA] at h; exact ⟨x, y, h.symm, by simp, by simp⟩
  | x :: xs, y :: ys, i + 1, a, h => by
    obtain ⟨x', y', h1, h2, h3⟩ := pairsA_get (xs := xs) (ys := ys) (i := i) (a := a) (by simpa [pairsA] using h)
    exact ⟨x', y', h1, by simpa using h2, by simpa using h3⟩
def iZip (b1 b2 : Bool) (ms : AM) : IM := fun e s => (ms e s).bind fun xs s => match xs with
  | [a, b] => match seqSrc a s, seqSrc b s with
    | some u, some v => if kindA a = some b1 ∧ kindA b = some b2 then .ok ⟨pairsA u.items v.items, u.gd ++ v.gd⟩ s else .no
    | _, _ => .no
  | _ => .no
theorem ok_append {u v : Src} {xs : List AV} {s : Sto} (h : Src.ok ⟨xs, u.gd ++ v.gd⟩ s) : u.ok s ∧ v.ok s := ⟨fun p hp => h p (List.mem_append_left _ hp), fun p hp => h p (List.mem_append_right _ hp)⟩
theorem YPair_ok {K : PySem.W.Frag} {w : Wd} {H H' : Hp} {s : Sto} {f g : Nat → Option V} {i : Nat} {v : V} {a b : AV} (R : Rel K w s H) (y : YPair f g i H v H') (h1 : ∀ x, f i = some x → VR K w H a x) (h2 : ∀ x, g i = some x → VR K w H b x) :
    Fut w H w H' ∧ Rel K w s H' ∧ VR K w H' (.tup [a, b]) v := by
  obtain ⟨T, x, y, rfl, n, rfl, e1, e2⟩ := y
  exact ⟨Fut.lay n, R.lay n, VR.layT R n (.cons (h1 x e1) (.cons (h2 y e2) .nil))⟩
theorem ri_zip {b1 b2 : Bool} {elts : List Expr} {kk : Nat} {tpos : Pos} (ha : RA X W [a, b] ms) (hm : X.mg "zip" = none) (hg : Gl X "zip" := by rfl) (hs : starEach [a, b] X.env = (false, eval a X.env) :: starEach [b] X.env := by rfl) (hpl : (backTo pos (starEach [b] X.env)).any (·.1) = false := by rfl) :
    RI X W (.Tuple elts kk tpos) (.Call (.Name "zip" p) [a, b] [] pos) (iZip b1 b2 ms) :=
  (pi_zipK (b1 := b1) (b2 := b2) hg hm ha hs hpl).imp fun σ H Q ⟨w, s, e, E, R, h⟩ => ⟨w, s, e, E, R, h.bind fun xs s1 w1 H1 F1 R1 h1 vs V1 => by
    split at h1
    · rename_i x y
      split at h1
      · rename_i u v hu hv
        split at h1
        · rename_i hk
          obtain ⟨v1, v2, rfl, r1, r2⟩ := V1.two
          obtain ⟨q1, ys1, rfl, sq1, t1⟩ := seqSrc_now hu hk.1 (seqSrc_self hu) R1 r1
          obtain ⟨q2, ys2, rfl, sq2, t2⟩ := seqSrc_now hv hk.2 (seqSrc_self hv) R1 r2
          refine ⟨q1, q2, ys1, ys2, rfl, sq1, sq2, h1.src R1 ⟨fun w H => VR X.K w H x (.ref q1) ∧ VR X.K w H y (.ref q2), stb_and stb_vrs stb_vrs, ⟨r1, r2⟩, fun i w H s hi V2 R ok => ?_, fun w H s V2 R ok => ?_, fun i z w H s v H' hx V2 R ok yl => ?_⟩⟩
          · obtain ⟨_, zs1, e1, p1, k1⟩ := seqSrc_now hu hk.1 (ok_append ok).1 R V2.1
            obtain ⟨_, zs2, e2, p2, k2⟩ := seqSrc_now hv hk.2 (ok_append ok).2 R V2.2
            cases e1; cases e2
            refine (walk_zipK rfl).goes i H ?_ ⟨p1, p2⟩
            rw [← k1.length, ← k2.length, ← pairsA_len]; exact hi
          · obtain ⟨_, zs1, e1, p1, k1⟩ := seqSrc_now hu hk.1 (ok_append ok).1 R V2.1
            obtain ⟨_, zs2, e2, p2, k2⟩ := seqSrc_now hv hk.2 (ok_append ok).2 R V2.2
            cases e1; cases e2
            refine (walk_zipK ?_).stops H ⟨p1, p2⟩
            rw [← k1.length, ← k2.length]
            exact pairsA_len _ _
          · obtain ⟨_, zs1, e1, p1, k1⟩ := seqSrc_now hu hk.1 (ok_append ok).1 R V2.1
            obtain ⟨_, zs2, e2, p2, k2⟩ := seqSrc_now hv hk.2 (ok_append ok).2 R V2.2
            cases e1; cases e2
            obtain ⟨x', y', rfl, g1, g2⟩ := pairsA_get hx
            have hlt : i < min zs1.length zs2.length := by
              rw [← k1.length, ← k2.length]
              have a1 := (List.getElem?_eq_some_iff.mp g1).1
              have a2 := (List.getElem?_eq_some_iff.mp g2).1
              omega
            exact YPair_ok R ((walk_zipK rfl).yields i H v H' hlt ⟨p1, p2⟩ yl) (fun z hz => k1.get_len g1 hz) (fun z hz => k2.get_len g2 hz)
        · exact h1.elim
      · exact h1.elim
    · exact h1.elim⟩
/-- enumerate(x) -/
def numA : Nat → List AV → List AV
  | _, [] => []
  | i, x :: xs => .tup [.int (i : Nat), x] :: numA (i + 1) xs
theorem numA_len : ∀ (i : Nat) (xs : List AV), (numA i xs).length = xs.length
  | _, [] => rfl
  | i, x :: xs => by simp [numA, numA_len (i + 1) xs]
theorem numA_get : ∀ {xs : List AV} {k i : Nat} {a : AV}, (numA k xs)[i]? = some a → ∃ x, a = .tup [.int ((k + i : Nat) : Int), x] ∧ xs[i]? = some x
  | [], _, _, _, h => by simp [numA] at h
  | x :: xs, k, 0, a, h => by simp [numA] at h; exact ⟨x, h.symm, by simp⟩
  | x :: xs, k, i + 1, a, h => by
    obtain ⟨x', h1, h2⟩ := numA_get (xs := xs) (k := k + 1) (i := i) (a := a) (by simpa [numA] using h)
    exact ⟨x', by rw [h1]; congr 3; omega, by simpa using h2⟩
def iEn (bt : Bool) (ms : AM) : IM := fun e s => (ms e s).bind fun xs s => match xs with
  | [a] => match seqSrc a s with
    | some u => if kindA a = some bt then .ok ⟨numA 0 u.items, u.gd⟩ s else .no
    | none => .no
  | _ => .no
theorem en_ok {K : PySem.W.Frag} {x : AV} {u : Src} {s0 : Sto} {q : Addr} {bt : Bool} {w1 : Wd} {H1 : Hp} {J : It} (hu : seqSrc x s0 = some u) (hk : kindA x = some bt) (r1 : VR K w1 H1 x (.ref q))
    (wk : ∀ ys, Walk J ys.length (fun H => SqK bt K H q ys) (YPair (fun i => some (.int (i : Nat))) (fun i => ys[i]?))) : ItOk K ⟨numA 0 u.items, u.gd⟩ w1 H1 J := by
  refine ⟨fun w H => VR K w H x (.ref q), stb_vrs, r1, fun i w H s hi V2 R ok => ?_, fun w H s V2 R ok => ?_, fun i z w H s v H' hx V2 R ok yl => ?_⟩
  · obtain ⟨_, zs1, e1, p1, k1⟩ := seqSrc_now hu hk ok R V2
    cases e1
    refine (wk zs1).goes i H ?_ p1
    rw [← k1.length, ← numA_len 0]; exact hi
  · obtain ⟨_, zs1, e1, p1, k1⟩ := seqSrc_now hu hk ok R V2
    cases e1
    rw [numA_len, k1.length]
    exact (wk zs1).stops H p1
  · obtain ⟨_, zs1, e1, p1, k1⟩ := seqSrc_now hu hk ok R V2
    cases e1
    obtain ⟨x', rfl, g1⟩ := numA_get hx
    have hlt : i < zs1.length := by rw [← k1.length]; exact (List.getElem?_eq_some_iff.mp g1).1
    exact YPair_ok R ((wk zs1).yields i H v H' hlt p1 yl) (fun z hz => by cases hz; rw [Nat.zero_add]; exact .int _) (fun z hz => k1.get_len g1 hz)
theorem ri_enumT {elts : List Expr} {kk : Nat} {tpos : Pos} (ha : RA X W [a] ms) (hm : X.mg "enumerate" = none) (hg : Gl X "enumerate" := by rfl) (hs : starEach [a] X.env = [(false, eval a X.env)] := by rfl) : RI X W (.Tuple elts kk tpos) (.Call (.Name "enumerate" p) [a] [] pos) (iEn true ms) :=
  (pi_enumT hg hm ha hs).imp fun σ H Q ⟨w, s, e, E, R, h⟩ => ⟨w, s, e, E, R, h.bind fun xs s1 w1 H1 F1 R1 h1 vs V1 => by
    split at h1
    · split at h1
      · rename_i u hu
        split at h1
        · rename_i hk
          obtain ⟨v1, rfl, r1⟩ := V1.one
          obtain ⟨q1, ys1, rfl, sq1, t1⟩ := seqSrc_now hu hk (seqSrc_self hu) R1 r1
          exact ⟨q1, ys1, rfl, sq1, h1.src R1 (en_ok hu hk r1 fun ys => walk_enumT)⟩
        · exact h1.elim
      · exact h1.elim
    · exact h1.elim⟩
theorem ri_enumL {elts : List Expr} {kk : Nat} {tpos : Pos} (ha : RA X W [a] ms) (hm : X.mg "enumerate" = none) (hg : Gl X "enumerate" := by rfl) (hs : starEach [a] X.env = [(false, eval a X.env)] := by rfl) : RI X W (.Tuple elts kk tpos) (.Call (.Name "enumerate" p) [a] [] pos) (iEn false ms) :=
  (pi_enum hg hm ha hs).imp fun σ H Q ⟨w, s, e, E, R, h⟩ => ⟨w, s, e, E, R, h.bind fun xs s1 w1 H1 F1 R1 h1 vs V1 => by
    split at h1
    · split at h1
      · rename_i u hu
        split at h1
        · rename_i hk
          obtain ⟨v1, rfl, r1⟩ := V1.one
          obtain ⟨q1, ys1, rfl, sq1, t1⟩ := seqSrc_now hu hk (seqSrc_self hu) R1 r1
          exact ⟨q1, ys1, rfl, sq1, h1.src R1 (en_ok hu hk r1 fun ys => walk_enum)⟩
        · exact h1.elim
      · exact h1.elim
    · exact h1.elim⟩
end
end S
set_option Elab.async false
set_option linter.all false
set_option maxRecDepth 100000
/-! Layer S. SN: comprehensions, for, while. -/
namespace S
open PySem PySem.Spec PyProof.Rows L2 StX
/-! ### targets of loops: a name, some names -/
inductive Pat where
  | nm (i : Nat) | tp (is : List Nat)
def Pat.ids : Pat → List Nat
  | .nm i => [i]
  | .tp is => is
def gIs : List Nat → TGs
  | [] => gNil
  | i :: is => gCons (gName i) (gIs is)
def gP (K : PySem.W.Frag) : Pat → TG
  | .nm i => gName i
  | .tp is => gTup K is.length (gIs is)
def setL : List Nat → List AV → AE → AE
  | i :: is, a :: as, e => setL is as (e.set i (some a))
  | _, _, e => e
def setP : Pat → AV → AE → Option AE
  | .nm i, a, e => some (e.set i (some a))
  | .tp is, a, e => match tupI a with
    | some xs => if xs.length = is.length then some (setL is xs e) else none
    | none => none
theorem wipe_set (σ : L2.St) (i : Nat) (o : Option V) : ∀ vs : List Nat, i ∈ vs → wipe (σ.set i o) vs = wipe σ vs
  | [], h => absurd h (by simp)
  | v :: vs, h => by
    unfold wipe
    by_cases e : i = v
    · subst e
      by_cases hm : i ∈ vs
      · rw [wipe_set σ i o vs hm]
      · have key : ∀ (vs : List Nat), i ∉ vs → wipe (σ.set i o) vs = (wipe σ vs).set i o := by
          intro vs
          induction vs with
          | nil => intro _; rfl
          | cons w ws ih =>
            intro hn
            unfold wipe
            rw [ih (fun z => hn (List.mem_cons_of_mem _ z)), List.set_comm]
            rintro rfl
            exact hn (by simp)
        rw [key vs hm, List.set_set]
    · rw [wipe_set σ i o vs ((List.mem_cons.mp h).resolve_left e)]
theorem wipe_wipe (σ : L2.St) (vs : List Nat) : ∀ ws : List Nat, (∀ i ∈ ws, i ∈ vs) → wipe (wipe σ ws) vs = wipe σ vs
  | [], _ => rfl
  | w :: ws, h => by
    show wipe ((wipe σ ws).set w none) vs = _
    rw [wipe_set _ _ _ _ (h w (by simp)), wipe_wipe σ vs ws fun i hi => h i (List.mem_cons_of_mem _ hi)]
theorem gIs_ok {K : PySem.W.Frag} {w : Wd} {H : Hp} : ∀ {is : List Nat} {as : List AV} {vs : List V} {e : AE} {σ : L2.St} {N : L2.St → Hp → Prop}, VRs K w H as vs → as.length = is.length → ER K w H e σ →
    (∀ σ', ER K w H (setL is as e) σ' → (∀ ws, (∀ i ∈ is, i ∈ ws) → wipe σ' ws = wipe σ ws) → N σ' H) → gIs is vs σ H N
  | [], _, _, _, _, _, .nil, _, E, h => ⟨rfl, h _ E fun _ _ => rfl⟩
  | i :: is, _, _, e, σ, N, .cons (a := a) (v := v) r t, hl, E, h => ⟨_, _, rfl, gIs_ok (is := is) t (by simpa using hl) (E.set i r) fun σ' E' hw => h σ' E' fun ws hws => by
    rw [hw ws fun j hj => hws j (List.mem_cons_of_mem _ hj), wipe_set _ _ _ _ (hws i (by simp))]⟩
  | [], _, _, _, _, _, .cons _ _, hl, _, _ => by simp at hl
theorem gP_ok {K : PySem.W.Frag} {w : Wd} {H : Hp} {p : Pat} {a : AV} {v : V} {e e' : AE} {σ : L2.St} {N : L2.St → Hp → Prop} (V1 : VR K w H a v) (hs : setP p a e = some e') (E : ER K w H e σ)
    (h : ∀ σ', ER K w H e' σ' → (∀ ws, (∀ i ∈ p.ids, i ∈ ws) → wipe σ' ws = wipe σ ws) → N σ' H) : gP K p v σ H N := by
  cases p with
  | nm i =>
    cases hs
    exact h _ (E.set i V1) fun ws hw => wipe_set _ _ _ _ (hw i (by simp [Pat.ids]))
  | tp is =>
    unfold setP at hs
    dsimp only at hs
    split at hs
    · rename_i xs hx
      split at hs
      · rename_i hl
        cases hs
        obtain ⟨q, ys, rfl, hq, t⟩ := tupI_ok V1 hx
        exact ⟨q, ys, rfl, hq, by rw [← t.length]; exact hl, gIs_ok t hl E h⟩
      · cases hs
    · cases hs
theorem pgs_is {X : Cx} (hN : X.N.Nodup) : RGs X [] gsNil := rgs_nil
section
variable {X : Cx} {pos : Pos} {x : Str} {es : List Expr} {is : List Nat}
theorem pat_nm {i : Nat} (hN : X.N.Nodup) (hi : X.N[i]? = some x := by rfl) (hx : Loc X.env.scope x := by first | exact Or.inl rfl | exact Or.inr rfl) (hf : X.fn x = true ∨ X.env.scope.names.lookup x = some .local := by first | exact .inl rfl | exact .inr rfl) : PG X (.Name x pos) (gP X.K (.nm i)) := pg_name hN hi hx hf
theorem pats_nil : PGs X [] (gIs []) := pgs_nil
theorem pats_cons {i : Nat} (hN : X.N.Nodup) (h : PGs X es (gIs is)) (hi : X.N[i]? = some x := by rfl) (hx : Loc X.env.scope x := by first | exact Or.inl rfl | exact Or.inr rfl) (hf : X.fn x = true ∨ X.env.scope.names.lookup x = some .local := by first | exact .inl rfl | exact .inr rfl)
    (hs : (assignEach (.Name x pos :: es) X.env).map (·.2) = assign (.Name x pos) X.env :: (assignEach es X.env).map (·.2) := by rfl) : PGs X (.Name x pos :: es) (gIs (i :: is)) := pgs_cons (pg_name hN hi hx hf) h hs
theorem pat_tp {k : Nat} (hc : X.calm = true) (h : PGs X es (gIs is)) (hn : (assignEach es X.env).length = is.length := by rfl) (hst : (assignEach es X.env).findIdx? (·.1) = none := by rfl) : PG X (.Tuple es k pos) (gP X.K (.tp is)) := pg_tup hc h hn hst
end

/-! ### comprehensions -/
def wipeA (e : AE) : List Nat → AE
  | [] => e
  | v :: vs => (wipeA e vs).set v none
theorem ER.wipe {K : PySem.W.Frag} {w : Wd} {H : Hp} {e : AE} {σ : L2.St} (E : ER K w H e σ) : ∀ vs, ER K w H (wipeA e vs) (L2.wipe σ vs)
  | [] => E
  | v :: vs => (E.wipe vs).setNone v none
def never : WX := fun _ _ _ _ => False
open Classical in
noncomputable def lcGo (src : Src) (p : Pat) (tt : TM) (te : EM) (e : AE) : List AV → List AV → Sto → Res AV
  | [], acc, s => if src.ok s then .ok (.lst acc) s else .no
  | a :: r, acc, s => if src.ok s then (match setP p a e with
    | some e1 => match tt e1 s with
      | .ok true s1 => match te e1 s1 with
        | .ok y s2 => if acc.length < 16777216 then lcGo src p tt te e r (acc ++ [y]) s2 else .no
        | _ => .no
      | .ok false s1 => lcGo src p tt te e r acc s1
      | _ => .no
    | none => .no) else .no
noncomputable def eLc (im : IM) (p : Pat) (tt : TM) (te : EM) (vs : List Nat) : EM := fun e s => (im e s).bind fun src s => lcGo src p tt te (wipeA e vs) src.items [] s
def yesM : TM := fun _ s => .ok true s
section
variable {X : Cx} {W : WX} {tg iter elt : Expr} {ifs : List Expr} {scope : Scope} {own : List (Str × Nat)} {pos : Pos} {im : IM} {p : Pat} {tt : TM} {te : EM} {K : PySem.W.Frag}
theorem lc_read {vs : List Nat} {σ : L2.St} {H : Hp} {Q : VK} (hp : ∀ i ∈ p.ids, i ∈ vs) (h : tM K W (eLc im p tt te vs) σ H Q) : tLc (tIM K W im) (gP K p) (tTM K never tt) (tM K never te) vs σ H Q := by
  obtain ⟨w, s, e, E, R, h⟩ := h
  refine ⟨w, s, e, E, R, h.bind fun src s1 w1 H1 F1 R1 h1 J ok D hD => ?_⟩
  obtain ⟨G, hG, g0, go, stop, yl⟩ := ok.ex
  refine ⟨fun i m H => ∃ w s acc ys, m = src.items.length - i ∧ i ≤ src.items.length ∧ Fut w1 H1 ⟨w.ι, w1.π⟩ H ∧ w.π = D :: w1.π ∧ Rel K w s H ∧ G w H ∧ H D = some (.lst ys) ∧ VRs K w H acc ys ∧ ER K w H (wipeA e vs) (wipe σ vs) ∧
    Out K w1 H1 (fun c d H' => W c d σ H') (fun w' H' a => ∀ v, VR K w' H' a v → Q v H') (lcGo src p tt te (wipeA e vs) (src.items.drop i) acc s), ⟨src.items.length, w1.push D, s1, [], [], by simp, Nat.zero_le _, ?_, rfl, R1.enter hD, hG.ent hD g0, upd_same, .nil, (((E.fut F1).mono fun _ _ q => q.enter hD).wipe vs), by simpa using h1⟩, ?_⟩
  · exact Fut.fill (w := w1) (H := H1) Fut.refl hD (R1.nofresh hD).1
  · rintro i m H2 ⟨w2, s2, acc, ys, rfl, hi, F, hpi, R2, g2, hDl, Va, E2, o⟩
    have hDπ : D ∈ w2.π := by rw [hpi]; simp
    have hDι := (R2.pi D hDπ).2
    obtain ⟨ι2, π2⟩ := w2
    dsimp only at hpi
    subst hpi
    by_cases hlt : i < src.items.length
    · obtain ⟨a, ha⟩ : ∃ a, src.items[i]? = some a := ⟨src.items[i], by simp [hlt]⟩
      have hd : src.items.drop i = a :: src.items.drop (i + 1) := by
        rw [List.drop_eq_getElem_cons hlt]
        rw [List.getElem?_eq_getElem hlt] at ha
        cases ha; rfl
      rw [hd] at o
      unfold lcGo at o
      split at o
      · rename_i hok
        refine .inr ⟨go i _ H2 s2 hlt g2 R2 hok, fun H' => ∃ w s acc ys, Fut w1 H1 ⟨w.ι, w1.π⟩ H' ∧ w.π = D :: w1.π ∧ Rel K w s H' ∧ G w H' ∧ H' D = some (.lst ys) ∧ VRs K w H' acc ys ∧ ER K w H' (wipeA e vs) (wipe σ vs) ∧
          Out K w1 H1 (fun c d H' => W c d σ H') (fun w' H' a => ∀ v, VR K w' H' a v → Q v H') (lcGo src p tt te (wipeA e vs) (src.items.drop (i + 1)) acc s), fun H' ⟨w, s, acc, ys, b1, b2, b3, b4, b5, b6, b7, b8⟩ => ⟨src.items.length - (i + 1), by omega, w, s, acc, ys, rfl, hlt, b1, b2, b3, b4, b5, b6, b7, b8⟩, fun x H3 y => ?_⟩
        obtain ⟨F3, R3, V3⟩ := yl i a _ H2 s2 x H3 ha g2 R2 hok y
        split at o
        · rename_i e1 he1
          refine gP_ok V3 he1 (E2.fut F3) fun σ3 E3 hw => ⟨(hw vs hp).trans (wipe_wipe σ vs vs fun _ h => h), ?_⟩
          have g3 := hG.fut F3 g2
          have d3 := F3.keep D _ hDl hDι
          have F03 : Fut w1 H1 ⟨ι2, w1.π⟩ H3 := F.trans F3.out_pi
          refine ⟨_, s2, e1, E3, R3, ?_⟩
          split at o
          · rename_i s4 ht
            rw [ht]
            intro w4 H4 F4 R4
            refine iteT ⟨w4, s4, e1, E3.fut F4, R4, ?_⟩
            split at o
            · rename_i y4 s5 hy
              rw [hy]
              split at o
              · rename_i hz
                intro w5 H5 F5 R5 yv V5
                have p4 := F4.pi
                have p5 := F5.pi
                obtain ⟨ι4, π4⟩ := w4
                obtain ⟨ι5, π5⟩ := w5
                dsimp only at p4 p5
                subst p4 p5
                have d4 := F4.keep D _ d3 hDι
                have d4ι := (R4.pi D (by simp)).2
                have d5 := F5.keep D _ d4 d4ι
                have d5ι := (R5.pi D (by simp)).2
                have F05 : Fut w1 H1 ⟨ι5, w1.π⟩ H5 := (F03.trans F4.out_pi).trans F5.out_pi
                refine ⟨ys, d5, by rw [← Va.length, szl]; exact hz, ⟨ι5, D :: w1.π⟩, s5, acc ++ [y4], ys ++ [yv], F05.fill hD d5ι, rfl, R5.fill (by simp), hG.fil (by simp) d5ι (hG.fut F5 (hG.fut F4 g3)), upd_same, ?_, ?_, o⟩
                · exact (((((Va.fut F3).fut F4).fut F5).append (.cons V5 .nil))).upd (.inr (by simp))
                · exact ((((E2.fut F3).fut F4).fut F5)).mono fun _ _ q => q.upd (.inr (by simp))
              · exact o.elim
            · exact o.elim
          · rename_i s4 ht
            rw [ht]
            intro w4 H4 F4 R4
            have p4 := F4.pi
            obtain ⟨ι4, π4⟩ := w4
            dsimp only at p4
            subst p4
            exact iteF ⟨⟨ι4, D :: w1.π⟩, s4, acc, ys, F03.trans F4.out_pi, rfl, R4, hG.fut F4 g3, F4.keep D _ d3 hDι, (Va.fut F3).fut F4, (E2.fut F3).fut F4, o⟩
          · exact o.elim
        · exact o.elim
      · exact o.elim
    · have e0 : i = src.items.length := by omega
      subst e0
      rw [List.drop_length] at o
      unfold lcGo at o
      split at o
      · rename_i hok
        refine .inl ⟨stop _ H2 s2 g2 R2 hok, ?_⟩
        have R3 : Rel K ⟨ι2, w1.π⟩ s2 H2 := R2.leave
        refine o ⟨ι2, w1.π⟩ H2 F R3 (.ref D) (.lst ⟨hDι, ?_, hDl⟩ Va.leave)
        exact (R1.nofresh hD).2
      · exact o.elim
theorem pts_nilS : PTs X [] (tTM X.K never yesM) := ⟨fun pins s σ H Q I ⟨w, st, e, E, R, h⟩ => pts_nil.run pins s σ H Q I (h w H Fut.refl R)⟩
theorem pts_oneS {c : Expr} (h : RT X never c tt) : PTs X [c] (tTM X.K never tt) := pts_one h
/-- what a comprehension's parts must say, wherever its block stands -/
structure Blk (X : Cx) (scope : Scope) (tg : Expr) (ifs : List Expr) (elt : Expr) (p : Pat) (tt : TM) (te : EM) : Prop where
  run : ∀ (s : Shared) (H : Hp) (C : Addr) (cl : List (Str × Addr)) (fp : List Addr), PG (X.blk s H scope (compEnvC scope cl C X.env) fp) tg (gP X.K p) ∧ PTs (X.blk s H scope (compEnvC scope cl C X.env) fp) ifs (tTM X.K never tt) ∧ RE (X.blk s H scope (compEnvC scope cl C X.env) fp) never elt te
theorem re_lc (hc : X.calm = true) (hN : X.N.Nodup) (hi : RI X W tg iter im) (ok : BlkOk X.N X.env.scope scope own) (hp : ∀ i ∈ p.ids, i ∈ own.map (·.2)) (hb : Blk X scope tg ifs elt p tt te) (hs : ∀ x, foldedSetIterable iter X.env x = pure x := by intro _; rfl) :
    RE X W (.ListComp elt [⟨tg, iter, ifs, 0⟩] scope pos) (eLc im p tt te (own.map (·.2))) :=
  (pe_lc hc hN hi ok (fun s H C cl fp => (hb.run s H C cl fp).1) (fun s H C cl fp => (hb.run s H C cl fp).2.1) (fun s H C cl fp => (hb.run s H C cl fp).2.2) hs).imp fun σ H Q h => lc_read hp h
/-- name = [..] on one line -/
theorem rs_setLc {i : Nat} {y : Str} {py spos : Pos} (hc : X.calm = true) (hN : X.N.Nodup) (hi : RI X W tg iter im) (ok : BlkOk X.N X.env.scope scope own) (hp : ∀ i ∈ p.ids, i ∈ own.map (·.2)) (hb : Blk X scope tg ifs elt p tt te)
    (hsw : swapsWith (.ListComp elt [⟨tg, iter, ifs, 0⟩] scope pos) (some (.Name y py)) spos.line X.env = pure true) (hy : X.N[i]? = some y := by rfl) (hyl : X.env.scope.names.lookup y = some .local := by rfl) (hs : ∀ x, foldedSetIterable iter X.env x = pure x := by intro _; rfl) :
    RS X W (.Assign [.Name y py] (.ListComp elt [⟨tg, iter, ifs, 0⟩] scope pos) spos) (sSet i (eLc im p tt te (own.map (·.2)))) :=
  (ps_setLc hc hN hy hyl hsw hi ok (fun s H C cl fp => (hb.run s H C cl fp).1) (fun s H C cl fp => (hb.run s H C cl fp).2.1) (fun s H C cl fp => (hb.run s H C cl fp).2.2) hs).imp fun D σ H h => lc_read hp (set_read (te := tM X.K W (eLc im p tt te (own.map (·.2)))) h)

/-! ### for -/
open Classical in
noncomputable def forGo (src : Src) (p : Pat) (body : SM) : List AV → AE → Sto → SR
  | [], e, s => if src.ok s then .nx e s else .no
  | a :: r, e, s => if src.ok s then (match setP p a e with
    | some e1 => match body e1 s with
      | .nx e2 s2 => forGo src p body r e2 s2
      | .ct e2 s2 => forGo src p body r e2 s2
      | .bk e2 s2 => .nx e2 s2
      | .rt v s2 => .rt v s2
      | .exc c fs e2 s2 => .exc c fs e2 s2
      | .no => .no
    | none => .no) else .no
noncomputable def sFor (im : IM) (p : Pat) (body : SM) : SM := fun e s => (im e s).sbind e fun src s => forGo src p body src.items e s
theorem rs_for {body : List Stmt} {mb : SM} (hp : PassesOwn (model X.prog X.w) X.A X.env X.xe) (hc : X.calm = true) (hi : RI X W tg iter im) (hg : PG X tg (gP X.K p)) (hb : RSs X W body mb) (hs : ∀ x, foldedSetIterable iter X.env x = pure x := by intro _; rfl) :
    RS X W (.For tg iter body [] pos) (sFor im p mb) := (ps_for hp hc hi hg hb hs).imp fun D σ H ⟨w, s, e, E, R, h⟩ => ⟨w, s, e, E, R, sbind_out E h fun src s1 w1 H1 F1 R1 h1 J ok => by
  obtain ⟨G, hG, g0, go, stop, yl⟩ := ok.ex
  refine ⟨fun i m σ H => ∃ w s e, m = src.items.length - i ∧ i ≤ src.items.length ∧ Rel X.K w s H ∧ G w H ∧ ER X.K w H e σ ∧ SOut X.K w H W D (forGo src p mb (src.items.drop i) e s), ⟨src.items.length, w1, s1, e, by simp, Nat.zero_le _, R1, g0, E.fut F1, by simpa using h1⟩, ?_⟩
  rintro i m σ2 H2 ⟨w2, s2, e2, rfl, hi, R2, g2, E2, o⟩
  by_cases hlt : i < src.items.length
  · obtain ⟨a, ha⟩ : ∃ a, src.items[i]? = some a := ⟨src.items[i], by simp [hlt]⟩
    have hd : src.items.drop i = a :: src.items.drop (i + 1) := by
      rw [List.drop_eq_getElem_cons hlt]
      rw [List.getElem?_eq_getElem hlt] at ha
      cases ha; rfl
    rw [hd] at o
    unfold forGo at o
    split at o
    · rename_i hok
      refine .inr ⟨go i _ H2 s2 hlt g2 R2 hok, fun σ' H' => ∃ w s e, Rel X.K w s H' ∧ G w H' ∧ ER X.K w H' e σ' ∧ SOut X.K w H' W D (forGo src p mb (src.items.drop (i + 1)) e s), fun σ' H' ⟨w, s, e, b1, b2, b3, b4⟩ => ⟨src.items.length - (i + 1), by omega, w, s, e, rfl, hlt, b1, b2, b3, b4⟩, fun x H3 y => ?_⟩
      obtain ⟨F3, R3, V3⟩ := yl i a _ H2 s2 x H3 ha g2 R2 hok y
      have g3 := hG.fut F3 g2
      have o3 := SOut.fut F3 o
      split at o3
      · rename_i e1 he1
        refine gP_ok V3 he1 (E2.fut F3) fun σ3 E3 _ => ⟨w2, s2, e1, E3, ?_, ?_⟩
        · exact (by have := F3; exact R3)
        · split at o3
          · rename_i e4 s4 hb4; rw [hb4]
            exact fun w' H' σ' F R E => ⟨w', s4, e4, R, hG.fut F g3, E, SOut.fut F o3⟩
          · rename_i e4 s4 hb4; rw [hb4]
            exact fun w' H' σ' F R E => ⟨w', s4, e4, R, hG.fut F g3, E, SOut.fut F o3⟩
          · rename_i e4 s4 hb4; rw [hb4]; exact o3
          · rename_i v4 s4 hb4; rw [hb4]; exact o3
          · rename_i c4 f4 e4 s4 hb4; rw [hb4]; exact o3
          · exact o3.elim
      · exact o3.elim
    · exact o.elim
  · have e0 : i = src.items.length := by omega
    subst e0
    rw [List.drop_length] at o
    unfold forGo at o
    split at o
    · rename_i hok
      exact .inl ⟨stop _ H2 s2 g2 R2 hok, o w2 H2 σ2 Fut.refl R2 E2⟩
    · exact o.elim⟩

/-! ### while -/
def whGo (t : TM) (body : SM) : Nat → AE → Sto → SR
  | 0, _, _ => .no
  | n + 1, e, s => (t e s).sbind e fun b s => if b then (match body e s with
    | .nx e2 s2 => whGo t body n e2 s2
    | .ct e2 s2 => whGo t body n e2 s2
    | .bk e2 s2 => .nx e2 s2
    | .rt v s2 => .rt v s2
    | .exc c fs e2 s2 => .exc c fs e2 s2
    | .no => .no) else .nx e s
def sWh (n : Nat) (t : TM) (body : SM) : SM := fun e s => whGo t body n e s
theorem rs_while {n : Nat} {c : Expr} {body : List Stmt} {mb : SM} (hp : PassesOwn (model X.prog X.w) X.A X.env X.xe) (hc : RT X W c tt) (hb : RSs X W body mb) : RS X W (.While c body [] pos) (sWh n tt mb) :=
  (ps_while hp hc hb).imp fun D σ H ⟨w, s, e, E, R, h⟩ => by
    refine ⟨fun m σ H => ∃ w s e, ER X.K w H e σ ∧ Rel X.K w s H ∧ SOut X.K w H W D (whGo tt mb m e s), ⟨n, w, s, e, E, R, h⟩, ?_⟩
    rintro m σ2 H2 ⟨w2, s2, e2, E2, R2, o⟩
    cases m with
    | zero => exact o.elim
    | succ m =>
      unfold whGo at o
      refine ⟨w2, s2, e2, E2, R2, sbind_out E2 o fun b s3 w3 H3 F3 R3 h3 => ?_⟩
      cases b with
      | false => exact iteF (h3 w3 H3 σ2 Fut.refl R3 (E2.fut F3))
      | true =>
        refine iteT ⟨fun σ' H' => ∃ w s e, ER X.K w H' e σ' ∧ Rel X.K w s H' ∧ SOut X.K w H' W D (whGo tt mb m e s), fun σ' H' q => ⟨m, Nat.lt_succ_self m, q⟩, w3, s3, e2, E2.fut F3, R3, ?_⟩
        rw [if_pos rfl] at h3
        split at h3
        · rename_i e4 s4 hb4; rw [hb4]
          exact fun w' H' σ' F R E => ⟨w', s4, e4, E, R, SOut.fut F h3⟩
        · rename_i e4 s4 hb4; rw [hb4]
          exact fun w' H' σ' F R E => ⟨w', s4, e4, E, R, SOut.fut F h3⟩
        · rename_i e4 s4 hb4; rw [hb4]; exact h3
        · rename_i v4 s4 hb4; rw [hb4]; exact h3
        · rename_i c4 f4 e4 s4 hb4; rw [hb4]; exact h3
        · exact h3.elim
end
end S
set_option Elab.async false
set_option linter.all false
set_option maxRecDepth 100000
/-! Layer S. SO: the items of a dict with keys that are tuples, walked while it is locked. -/
namespace S
open PySem PySem.Spec PyProof.Rows L2 StX
theorem pget' {α β : Type} {F : α → β → Prop} : ∀ {xs : List α} {ys : List β}, Paired F xs ys → ∀ {i : Nat} {x : α}, xs[i]? = some x → ∃ y, ys[i]? = some y ∧ F x y
  | _, _, .nil, i, x, h => by simp at h
  | _, _, .cons r t, 0, x, h => by simp at h; subst h; exact ⟨_, by simp, r⟩
  | _, _, .cons r t, i + 1, x, h => by
    obtain ⟨y, h1, h2⟩ := pget' t (i := i) (x := x) (by simpa using h)
    exact ⟨y, by simpa using h1, h2⟩
section
variable {X : Cx} {pins : List (Addr × Obj)} {σ : L2.St} {H : Hp} {s : Shared} {d : Addr} {o : Obj}
theorem lockT {kvs : List (List Key × V)} (I : Inv X pins σ H s) (h : H d = some (.frz o (.dT kvs))) : ∃ (es : Array DictEntry) (ep : Nat), o.data = .dict es ep ∧ (d == sysModules) = false ∧ DT.Raw s.heap d es ep ∧ es.size = kvs.length ∧
    ∀ (i : Nat) (k : List Key) (v : V), kvs[i]? = some (k, v) → ∃ (q : Addr) (u : Value), (∃ hi : i < es.size, es[i].key = .ref q ∧ es[i].val = u) ∧ H q = some (.tup (k.map kV)) ∧ RelV v u := by
  obtain ⟨hd, _, hs, xs, pr, o', es, ep, ho, hx, hdt, he, _⟩ := I.hok d _ h
  rw [hd] at ho
  cases ho
  have l1 : es.size = xs.length := by rw [← Array.length_toList, he, List.length_map]
  have l2 : kvs.length = xs.length := Paired.length pr
  refine ⟨es, ep, hdt, hs, ⟨o, hd, hx, hdt⟩, by omega, fun i k v hi => ?_⟩
  obtain ⟨⟨k', q, u⟩, hb, e1, e2, e3⟩ := pget' pr hi
  have hl : i < xs.length := (List.getElem?_eq_some_iff.mp hb).1
  have hes : es[i]? = some (entryOfKey (tupleKind (mixKind X.prog X.w)) (k', q, u)) := by
    rw [← Array.getElem?_toList, he, List.getElem?_map, hb]; rfl
  obtain ⟨hi', e4⟩ := Array.getElem?_eq_some_iff.mp hes
  exact ⟨q, u, ⟨hi', by rw [e4]; rfl, by rw [e4]; rfl⟩, e2, e3⟩
end
/-- each item in a new pair -/
def ItiT (d : Addr) (o : Obj) (kvs : List (List Key × V)) : It :=
  ⟨fun i H => H d = some (.frz o (.dT kvs)) ∧ i < kvs.length, fun i H x H' => ∃ T k v q, kvs[i]? = some (k, v) ∧ x = .ref T ∧ H T = none ∧ H q = some (.tup (k.map kV)) ∧ H' = upd H T (.tup [.ref q, v]), fun i H => H d = some (.frz o (.dT kvs)) ∧ kvs.length ≤ i⟩
theorem raw_ep {o : Obj} {es es' : Array DictEntry} {ep ep' : Nat} (h : o.data = .dict es ep) (h' : o.data = .dict es' ep') : es' = es ∧ ep' = ep := by
  rw [h] at h'; cases h'; exact ⟨rfl, rfl⟩
theorem turn_itemsT {P : Program} {w : World} {K : PySem.W.Frag} {d : Addr} {o : Obj} {es : Array DictEntry} {ep : Nat} {kvs : List (List Key × V)} {elts : List Expr} {kk : Nat} {tpos : Pos} (it : Addr) (hod : o.data = .dict es ep) :
    Turn P w K (.Tuple elts kk tpos) (ItiT d o kvs) [it] it (fun i h => ∃ ok ov, IsItemIter h it d i es.size ep ok ov) where
  mem := by simp
  obj := fun i h ⟨ok, ov, e⟩ c hc => by
    rw [List.mem_singleton.mp hc]
    exact ⟨_, e, fun v z => nomatch z⟩
  keep := fun i h h' ⟨ok, ov, e⟩ k => ⟨ok, ov, k it (by simp) _ e⟩
  item := by
    intro X hP hw hK hc i pins s σ H E I hf ⟨ok, ov, he⟩ ⟨hd, hi⟩
    subst hP hw hK
    obtain ⟨es', ep', hdt, hs, raw, hsz, ent⟩ := lockT I hd
    obtain ⟨rfl, rfl⟩ := raw_ep hod hdt
    obtain ⟨⟨k, v⟩, hkv⟩ : ∃ p, kvs[i]? = some p := ⟨kvs[i], List.getElem?_eq_getElem hi⟩
    obtain ⟨q, u, ⟨hi', ek, eu⟩, hq, ru⟩ := ent i k v hkv
    have hlt : it < s.heap.objs.size := Heap.lt_size he
    refine DT.nextI he raw hi' fun h' ho hT hz hk => ⟨_, rfl, wpAny_letOwnedTupleGo_items (s := { s with heap := h' }) ho fun h'' he' sb => ?_⟩
    rw [ek, eu] at hT he'
    have hT2 : h''.get? s.heap.objs.size = some { cls := .type "tuple", data := .seq #[.ref q, u] } := (sb.2 _ (Nat.ne_of_gt hlt)).trans hT
    have new : ObjOk X.prog X.w (upd H s.heap.objs.size (.tup [.ref q, v])) h'' s.heap.objs.size (.tup [.ref q, v]) := ⟨by show 2 ≤ sizeLine; decide, [.ref q, u], .cons rfl (.cons ru .nil), ⟨_, hT2, rfl, _, rfl⟩⟩
    have J : Inv X pins σ (upd H s.heap.objs.size (.tup [.ref q, v])) { s with heap := h'' } :=
      I.turnedNew (t' := s.toks) (ch := [it]) (fun c ob hb e => (sb.2 c (by simpa using hb)).trans (hk c ob (by simpa using hb) e)) hf (Nat.le_refl _) new
    refine ⟨.ref s.heap.objs.size, _, J, rfl, ⟨_, k, v, q, hkv, rfl, I.hok.fresh (Nat.le_refl _), hq, rfl⟩, ⟨_, _, he'⟩, fun c hcm => ?_⟩
    rw [List.mem_singleton.mp hcm, upd_ne (Nat.ne_of_lt hlt)]
    exact (hf it (by simp)).1
  done := by
    intro X hP hw hK hc i pins s σ H E I hf ⟨ok, ov, he⟩ ⟨hd, hi⟩
    subst hP hw hK
    obtain ⟨es', ep', hdt, hs, raw, hsz, ent⟩ := lockT I hd
    obtain ⟨rfl, rfl⟩ := raw_ep hod hdt
    exact DT.endI (I.ok.hd hc) he raw (by omega) fun h' eb => ⟨rfl, I.turnedL (t' := s.toks) (ch := [it]) (fun c ob hb q => eb c ob (by simpa using hb) q) hf⟩
  self := fun A i s Q E ⟨_, _, e⟩ h => PySem.W.kcp_self e h
def iItemsT (td : TE) : TI := fun σ H R => td σ H fun x H1 => ∃ d o kvs, x = .ref d ∧ H1 d = some (.frz o (.dT kvs)) ∧ R (ItiT d o kvs) H1
theorem pi_itemsT {X : Cx} {e : Expr} {td : TE} {apos cpos tpos : Pos} {elts : List Expr} {kk : Nat} (he : PE X e td) (hbase : attributeBase e "items" X.env (eval e X.env) = eval e X.env) (hline : (apos.endLine == cpos.line) = true) :
    PI X (.Tuple elts kk tpos) (.Call (.Attribute e "items" apos) [] [] cpos) (iItemsT td) := by
  refine ⟨fun pins s σ H R I h => wpAny_Call_method (T := "dict") (id := "dict.items") hbase rfl hline PySem.F.plainAttrs_dict PySem.F.slot_dict_items PySem.F.type_dict_items (thn (he.run pins s σ H _ I h) fun u s1 ⟨x, H1, J, rx, d, o, kvs, ex, hd, q⟩ => ?_)⟩
  subst ex
  obtain rfl : u = Value.ref d := rx
  obtain ⟨es, ep, hdt, hs, raw, hsz, _⟩ := lockT J hd
  refine ⟨raw.typeIs, fun b eb => ?_, ?_⟩
  · cases eb
    obtain ⟨ob, ho, hx, _⟩ := raw
    exact ⟨ob, ho, hx.2.1⟩
  · show wpAny _ _ (callWith cpos (.builtin "dict.items") [.ref d] [] []) _ X.xe s1
    refine Calls.callWith_builtin rfl (PySem.evalArgs_none (DT.callItems hs raw ?_))
    have J2 : Inv X pins σ H1 { s1 with heap := s1.heap.push { cls := .type "dict_items", data := .fields #[.ref d] } } := J.kept (t' := s1.toks) fun c ob z => Heap.get?_push_of_some _ z
    refine DT.iterI ⟨_, Heap.get?_push_size _ rfl, rfl, rfl⟩ (raw.push _) ?_
    exact pi_one (tk := s1.toks) J2 _ (turn_itemsT _ hdt) ⟨.none, .none, Heap.get?_push_size _ rfl⟩ q
/-! ### in the layer -/
def keyA : Key → AV
  | .inl i => .int i
  | .inr x => .str x
theorem keyA_ok {K : PySem.W.Frag} {w : Wd} {H : Hp} : ∀ ks : List Key, VRs K w H (ks.map keyA) (ks.map kV)
  | [] => .nil
  | .inl i :: ks => .cons (.int i) (keyA_ok ks)
  | .inr x :: ks => .cons (.str x) (keyA_ok ks)
theorem Rel.notup {K : PySem.W.Frag} {w : Wd} {s : Sto} {H : Hp} (R : Rel K w s H) {p : Addr} {ys : List V} (h : H p = some (.tup ys)) : p ∉ w.ι ∧ p ∉ w.π := by
  refine ⟨fun z => ?_, fun z => ?_⟩
  · obtain ⟨n, hn, e⟩ := List.mem_iff_getElem.mp z
    have h1 : w.ι[n]? = some p := by rw [← e]; simp [hn]
    obtain ⟨o, ho⟩ : ∃ o, s[n]? = some o := ⟨s[n]'(by rw [← R.len]; exact hn), by simp [(by rw [← R.len]; exact hn : n < s.length)]⟩
    obtain ⟨u, hu, r⟩ := R.ob n p o h1 ho
    rw [h] at hu
    cases hu
    cases r
  · obtain ⟨⟨zs, e⟩, _⟩ := R.pi p z
    rw [h] at e
    cases e
/-- d.items() of the locked dict -/
def itemsA (kvs : List (List Key × AV)) : List AV := kvs.map fun kv => .tup [.tup (kv.1.map keyA), kv.2]
def iIt (m : EM) : IM := fun e s => (m e s).bind fun a s => match a with
  | .ref n => match s[n]? with
    | some (.frz (.dT kvs)) => .ok ⟨itemsA kvs, [(n, .frz (.dT kvs))]⟩ s
    | _ => .no
  | _ => .no
theorem KR.get {K : PySem.W.Frag} {w : Wd} {H : Hp} {κ : Type} : ∀ {xs : List (κ × AV)} {ys : List (κ × V)} {i : Nat} {k : κ} {v : V}, KR K w H xs ys → ys[i]? = some (k, v) → ∃ a, xs[i]? = some (k, a) ∧ VR K w H a v
  | _, _, _, _, _, .nil, h => by simp at h
  | _, _, 0, _, _, .cons r t, h => by simp at h; obtain ⟨rfl, rfl⟩ := h; exact ⟨_, by simp, r⟩
  | _, _, i + 1, k, v, .cons r t, h => by
    obtain ⟨a, h1, h2⟩ := KR.get t (i := i) (k := k) (v := v) (by simpa using h)
    exact ⟨a, by simpa using h1, h2⟩
section
variable {X : Cx} {W : WX} {a : Expr} {ma m : EM} {pos p apos cpos : Pos} {e : Expr}
theorem ri_items {elts : List Expr} {kk : Nat} {tpos : Pos} (ha : RE X W a ma) (hbase : attributeBase a "items" X.env (eval a X.env) = eval a X.env := by rfl) (hline : (apos.endLine == cpos.line) = true := by rfl) :
    RI X W (.Tuple elts kk tpos) (.Call (.Attribute a "items" apos) [] [] cpos) (iIt ma) :=
  (pi_itemsT ha hbase hline).imp fun σ H Q ⟨w, s, e, E, R, h⟩ => ⟨w, s, e, E, R, h.bind fun x s1 w1 H1 F1 R1 h1 v V1 => by
    split at h1
    · rename_i n
      split at h1
      · rename_i kvs hs
        cases V1 with
        | @ref _ d hn =>
          obtain ⟨u, hu, r⟩ := R1.ob _ _ _ hn hs
          cases r with
          | @frz _ ob u' r =>
            cases r with
            | @dT _ ys kr =>
              refine ⟨d, ob, ys, rfl, hu, h1.src R1 ⟨fun w H => w.ι[n]? = some d ∧ H d = some (.frz ob (.dT ys)), ⟨fun F q => ⟨F.at q.1, F.frz _ _ _ q.2⟩, fun hn q => ⟨q.1, by rw [upd_ne (ne_of_none q.2 hn)]; exact q.2⟩, fun {w H d' u'} hd nd q => ?_⟩, ⟨hn, hu⟩, ?_, ?_, ?_⟩⟩
              · refine ⟨q.1, ?_⟩
                rw [upd_ne]
                · exact q.2
                · rintro rfl
                  exact nd (List.mem_of_getElem? q.1)
              · intro i w H s hi q R ok
                exact ⟨q.2, by rw [← kr.length]; simpa [itemsA] using hi⟩
              · intro w H s q R ok
                exact ⟨q.2, by rw [← kr.length]; simp [itemsA]⟩
              · intro i z w H s x H' hx q R ok ⟨T, k, vv, qk, e1, e2, e3, e4, e5⟩
                subst e2 e5
                have h2 := ok _ (List.mem_singleton.mpr rfl)
                obtain ⟨u2, hu2, r2⟩ := R.ob _ _ _ q.1 h2
                rw [q.2] at hu2
                cases hu2
                cases r2 with
                | frz r2 =>
                  cases r2 with
                  | dT kr2 =>
                    obtain ⟨av, g1, g2⟩ := KR.get kr2 e1
                    have hz : z = .tup [.tup (k.map keyA), av] := by
                      unfold itemsA at hx
                      rw [List.getElem?_map, g1] at hx
                      cases hx; rfl
                    subst hz
                    have nt := R.notup e4
                    exact ⟨Fut.lay e3, R.lay e3, VR.layT R e3 (.cons (.tup ⟨nt.1, nt.2, e4⟩ (keyA_ok k)) (.cons g2 .nil))⟩
      · exact h1.elim
    · exact h1.elim⟩
end
end S
set_option Elab.async false
set_option linter.all false
set_option maxRecDepth 100000
/-! Layer S. SP: locks; the guards; repr. -/
namespace S
open PySem PySem.Spec PyProof.Rows L2 StX
theorem Rel.set' {K : PySem.W.Frag} {w : Wd} {s : Sto} {H : Hp} {n : Nat} {d : Addr} {o : AO} {u : HO} (R : Rel K w s H) (hn : w.ι[n]? = some d) (r : OR K w (upd H d u) o u) : Rel K w (s.set n o) (upd H d u) := by
  have hd : d ∈ w.ι := List.mem_of_getElem? hn
  refine ⟨by simp [R.len], R.nd, fun i p o' h1 h2 => ?_, fun p hp => ?_⟩
  · by_cases hi : i = n
    · subst hi
      rw [hn] at h1; cases h1
      have hl : i < s.length := by rw [← R.len]; exact (List.getElem?_eq_some_iff.mp hn).1
      rw [List.getElem?_set_self hl] at h2; cases h2
      exact ⟨u, upd_same, r⟩
    · rw [List.getElem?_set_ne (Ne.symm hi)] at h2
      obtain ⟨v, hv, q⟩ := R.ob i p o' h1 h2
      refine ⟨v, ?_, q.mono fun _ _ z => z.upd (.inl hd)⟩
      rw [upd_ne]
      · exact hv
      · rintro rfl
        exact hi (nodup_get R.nd h1 hn)
  · obtain ⟨⟨ys, h1⟩, h2⟩ := R.pi p hp
    refine ⟨⟨ys, ?_⟩, h2⟩
    rw [upd_ne]
    · exact h1
    · rintro rfl; exact h2 hd
def eLock (pick : AE → Sto → Option Nat) (m : EM) : EM := fun e s => match pick e s with
  | some n => match s[n]? with
    | some (.dT kvs) => (match m e (s.set n (.frz (.dT kvs))) with
      | .ok a s' => (match s'[n]? with
        | some (.frz (.dT kvs')) => .ok a (s'.set n (.dT kvs'))
        | _ => .no)
      | _ => .no)
    | _ => .no
  | none => .no
section
variable {X : Cx} {W : WX} {e : Expr} {m : EM}
theorem re_lock {pick : AE → Sto → Option Nat} (h : RE X W e m) : RE X W e (eLock pick m) := (pe_lock h).imp fun σ H Q ⟨w, s, e, E, R, h⟩ => by
  unfold eLock at h
  split at h
  · rename_i n _
    split at h
    · rename_i kvs hs
      obtain ⟨d, hn⟩ := R.at hs
      have hd : d ∈ w.ι := List.mem_of_getElem? hn
      obtain ⟨u, hu, r⟩ := R.ob _ _ _ hn hs
      cases r with
      | @dT _ ys kr =>
        refine ⟨d, _, hu, trivial, fun od => ⟨w, _, e, E.mono fun _ _ z => z.upd (.inl hd), R.put hn (fun _ _ z => by rw [hu] at z; cases z) (.frz (.dT kr)), ?_⟩⟩
        split at h
        · rename_i a s' hm
          rw [hm]
          intro w' H' F R' v V
          have hF : H' d = some (.frz od (.dT ys)) := F.frz _ _ _ upd_same
          refine ⟨hF, ?_⟩
          split at h
          · rename_i kvs' hs'
            have hn' := F.at hn
            have hd' : d ∈ w'.ι := List.mem_of_getElem? hn'
            obtain ⟨u2, hu2, r2⟩ := R'.ob _ _ _ hn' hs'
            rw [hF] at hu2
            cases hu2
            cases r2 with
            | frz r2 =>
              refine h w' _ ⟨F.pre, F.pi, fun p o hp n => ?_, fun p h1 n => ?_, fun p ob v hp => ?_⟩ (R'.set' hn' (r2.mono fun _ _ z => z.upd (.inl hd'))) v (V.upd (.inl hd'))
              · have ne : p ≠ d := by rintro rfl; exact n hd
                rw [upd_ne ne]
                exact F.keep p o (by rw [upd_ne ne]; exact hp) n
              · have ne : p ≠ d := by rintro rfl; exact n hd
                have := F.new p h1 n
                rwa [upd_ne ne] at this
              · have ne : p ≠ d := by rintro rfl; rw [hu] at hp; cases hp
                rw [upd_ne ne]
                exact F.frz p ob v (by rw [upd_ne ne]; exact hp)
          · exact h.elim
        · exact h.elim
    · exact h.elim
  · exact h.elim
end
/-! ### defs that are called where no repr is under way -/
structure FnG (P : Program) (w : World) (K : PySem.W.Frag) (mg : Str → Option Value) (base : Heap) (CX : CXT) (k : Nat) (f : Addr) (fd : FuncData) (ps : List Str) (sp : Sp) : Prop where
  len : ∀ vs H Q E, sp vs H Q E → vs.length = ps.length
  run : ∀ (A : Around) (outer : List Env) (s : Shared) (H : Hp) (args : Args) (us : List Value) (vs : List V) (Q : VK) (E : XK), A.guards = some [] → Room k A → Env0 P w K mg base A outer s H → BindsTo s fd args (ps.zip us) → Vals vs us → sp vs H Q E →
    codeAny (model P w) A (.call (.ref f) args) (CR CX outer P w H s Q E) s
theorem FnG.of {P : Program} {w : World} {K : PySem.W.Frag} {mg : Str → Option Value} {base : Heap} {CX : CXT} {k : Nat} {f : Addr} {x qual : Str} {params : Arguments} {body : List Stmt} {scope : Scope} {fd : FuncData} {N ps : List Str} {sp : Sp}
    (F : FunD K x qual params body scope [] [] f fd) (S : FnScope N ps scope) (len : ∀ vs H Q E, sp vs H Q E → vs.length = ps.length)
    (hb : ∀ (cdv : Value) (A : Around) (outer : List Env) (s : Shared) (H : Hp) (vs : List V) (Q : VK) (E : XK), A.guards = some [] → Room k (A.deeper (envOfC qual scope s.heap.objs.size f cdv)) → sp vs H Q E →
      ∃ t, PSs (cxOf CX P w K mg base N qual scope f cdv A outer s H E) body t ∧ t { nx := fun _ H' => Q .non H', rt := Q } (L2.start N vs) H) : FnG P w K mg base CX (k + 1) f fd ps sp := by
  obtain ⟨oc, od, dV, kV, doc, pm, an, cdv, ct, osl, rfl, lk, hcd, _, _⟩ := F.ex
  refine ⟨len, fun A outer s H args us vs Q E gd hr e0 bt rv hsp => ?_⟩
  have inK : K.In s.heap := e0.mod.kin.keeps fun b o e => (e0.bs b o e).1
  refine codeAny_call_function hr.depth (inK _ _ lk) rfl S.co S.gen rfl (PySem.W.codeRec_of inK hcd) (bt _ _ _ _ (wpAny_newFunctionEnv_cells S.kind (fun y hy => ?_) fun env he s1 x => ?_))
  · rcases S.par y.1 (List.of_mem_zip hy).1 with q | q
    · exact .inl q
    · exact .inr ⟨q, PySem.W.cellsFrom_some _ _ _ (.inl q)⟩
  · subst he
    refine ⟨(e0.mod.nolimit.keeps fun b o e => (e0.bs b o e).1).keeps x.toInCall.keep, codeAny_func ?_⟩
    obtain ⟨t, ht, hq⟩ := hb cdv A outer s H vs Q E gd (hr.deeper _) hsp
    refine wpAny_mono (ht.run [] s1 (L2.start N vs) H _ (inv_start S hr.hd e0 (len _ _ _ _ hsp) rv x) hq) (fun fl s' hs => ?_) fun e s' hs => hs
    cases fl with
    | ret u => obtain ⟨v, σ', H', J, r, q⟩ := hs; exact ⟨v, H', J.os, J.bare, J.base, J.hok, r, q⟩
    | next => obtain ⟨σ', H', J, q⟩ := hs; exact ⟨.non, H', J.os, J.bare, J.base, J.hok, rfl, q⟩
    | brk => obtain ⟨_, _, _, q⟩ := hs; exact False.elim q
    | cont => obtain ⟨_, _, _, q⟩ := hs; exact False.elim q
/-- THE RULE for such a def -/
theorem fn_okG {P : Program} {w : World} {K : PySem.W.Frag} {mg : Str → Option Value} {base : Heap} {x qual : Str} {params : Arguments} {body : List Stmt} {scope : Scope} {f : Addr} {fd : FuncData} {N ps : List Str} {k : Nat} {m : SM}
    (F : FunD K x qual params body scope [] [] f fd) (S : FnScope N ps scope)
    (hb : ∀ (cdv : Value) (A : Around) (outer : List Env) (s : Shared) (H : Hp) (E : XK), A.guards = some [] → Room k (A.deeper (envOfC qual scope s.heap.objs.size f cdv)) → Takes (cxOf (L2.CX P w) P w K mg base N qual scope f cdv A outer s H E) (fun c d _ H' => E c d H') →
      RSs (cxOf (L2.CX P w) P w K mg base N qual scope f cdv A outer s H E) (fun c d _ H' => E c d H') body m) : FnG P w K mg base (L2.CX P w) (k + 1) f fd ps (spM K (fnM ps.length N.length m)) :=
  FnG.of F S (fun _ _ _ _ h => spM_len h) fun cdv A outer s H vs Q E gd hr hsp => ⟨_, hb cdv A outer s H E gd hr (takes_of rfl rfl rfl rfl), by
    obtain ⟨w, st, as, r, R, o⟩ := hsp
    exact ⟨w, st, _, start_er r N, R, body_out o⟩⟩
section
variable {X : Cx} {W : WX} {a b c : Expr} {es : List Expr} {ma mb mc : EM} {ms : AM} {pos p apos cpos : Pos} {x f m cn : Str} {k : Nat} {g C : Addr} {fd : FuncData} {ps : List Str} {fm : Fn}
theorem re_callG (hgd : X.A.guards = some []) (F : FnG X.prog X.w X.K X.mg X.base (L2.CX X.prog X.w) k g fd ps (spM X.K fm)) (hr : Room k X.A) (hm : X.mg x = some (.ref g)) (hk : PySem.W.keepIn X.K (.ref g) = true) (hb : Binds X.K fd ps []) (tk : Takes X W) (ha : RA X W (a :: es) ms) (hg : Gl X x := by rfl)
    (hdb : (x == ("__debug__" : Str)) = false := by decide) (he : starEach (a :: es) X.env = (false, eval a X.env) :: starEach es X.env := by rfl) (hpl : (backTo pos (starEach es X.env)).any (·.1) = false := by rfl) : RE X W (.Call (.Name x p) (a :: es) [] pos) (eFn fm ms) := by
  refine PE.imp (t := fun σ H Q => tAM X.K W ms σ H fun vs H1 => spM X.K fm vs H1 Q (WE W σ)) ⟨fun pins s σ H Q I h => ?_⟩ fun _ _ _ h => fn_read h
  refine wpAny_Call_Name_kw (ld_glob I hg hm (PySem.W.callWith_K (h₀ := X.base) I.ok.mod.kin hk (thn (ha.run pos pins s σ H _ I h) fun us s1 ⟨vs, H1, J, r, q⟩ => ⟨J.kIn, ?_⟩) he hpl) hdb)
  have hl : us.length = ps.length := by rw [← r.length]; exact F.len _ _ _ _ q
  have bt := hb s1 us J.kIn (by rw [List.append_nil]; exact hl)
  rw [List.append_nil] at bt
  refine wpAny_call (codeAny_mono (F.run X.A X.stack s1 H1 ⟨us, []⟩ us vs Q _ hgd hr J.env0 bt r q) fun r s' hq => ?_)
  cases r with
  | error e => exact passAt tk σ pins H1 s1 e s' J hq
  | ok fl => cases fl with
    | ret u => exact J.after hq
    | next => exact False.elim hq
    | brk => exact False.elim hq
    | cont => exact False.elim hq

/-! ### repr -/
/-- repr of data -/
def reprA : GL := fun as s => match as with
  | [a] => match pdA a s with
    | some d => if d.showable = true ∧ d.hasDict = false ∧ d.depth ≤ 64 ∧ d.shown.length ≤ 16777216 then some (.str d.shown, s) else none
    | none => none
  | _ => none
theorem call_reprS (hgd : X.A.guards = some []) (hu : X.A.units + 80 < cLine) : CallR X (.builtin "repr") (rML X.K reprA) := by
  intro pins s σ H vs us Q I r ⟨w, st, as, a, s', V1, R, e, p⟩
  unfold reprA at e
  split at e
  · split at e
    · rename_i d hd
      split at e
      · rename_i hok
        cases e
        obtain ⟨h1, h2, h3, h4⟩ := hok
        obtain ⟨v, rfl, hv⟩ := V1.one
        have dp := pdA_dp R hv hd
        obtain ⟨u, rfl, ru⟩ := r.one
        obtain ⟨as, rd⟩ := Dp.reads I _ _ _ dp ru
        have hz : d.shown.length ≤ sizeLine := by rw [szl]; exact h4
        cases rd with
        | none => exact PySem.P.repr_of_none ⟨.str _, H, I.tok _, ⟨_, rfl⟩, p.val R (.str _)⟩
        | bool b => exact PySem.P.repr_of_bool ⟨.str _, H, I.tok _, ⟨_, rfl⟩, p.val R (.str _)⟩
        | int i t => exact PySem.P.repr_of_int (by simpa [PyData.showable] using h1) ⟨.str _, H, I.tok _, ⟨_, rfl⟩, p.val R (.str _)⟩
        | str x t => exact PySem.P.repr_of_str ⟨.str _, H, I.tok _, ⟨_, rfl⟩, p.val R (.str _)⟩ hz
        | list q1 q2 q3 q4 => exact PySem.repr_of_reads' (.list q1 q2 q3 q4) h1 (fun z => by rw [h2] at z; cases z) hgd (by omega) (fun _ _ e => e) (fun h' u tk hk => ⟨.str _, H, I.kept hk, ⟨_, rfl⟩, p.val R (.str _)⟩) hz
        | tuple q1 q2 q3 q4 => exact PySem.repr_of_reads' (.tuple q1 q2 q3 q4) h1 (fun z => by rw [h2] at z; cases z) hgd (by omega) (fun _ _ e => e) (fun h' u tk hk => ⟨.str _, H, I.kept hk, ⟨_, rfl⟩, p.val R (.str _)⟩) hz
        | dict q1 q2 q3 q4 q5 => exact PySem.repr_of_reads' (.dict q1 q2 q3 q4 q5) h1 (fun z => by rw [h2] at z; cases z) hgd (by omega) (fun _ _ e => e) (fun h' u tk hk => ⟨.str _, H, I.kept hk, ⟨_, rfl⟩, p.val R (.str _)⟩) hz
      · cases e
    · cases e
  · cases e
end
end S
set_option Elab.async false
set_option linter.all false
set_option maxRecDepth 100000
/-! Layer S. SQ: raise, try. -/
namespace S
open PySem PySem.Spec PyProof.Rows L2 StX
theorem fly_keeps {base : Heap} {l : List Env} {e : Addr} {Z : Obj → Prop} {h h' : Heap} (f : HandSPX.FlyingZ base l e Z h) (k : ∀ b o, h.get? b = some o → h'.get? b = some o) : HandSPX.FlyingZ base l e Z h' := by
  obtain ⟨f1, f2, f3, oe, vs, T, oT, ts, a1, a2, a3, a4, a5, a6, a7, a8, a9⟩ := f
  exact ⟨fun b o q => k b o (f1 b o q), f2, Heap.FunFrames.of_keeps (fun b o q _ => ⟨o, k b o q, rfl⟩) f3, oe, vs, T, oT, ts, k _ _ a1, a2, a3, a4, a5, a6, k _ _ a7, a8, a9⟩
/-- what the clause 'except (x, y)' wishes -/
def wTup2 (K : PySem.W.Frag) (c1 c2 : Value) (ts : Addr → Value → Option Addr → TS) (Wout : WX) (D : Ends) : WX := fun cls d σ H =>
  ∃ b, PySem.W.exmAny K cls [c1, c2] = some b ∧ (b = true → ∀ a, H a = none → ts a cls d D σ H) ∧ (b = false → Wout cls d σ H)
section
variable {X : Cx} {x y : Str} {c1 c2 : Addr} {body suite : List Stmt} {b₀ : Stmt} {np nq tp pos pos' : Pos} {kk : Nat} {tb : WX → TS} {ts : Addr → Value → Option Addr → TS} {Wout : WX}
theorem ps_try_tup2 (hs : X.stack = X.env :: X.outer) (hf : X.env.frame = some X.env.locals) (gx : Gl X x) (gy : Gl X y) (dx : (x == ("__debug__" : Str)) = false) (dy : (y == ("__debug__" : Str)) = false) (m1 : X.mg x = some (.ref c1)) (m2 : X.mg y = some (.ref c2)) (tk : Takes X Wout)
    (hst : starEach [.Name x np, .Name y nq] X.env = [(false, eval (.Name x np) X.env), (false, eval (.Name y nq) X.env)])
    (hb : ∀ (W : WX) (pn : List (Addr × Obj)) (xe : Value → Shared → Prop), Takes (X.tr pn xe) W → PassesOwn (model X.prog X.w) X.A X.env xe → PSs (X.tr pn xe) body (tb W))
    (hsu : ∀ (a : Addr) (oe : Obj) (cls : Value) (d : Option Addr) (pn : List (Addr × Obj)), Zc cls d oe → (∃ vs, oe.data = .fields vs) → PSs (X.suite a ((a, oe) :: pn)) (b₀ :: suite) (ts a cls d)) :
    PS X (.Try body [.ExceptHandler (some (.Tuple [.Name x np, .Name y nq] kk tp)) none (b₀ :: suite) pos'] [] [] pos) (fun D σ H => tb (wTup2 X.K (.ref c1) (.ref c2) ts Wout D) D σ H) := by
  refine ⟨fun pins s0 σ0 H0 D I h => wpAny_Try_except ?_⟩
  have ok := I.ok
  have frm : X.A.frames = some (X.env :: X.outer) := by rw [ok.frames, hs]
  refine wpAny_mono ((hb (wTup2 X.K (.ref c1) (.ref c2) ts Wout D) (X.pn ++ pins) (fun e t1 => wpAny (model X.prog X.w) X.A (noteFrame e X.env) (fun _ t2 => wpAny (model X.prog X.w) X.A (setFlight e none) (fun _ t3 =>
    wpAny (model X.prog X.w) X.A (handleBy e X.env [.ExceptHandler (some (.Tuple [.Name x np, .Name y nq] kk tp)) none (b₀ :: suite) pos']) (SP X pins D) X.xe t3) X.xe t2) X.xe t1) (fun u s' xx => ?_) PassesOwn.looking).run [] s0 σ0 H0 D (I.toTry _) h) (fun fl s1 hsp => ?_) (fun e s1 he => he)
  · obtain ⟨a, B, sI, pins', σ', H', cls, d, rfl, J', nb, up, sky, na, os, ag, b, hb1, hyes, hno⟩ := xx
    have J : Inv X pins σ' H' sI := J'.ofTry ok
    have sky1 : Sky B (X.env :: X.outer) a (Zc cls d) X.env.locals s'.heap := by rw [← hs]; exact sky
    show wpAny (model X.prog X.w) X.A (noteFrame (.ref a) X.env) _ _ _
    refine Sky.land Zc.steady frm hf sky1 fun h3 fl3 up3 => ?_
    have J3 : Inv X pins σ' H' { s' with heap := h3 } := J.landed nb fl3.1 (up.trans up3) os ag
    obtain ⟨oe3, vs3, he3, hz3, hd3⟩ := fl3.there
    have ne : a ∉ frs (X.env :: X.outer) := fun hm => by
      obtain ⟨_, o', e', hnf⟩ := fl3.2.2.1.mem hm
      rw [he3] at e'; cases e'
      exact hnf _ hd3
    have nL : a ≠ X.env.locals := fun z => ne (List.mem_filterMap.mpr ⟨X.env, List.mem_cons_self, by rw [hf, z]⟩)
    have nF : a ∉ X.fs := fun hm => by
      obtain ⟨e, he, q⟩ := List.mem_filterMap.mp hm
      exact ne (List.mem_filterMap.mpr ⟨e, List.mem_cons_of_mem _ he, q⟩)
    have S3 := J3.suite he3 hd3 na nL nF
    refine wpAny_handleBy_cons (codeAny_handlers_test ?_) (by intro q; cases q)
    refine wpAny_Tuple_spliced ?_
    rw [hst]
    refine Calls.spliced_cons (ld_glob (X := X.suite a ((a, oe3) :: (X.pn ++ pins))) S3 gx m1 (Calls.spliced_cons (ld_glob (X := X.suite a ((a, oe3) :: (X.pn ++ pins))) S3 gy m2 (Calls.spliced_nil ?_) dy)) dx)
    refine ⟨by show 2 ≤ sizeLine; decide, ?_⟩
    have kp : ∀ b o, h3.get? b = some o → (h3.push { cls := .type "tuple", data := .seq #[Value.ref c1, Value.ref c2] }).get? b = some o := fun b o q => Heap.get?_push_of_some _ q
    have LT : PySem.W.Looks (model X.prog X.w) (h3.push { cls := .type "tuple", data := .seq #[Value.ref c1, Value.ref c2] }) (typeOf (.ref a)) cls := fun A Q E s k q => wpAny_typeOf_ref (k _ _ (kp _ _ he3)) (by rw [hz3.1]; exact q)
    have LM := PySem.W.exm_tup2 (M := model X.prog X.w) (tp := h3.objs.size) (J3.kIn.keeps kp) LT (Heap.get?_push_size _ rfl) hb1
    refine LM.here ?_
    have fl4 := fly_keeps fl3 kp
    have up4 : h3.UpToSlots (h3.push { cls := .type "tuple", data := .seq #[Value.ref c1, Value.ref c2] }) := Heap.UpToSlots.of_keeps kp
    cases b with
    | true =>
      refine codeAny_handlers_suite (HandSPX.lands_againZ fl4 fun h5 fl5 up5 => ?_)
      have J5 : Inv X pins σ' H' { s' with heap := h5 } := J.landed nb fl5.1 (((up.trans up3).trans up4).trans up5) os ag
      obtain ⟨oe5, vs5, he5, hz5, hd5⟩ := fl5.there
      refine wpAny_mono ((hsu a oe5 cls d (X.pn ++ pins) hz5 ⟨_, hd5⟩).run [] _ _ H' _ (J5.suite he5 hd5 na nL nF) (hyes rfl a na)) (fun fl s6 hsp => ?_) (fun _ _ z => False.elim z)
      cases fl with
      | next => obtain ⟨σ6, H6, S6, q6⟩ := hsp; exact ⟨_, _, S6.unsuite ok, q6⟩
      | brk => obtain ⟨σ6, H6, S6, q6⟩ := hsp; exact ⟨_, _, S6.unsuite ok, q6⟩
      | cont => obtain ⟨σ6, H6, S6, q6⟩ := hsp; exact ⟨_, _, S6.unsuite ok, q6⟩
      | ret u => obtain ⟨v6, σ6, H6, S6, r6, q6⟩ := hsp; exact ⟨_, _, _, S6.unsuite ok, r6, q6⟩
    | false =>
      show wpAny _ X.A (handleBy (.ref a) X.env []) _ _ _
      refine wpAny_handleBy_nil ?_
      obtain ⟨k1, k2, k3, oe, vs, T, oT, ts', he, hz, hd, h1, hr⟩ := id fl4
      unfold PySem.passOn
      refine wpAny_bind (wpAny_field he hd h1 ?_)
      rw [if_neg (show ¬ ((Value.ref T == Value.none) = true) from by simp)]
      have fin : wpAny (model X.prog X.w) X.A (setFlight (.ref a) X.env.frame) (fun _ s4 => wpAny (model X.prog X.w) X.A (throw (.ref a) : Sem Flow) (SP X pins D) X.xe s4) X.xe { s' with heap := h3.push { cls := .type "tuple", data := .seq #[Value.ref c1, Value.ref c2] } } := by
        rw [hf]
        exact HandSPX.setFlight_upZ fl4 fun h5 hh5 up5 => wpAny_throw (tk _ _ ⟨a, B, sI, pins, σ', H', cls, d, rfl, J, nb, ((up.trans up3).trans up4).trans up5, .inr (.inr (by rw [hs]; exact hh5)), na, os, ag, hno rfl⟩)
      first | exact wpAny_bind (wpAny_pure (wpAny_bind fin)) | exact wpAny_bind fin
  · cases fl with
    | next => obtain ⟨σ', H', J', q⟩ := hsp; exact wpAny_execs_nil ⟨σ', H', J'.ofTry ok, q⟩
    | brk => obtain ⟨σ', H', J', q⟩ := hsp; exact ⟨σ', H', J'.ofTry ok, q⟩
    | cont => obtain ⟨σ', H', J', q⟩ := hsp; exact ⟨σ', H', J'.ofTry ok, q⟩
    | ret u => obtain ⟨v, σ', H', J', r, q⟩ := hsp; exact ⟨v, σ', H', J'.ofTry ok, r, q⟩
end
/-! ### in the layer -/
/-- sub: does the clause take an exception of this class -/
def sTry (sub : Str → Option Bool) (body suite : SM) : SM := fun e s => match body e s with
  | .exc c fs e' s' => (match sub c with
    | some true => (match suite e' s' with
      | .exc _ _ _ _ => .no
      | r => r)
    | some false => .exc c fs e' s'
    | none => .no)
  | r => r
section
variable {X : Cx} {W : WX} {sub : Str → Option Bool} {mb ms : SM} {D : Ends} {σ : L2.St} {H : Hp}
theorem suite_out {K : PySem.W.Frag} {w : Wd} {H : Hp} {W : WX} {D : Ends} {r : SR} (h : SOut K w H W D (match r with
      | .exc _ _ _ _ => .no
      | r => r)) : SOut K w H never D r := by
  cases r with
  | exc c fs e s => exact h.elim
  | nx e s => exact h
  | rt e s => exact h
  | bk e s => exact h
  | ct e s => exact h
  | no => exact h
theorem try_read (Wn : WX) (hw : ∀ c b d σ H', sub c = some b → (b = true → ∀ a, H' a = none → tSM X.K never ms D σ H') → (b = false → W (.ref (He.ga X.K c)) d σ H') → Wn (.ref (He.ga X.K c)) d σ H') (h : tSM X.K W (sTry sub mb ms) D σ H) : tSM X.K Wn mb D σ H := by
  obtain ⟨w, s, e, E, R, h⟩ := h
  refine ⟨w, s, e, E, R, ?_⟩
  unfold sTry at h
  cases q : mb e s with
  | nx e1 s1 => rw [q] at h; exact h
  | rt e1 s1 => rw [q] at h; exact h
  | bk e1 s1 => rw [q] at h; exact h
  | ct e1 s1 => rw [q] at h; exact h
  | no => rw [q] at h; exact h.elim
  | exc c fs e1 s1 =>
    rw [q] at h
    intro w' H' σ' d F R' E' x
    dsimp only at h
    split at h
    · rename_i hs
      exact hw c true d σ' H' hs (fun _ a na => ⟨w', s1, e1, E', R', suite_out (SOut.fut F h)⟩) (fun z => nomatch z)
    · rename_i hs
      exact hw c false d σ' H' hs (fun z => nomatch z) fun _ => h w' H' σ' d F R' E' x
    · exact h.elim
variable {x y : Str} {c1 c2 : Addr} {body suite : List Stmt} {b₀ : Stmt} {np nq tp pos pos' : Pos} {kk : Nat}
/-- what a try's body must say, whatever is wished of its exceptions -/
structure TryB (X : Cx) (body : List Stmt) (mb : SM) : Prop where
  run : ∀ (W : WX) (pn : List (Addr × Obj)) (xe : Value → Shared → Prop), Takes (X.tr pn xe) W → PassesOwn (model X.prog X.w) X.A X.env xe → RSs (X.tr pn xe) W body mb
structure TryH (X : Cx) (suite : List Stmt) (ms : SM) : Prop where
  run : ∀ (a : Addr) (pn : List (Addr × Obj)), RSs (X.suite a pn) never suite ms
theorem rs_try2 (hs : X.stack = X.env :: X.outer) (hf : X.env.frame = some X.env.locals) (m1 : X.mg x = some (.ref c1)) (m2 : X.mg y = some (.ref c2)) (hsub : ∀ c b, sub c = some b → PySem.W.exmAny X.K (.ref (He.ga X.K c)) [.ref c1, .ref c2] = some b) (tk : Takes X W) (hb : TryB X body mb) (hh : TryH X (b₀ :: suite) ms)
    (gx : Gl X x := by rfl) (gy : Gl X y := by rfl) (dx : (x == ("__debug__" : Str)) = false := by decide) (dy : (y == ("__debug__" : Str)) = false := by decide) (hst : starEach [.Name x np, .Name y nq] X.env = [(false, eval (.Name x np) X.env), (false, eval (.Name y nq) X.env)] := by rfl) :
    RS X W (.Try body [.ExceptHandler (some (.Tuple [.Name x np, .Name y nq] kk tp)) none (b₀ :: suite) pos'] [] [] pos) (sTry sub mb ms) :=
  (ps_try_tup2 (tb := fun W => tSM X.K W mb) (ts := fun _ _ _ => tSM X.K never ms) hs hf gx gy dx dy m1 m2 tk hst (fun W pn xe t p => hb.run W pn xe t p) fun a oe cls d pn _ _ => hh.run a _).imp fun D σ H h => try_read _ (fun c b d σ H' hs h1 h2 => ⟨b, hsub c b hs, fun z a na => h1 z a na, h2⟩) h
theorem rs_try1 (hs : X.stack = X.env :: X.outer) (hf : X.env.frame = some X.env.locals) (m1 : X.mg x = some (.ref c1)) (hsub : ∀ c b, sub c = some b → PySem.W.exmOne X.K (.ref (He.ga X.K c)) (.ref c1) = some b) (tk : Takes X W) (hb : TryB X body mb) (hh : TryH X (b₀ :: suite) ms)
    (gx : Gl X x := by rfl) (dx : (x == ("__debug__" : Str)) = false := by decide) : RS X W (.Try body [.ExceptHandler (some (.Name x np)) none (b₀ :: suite) pos'] [] [] pos) (sTry sub mb ms) :=
  (ps_try_only (tb := fun W => tSM X.K W mb) (ts := fun _ _ _ => tSM X.K never ms) hs hf (c := .ref c1) ⟨gx, dx, .inl m1⟩ tk (fun W pn xe t p => hb.run W pn xe t p) fun a oe cls d pn _ _ => hh.run a _).imp fun D σ H h => try_read _ (fun c b d σ H' hs h1 h2 => ⟨b, hsub c b hs, fun z a na => h1 z a na, h2⟩) h
/-- except x as n, the clause never comes to its suite -/
def sTryN (body : SM) : SM := fun e s => match body e s with
  | .exc _ _ _ _ => .no
  | r => r
theorem rs_tryAs {n : Str} {i : Nat} (hs : X.stack = X.env :: X.outer) (hf : X.env.frame = some X.env.locals) (hN : X.N.Nodup) (m1 : X.mg x = some (.ref c1)) (tk : Takes X W) (hb : TryB X body mb) (hi : X.N[i]? = some n := by rfl) (hln : X.env.kindOf n = some .local := by rfl)
    (gx : Gl X x := by rfl) (dx : (x == ("__debug__" : Str)) = false := by decide) : RS X W (.Try body [.ExceptHandler (some (.Name x np)) (some n) (b₀ :: suite) pos'] [] [] pos) (sTryN mb) :=
  (ps_try_as (tb := fun W => tSM X.K W mb) (ts := fun _ _ _ => tNever) hs hf hN hi hln (c := .ref c1) ⟨gx, dx, .inl m1⟩ tk (fun W pn xe t p => hb.run W pn xe t p) fun a oe cls d pn _ _ => pss_never).imp fun D σ H ⟨w, s, e, E, R, h⟩ => ⟨w, s, e, E, R, by
    unfold sTryN at h
    cases q : mb e s with
    | nx e1 s1 => rw [q] at h; exact h
    | rt e1 s1 => rw [q] at h; exact h
    | bk e1 s1 => rw [q] at h; exact h
    | ct e1 s1 => rw [q] at h; exact h
    | no => rw [q] at h; exact h.elim
    | exc c fs e1 s1 => rw [q] at h; exact h.elim⟩
/-- raise C(v), one field f -/
def tMkF (C : Addr) (f : Str) (ta : TA) : L2.St → Hp → XK → Prop := fun σ H Q => ta σ H fun vs H1 => ∃ v, vs = [v] ∧ ∀ d, H1 d = none → Q (.ref C) (some d) (upd H1 d (.xd [(f, v)]))
def sRaiseF (cn f : Str) (ms : AM) : SM := fun e s => (ms e s).sbind e fun xs s => match xs with
  | [v] => .exc cn [(f, v)] e s
  | _ => .no
theorem rs_raiseF {cn f : Str} {a : Expr} {ma : AM} (hc : X.calm = true) (tk : Takes X W) (he : PMk X a (tMkF (He.ga X.K cn) f (tAM X.K W ma))) : RS X W (.Raise (some a) none pos) (sRaiseF cn f ma) :=
  (ps_raise hc tk he).imp fun D σ H ⟨w, s, e, E, R, h⟩ => ⟨w, s, e, E, R, sbind_out E h fun xs s1 w1 H1 F1 R1 h1 vs V1 => by
    split at h1
    · obtain ⟨v, rfl, hv⟩ := V1.one
      exact ⟨v, rfl, fun d n => h1 w1 _ σ (some d) (Fut.lay n) (R1.lay n) ((E.fut F1).fut (Fut.lay n)) (.inr ⟨d, _, rfl, upd_same, .cons (hv.fut (Fut.lay n)) .nil⟩)⟩
    · exact h1.elim⟩
/-- raise C() -/
def sRaise0 (cn : Str) : SM := fun e s => .exc cn [] e s
theorem rs_raise0 {cn : Str} {a : Expr} (hc : X.calm = true) (tk : Takes X W) (he : PMk X a (fun _ H Q => Q (.ref (He.ga X.K cn)) none H)) : RS X W (.Raise (some a) none pos) (sRaise0 cn) :=
  (ps_raise hc tk he).imp fun D σ H ⟨w, s, e, E, R, h⟩ => h w H σ none Fut.refl R E (.inl rfl)
end
end S
set_option Elab.async false
set_option linter.all false
set_option maxRecDepth 100000
/-! Layer S. ST: new dicts; some more rules. -/
namespace S
open PySem PySem.Spec PyProof.Rows L2 StX
section
variable {X : Cx} {W : WX} {a b c : Expr} {es : List Expr} {ma mb mc : EM} {ms : AM} {pos pos' p : Pos}
/-- {}: keys plain, keys tuples -/
def eDK : EM := fun _ s => .ok (.ref s.length) (s ++ [.dK []])
def eDT : EM := fun _ s => .ok (.ref s.length) (s ++ [.dT []])
theorem re_dK : RE X W (.Dict [] [] pos) eDK := pe_dnewK.imp fun σ H Q ⟨w, s, e, E, R, h⟩ p n => h (w.add p) _ (Fut.add n) (R.add n (.dK .nil)) _ (VR.add R)
theorem re_dT : RE X W (.Dict [] [] pos) eDT := pe_dnewT.imp fun σ H Q ⟨w, s, e, E, R, h⟩ p n => h (w.add p) _ (Fut.add n) (R.add n (.dT .nil)) _ (VR.add R)
/-- {k: v}, the key a tuple; the new dict stands empty meanwhile -/
def tDisp1 (tk tv : TE) : TE := fun σ H Q => ∀ p, H p = none → tk σ (upd H p (.dT [])) fun x H1 => tv σ H1 fun y H2 => H2 p = some (.dT []) ∧ ∃ (ks : List Key) (q : Addr), x = .ref q ∧ H2 q = some (.tup (ks.map kV)) ∧ Q (.ref p) (upd H2 p (.dT [(ks, y)]))
theorem pe_disp1 {tk tv : TE} (hu : X.A.units + 1 < cLine) (hk : PE X a tk) (hv : PE X b tv) : PE X (.Dict [some a] [b] pos) (tDisp1 tk tv) := by
  refine ⟨fun pins s σ H Q I q => ?_⟩
  have hn := I.hok.fresh (Nat.le_refl s.heap.objs.size)
  have I1 := I.laid (a := s.heap.objs.size) (o := .dT []) (h' := s.heap.push { cls := .type "dict", data := .dict #[] }) (t' := s.toks) (fun _ _ q => Heap.get?_push_of_some _ q) (Nat.le_refl _) (dt_empty s.heap I.big)
  rw [arm_eval_Dict, PySem.zip_pairTrees [some a] [b] X.env pos rfl rfl, PySem.dictDisplay_pairs (PySem.pairTrees [some a] [b] X.env pos) (fun z => nomatch z) (by show 1 < 17; decide)]
  refine wpAny_bind (wpAny_standAt (wpAny_bind (PySem.wpAny_subDictH (knd := tupleKind (mixKind X.prog X.w)) (Q := fun d s' => wpAny (model X.prog X.w) X.A (pure (Value.ref d)) _ X.xe s') (show X.A.units < cLine by omega) (by show 1 ≤ 15; decide) ?_)))
  refine PySem.pairTrees_cons_walk (thn (hk.run pins _ σ _ _ I1 (q _ hn)) fun u s1 ⟨x, H1, I2, rx, q1⟩ => thn (hv.run pins s1 σ H1 _ I2 q1) fun w2 s2 ⟨y, H2, I3, ry, e, ks, b', ex, eb, q2⟩ => ?_)
  subst ex
  cases (show u = Value.ref b' from rx)
  refine PySem.pairTrees_nil_walk ⟨[(ks, b', w2)], ⟨rfl, rfl, key_of I3.hok eb, trivial⟩, ?_, ?_⟩
  · obtain ⟨z, hd, xs, rel, dd⟩ := dt_of I3.hok e
    cases rel
    exact dd
  · intro h' tk' dd' hs
    refine wpAny_pure ⟨.ref s.heap.objs.size, _, ?_, rfl, q2⟩
    obtain ⟨z, hd, xs, rel, dd⟩ := dt_of I3.hok e
    cases rel
    obtain ⟨q, es, ep, hq, h2, h3, h4, h6, h5⟩ := dd'
    refine d_write (t' := tk') I3 (by rw [e]; exact True.intro) hs ⟨q, hq⟩ ⟨by show 1 ≤ sizeLine; rw [sizeLine_eq]; decide, hd, [(ks, b', w2)], ?_, q, es, ep, hq, h2, h3, h4, h5⟩
    exact .cons ⟨rfl, by rw [upd_ne (ne_of eb e (fun z => nomatch z))]; exact eb, ry⟩ .nil
def eD1 (mk mv : EM) : EM := fun e s => (mk e (s ++ [.dT []])).bind fun k s1 => (mv e s1).bind fun v s2 => match asTK k, s2[s.length]? with
  | some ks, some (.dT []) => .ok (.ref s.length) (s2.set s.length (.dT [(ks, v)]))
  | _, _ => .no
theorem re_d1 (hu : X.A.units + 1 < cLine) (ha : RE X W a ma) (hb : RE X W b mb) : RE X W (.Dict [some a] [b] pos) (eD1 ma mb) := (pe_disp1 hu ha hb).imp fun σ H Q ⟨w, s, e, E, R, h⟩ p n => by
  have F0 := Fut.add (w := w) (H := H) (p := p) (u := .dT []) n
  have R0 := R.add (o := .dT []) (u := .dT []) n (.dT .nil)
  have V0 : VR X.K (w.add p) (upd H p (.dT [])) (.ref s.length) (.ref p) := VR.add R
  have h0 : Out X.K (w.add p) (upd H p (.dT [])) (fun c d H' => W c d σ H') (fun w' H' a => ∀ v, VR X.K w' H' a v → Q v H') (eD1 ma mb e s) := Out.fut F0 h
  refine ⟨w.add p, _, e, E.fut F0, R0, h0.bind fun k s1 w1 H1 F1 R1 h1 x V1 => ⟨w1, s1, e, (E.fut F0).fut F1, R1, h1.bind fun v s2 w2 H2 F2 R2 h2 y V2 => ?_⟩⟩
  split at h2
  · rename_i ks hks hs2
    have V3 := (V0.fut F1).fut F2
    cases V3 with
    | ref hn =>
      obtain ⟨u, hu', o⟩ := R2.ob _ _ _ hn hs2
      cases o with
      | dT r =>
        cases r
        obtain ⟨q, rfl, hq⟩ := asTK_ok (V1.fut F2) hks
        have hz : NF H2 p := fun ob v hh => by rw [hu'] at hh; cases hh
        refine ⟨hu', ks, q, rfl, hq, ?_⟩
        exact h2 w2 _ (Fut.put hn hz) (R2.put hn hz (.dT (.cons V2 .nil)) ) _ ((VR.ref hn).fut (Fut.put hn hz))
  · exact h2.elim

/-! ### a statement while a dict is locked -/
def sLock (pick : AE → Sto → Option Nat) (m : SM) : SM := fun e s => match pick e s with
  | some n => match s[n]? with
    | some (.dT kvs) => (match m e (s.set n (.frz (.dT kvs))) with
      | .nx e' s' => (match s'[n]? with
        | some (.frz (.dT kvs')) => .nx e' (s'.set n (.dT kvs'))
        | _ => .no)
      | _ => .no)
    | _ => .no
  | none => .no
theorem rs_lock {pick : AE → Sto → Option Nat} {st : Stmt} {m : SM} (h : RS X W st m) : RS X W st (sLock pick m) := (ps_lock h).imp fun D σ H ⟨w, s, e, E, R, h⟩ => by
  unfold sLock at h
  split at h
  · rename_i n _
    split at h
    · rename_i kvs hs
      obtain ⟨d, hn⟩ := R.at hs
      have hd : d ∈ w.ι := List.mem_of_getElem? hn
      obtain ⟨u, hu, r⟩ := R.ob _ _ _ hn hs
      cases r with
      | @dT _ ys kr =>
        refine ⟨d, _, hu, trivial, fun od => ⟨w, _, e, E.mono fun _ _ z => z.upd (.inl hd), R.put hn (fun _ _ z => by rw [hu] at z; cases z) (.frz (.dT kr)), ?_⟩⟩
        split at h
        · rename_i e' s' hm
          rw [hm]
          intro w' H' σ' F R' E'
          have hF : H' d = some (.frz od (.dT ys)) := F.frz _ _ _ upd_same
          refine ⟨hF, ?_⟩
          split at h
          · rename_i kvs' hs'
            have hn' := F.at hn
            have hd' : d ∈ w'.ι := List.mem_of_getElem? hn'
            obtain ⟨u2, hu2, r2⟩ := R'.ob _ _ _ hn' hs'
            rw [hF] at hu2
            cases hu2
            cases r2 with
            | frz r2 =>
              refine h w' _ σ' ⟨F.pre, F.pi, fun p o hp n => ?_, fun p h1 n => ?_, fun p ob v hp => ?_⟩ (R'.set' hn' (r2.mono fun _ _ z => z.upd (.inl hd'))) (E'.mono fun _ _ z => z.upd (.inl hd'))
              · have ne : p ≠ d := by rintro rfl; exact n hd
                rw [upd_ne ne]
                exact F.keep p o (by rw [upd_ne ne]; exact hp) n
              · have ne : p ≠ d := by rintro rfl; exact n hd
                have := F.new p h1 n
                rwa [upd_ne ne] at this
              · have ne : p ≠ d := by rintro rfl; rw [hu] at hp; cases hp
                rw [upd_ne ne]
                exact F.frz p ob v (by rw [upd_ne ne]; exact hp)
          · exact h.elim
        · exact h.elim
    · exact h.elim
  · exact h.elim
/-! ### more rules -/
theorem Res.bind_assoc {α β γ : Type} (r : Res α) (f : α → Sto → Res β) (g : β → Sto → Res γ) : (r.bind f).bind g = r.bind fun a s => (f a s).bind g := by cases r <;> rfl
theorem rs_par3 {i j l : Nat} {x y z : Str} {px py pz pt pt2 : Pos} {kt k2} (hc : X.calm = true) (hN : X.N.Nodup) (ha : RA X W [a, b, c] ms) (hi : X.N[i]? = some x := by rfl) (hj : X.N[j]? = some y := by rfl) (hl : X.N[l]? = some z := by rfl) (hij : i ≠ j := by decide) (hil : i ≠ l := by decide) (hjl : j ≠ l := by decide)
    (hx : X.env.scope.names.lookup x = some .local := by rfl) (hy : X.env.scope.names.lookup y = some .local := by rfl) (hz : X.env.scope.names.lookup z = some .local := by rfl)
    (hw : swappedStores [.Tuple [.Name x px, .Name y py, .Name z pz] kt pt] (.Tuple [a, b, c] k2 pt2) X.env = pure (some [x, y, z]) := by rfl)
    (hs : swapsWithSole [.Tuple [.Name x px, .Name y py, .Name z pz] kt pt] (.Tuple [a, b, c] k2 pt2) pos.line X.env = pure false := by rfl) : RS X W (.Assign [.Tuple [.Name x px, .Name y py, .Name z pz] kt pt] (.Tuple [a, b, c] k2 pt2) pos) (sPar3 i j l ms) :=
  (ps_par3 hc hN hi hj hl hij hil hjl hx hy hz ha hw hs).imp fun D σ H ⟨w, s, e, E, R, h⟩ => ⟨w, s, e, E, R, sbind_out E h fun xs s1 w1 H1 F1 R1 h1 vs V1 => by
    split at h1
    · cases V1 with
      | cons r1 t => cases t with
        | cons r2 t => cases t with
          | cons r3 t =>
            cases t
            exact ⟨_, _, _, rfl, h1 w1 H1 _ Fut.refl R1 ((((E.fut F1).set i r1).set j r2).set l r3)⟩
    · exact h1.elim⟩
theorem rt_inG {x : Str} {zs : List Str} {p : Pos} (hm : X.mg x = some (.ref (He.ga X.K x))) (ht : He.tupB X.K x (zs.map He.Dv.str) = true) (ha : RE X W a ma) (hg : Gl X x := by rfl) (hd : (x == ("__debug__" : Str)) = false := by decide)
    (hb : behindInMarks .In (.Name x p) = false := by rfl) : RT X W (.Compare a [.In] [.Name x p] pos) (asB (eInG false zs ma)) :=
  (pt_cmpR op_in_seq ha (pe_glob hg hm (v := .ref _) rfl hd) hb).imp fun σ H Q ⟨w, s, e, E, R, h⟩ => by
    have h' : Out X.K w H (fun c d H' => W c d σ H') (fun _ H' b => Q b H') ((((ma e s).bind fun a s => match a with
      | .str x => .ok (.bl (if false then !zs.contains x else zs.contains x)) s
      | _ => .no) : Res AV).bind fun a s => match a with
      | .bl b => .ok b s
      | _ => .no) := h
    rw [Res.bind_assoc] at h'
    exact ⟨w, s, e, E, R, h'.bind fun a s1 w1 H1 F1 R1 h1 v V1 => by
      cases V1 with
      | str x' =>
        have q := He.tupB_ok ht H1
        rw [dv_strs] at q
        exact ⟨_, _, rfl, .inr q, rfl, flat_strs zs, _, rfl, by rw [inV_strs]; exact h1.ok R1⟩
      | _ => exact h1.elim⟩
theorem rt_notInG {x : Str} {zs : List Str} {p : Pos} (hm : X.mg x = some (.ref (He.ga X.K x))) (ht : He.tupB X.K x (zs.map He.Dv.str) = true) (ha : RE X W a ma) (hg : Gl X x := by rfl) (hd : (x == ("__debug__" : Str)) = false := by decide)
    (hb : behindInMarks .NotIn (.Name x p) = false := by rfl) : RT X W (.Compare a [.NotIn] [.Name x p] pos) (asB (eInG true zs ma)) :=
  (pt_cmpR op_notIn_seq ha (pe_glob hg hm (v := .ref _) rfl hd) hb).imp fun σ H Q ⟨w, s, e, E, R, h⟩ => by
    have h' : Out X.K w H (fun c d H' => W c d σ H') (fun _ H' b => Q b H') ((((ma e s).bind fun a s => match a with
      | .str x => .ok (.bl (if true then !zs.contains x else zs.contains x)) s
      | _ => .no) : Res AV).bind fun a s => match a with
      | .bl b => .ok b s
      | _ => .no) := h
    rw [Res.bind_assoc] at h'
    exact ⟨w, s, e, E, R, h'.bind fun a s1 w1 H1 F1 R1 h1 v V1 => by
      cases V1 with
      | str x' =>
        have q := He.tupB_ok ht H1
        rw [dv_strs] at q
        exact ⟨_, _, rfl, .inr q, rfl, flat_strs zs, _, rfl, by rw [inV_strs]; exact h1.ok R1⟩
      | _ => exact h1.elim⟩
end
theorem _root_.L2.Room.u1 {k : Nat} {A : Around} (r : Room k A) : A.units + 1 < cLine := by have := r.un; omega
theorem _root_.L2.Room.u80 {k : Nat} {A : Around} (r : Room k A) : A.units + 80 < cLine := by have := r.un; omega
end S
set_option Elab.async false
set_option linter.all false
set_option maxRecDepth 100000
set_option maxHeartbeats 4000000
/-! Layer S. SV: an own exception whose __init__(self, v) says super().__init__(v); self.f = v. -/
namespace S
namespace Bad
open PySem PySem.W PySem.Calls PyProof.Rows PySem.HandSPX
/-! ### the text -/
def prA : Arguments := { posonlyargs := [], args := [{ arg := "self", annotation := none, pos := ⟨11, 17, 11, 21⟩ }, { arg := "fault", annotation := none, pos := ⟨11, 23, 11, 28⟩ }], vararg := none, kwonlyargs := [], kw_defaults := [], kwarg := none, defaults := [] }
def prB : List Stmt := [.Expr (.Call (.Attribute (.Call (.Name "super" ⟨12, 8, 12, 13⟩) [] [] ⟨12, 8, 12, 15⟩) "__init__" ⟨12, 8, 12, 24⟩) [.Name "fault" ⟨12, 25, 12, 30⟩] [] ⟨12, 8, 12, 31⟩) ⟨12, 8, 12, 31⟩, .Assign [.Attribute (.Name "self" ⟨13, 8, 13, 12⟩) "fault" ⟨13, 8, 13, 18⟩] (.Name "fault" ⟨13, 21, 13, 26⟩) ⟨13, 8, 13, 26⟩]
def prS : Scope := { kind := .function, names := [("self", .local), ("fault", .local), ("__class__", .free), ("super", .globalImplicit)], isGenerator := false, isCoroutine := false, more := [] }
/-- what the written part says of the class at C and of its __init__ -/
structure Tx (P : Program) (K : Frag) (mg : Str → Option Value) (C : Addr) : Prop where
  nsup : nsIn K mainGlobals "super" = some none
  top : (P.main.scope.names.lookup ("super" : Str)).isSome = false
  o : L2.OexC K C
  noN : findIn K (.ref C) "fault" = some none
  stat : nsIn K cStatics "thirdparty.any" = some none
  sup : ks_superIn K C C "__init__" = some (some (.builtin "ValueError.__init__"))
  isC : mroIn K C (.ref C) = some true
  isV : subIn K (.ref C) (.type "ValueError") = some true
  ex : ∃ fI : Addr, findIn K (.ref C) "__init__" = some (some (.ref fI)) ∧ typeIn K (.ref fI) = some (.type "function") ∧
    ∃ (nm qual : Str) (oc : Value) (od : Option Addr) (kV doc pm ct : Value) (an : Option Addr) (osl : Array (Option Value)) (cc cda : Addr) (ccl : Value) (cdd : Option Addr) (vs : Array Value) (ccs : Array (Option Value)) (file : Str) (tf : Tok) (cl : Value) (cld : Option Addr) (csl : Array (Option Value)),
      K.lookup fI = some ⟨oc, od, .func (ksFn nm qual prA prB prS .none kV doc pm an (.ref cda) ct cc), osl⟩ ∧ codeIn K (.ref cda) qual = true ∧ K.lookup cda = some ⟨ccl, cdd, .fields vs, ccs⟩ ∧ vs[2]? = some (.str file tf) ∧ ((P.main.file : Str) == file) = true ∧
      K.lookup cc = some ⟨cl, cld, .cell (some (.ref C)), csl⟩
section
variable {prog : Program} {w : World} {A : Around} {E : Value → Shared → Prop} {R : Result → Shared → Prop} {s : Shared} {base : Heap} {K : Frag} {mg : Str → Option Value} {C : Addr} {f : Str}
/-- what __init__ leaves -/
structure Done (h h' : Heap) (x C dx t1 : Addr) (f : Str) (v : Value) : Prop where
  keep : ∀ b o, b ≠ x → h.get? b = some o → h'.get? b = some o
  obj : h'.get? x = some { cls := .ref C, dict := some dx, data := .fields #[.ref t1, .none, .none, .none, .bool false, .none] }
  dbig : h.objs.size ≤ dx
  dne : dx ≠ x
  ns : h'.Ns1 dx (fun y => if y = f then some v else none)
theorem call_mw {h : Heap} {g : Array GenState} {d : Drawn} {t : Nat} {os : OsState} {u e t0 : Addr} {rest : List Value} {Q : Value → Shared → Prop} {nm q : Str} {N : Addr} {bs bm : List Value} {hdct : Bool} {sn : List Str} {sub : List Value} {ab : Bool} {col : Option Bool} {dd : Option Addr} {k0 k1 k2 k3 k5 : Option Value}
    (hC : h.get? C = some (excClassObj nm q C N bs bm hdct sn sub ab col dd k0 k1 k2 k3 k5 "ValueError.__new__")) (he : h.get? e = some (excO C t0)) (hu : h.get? u = some (kxs_mw "ValueError.__init__" e)) (hz : rest.length ≤ sizeLine)
    (hq : ∀ h' t1, (∀ b o, b ≠ e → h.get? b = some o → h'.get? b = some o) → h'.get? e = some (excO C t1) → Q .none ⟨h', g, d, t, os⟩) :
    wpAny (model prog w) A (call (.ref u) rest) Q E ⟨h, g, d, t, os⟩ := by
  refine wpAny_call (codeAny_of_tree ?_)
  show wpAny _ A.in1 (callAny (.ref u) ⟨rest, []⟩) _ _ _
  simp only [callAny]
  refine wpAny_bind (wpAny_load hu ?_)
  simp only [kxs_mw, show (Value.type "method-wrapper" == Value.type "method" || Value.type "method-wrapper" == Value.type "builtin_function_or_method" || Value.type "method-wrapper" == Value.type "method-wrapper") = true by decide, if_true]
  refine KFB.if_so (by decide) ?_
  refine wpAny_bind (check_bound_init F.excBase_ValueError.toExcCallFacts hC he rfl ?_)
  refine wpAny_bind (wpAny_pure (wpAny_pure ?_))
  refine ⟨plainId_quiet F.excBase_ValueError.init.plain _, codeAny_builtin F.excBase_ValueError.initEntry ?_⟩
  rw [Around.under_plainId F.excBase_ValueError.init.plain _]
  wp_walk
  refine hq _ h.objs.size (fun b o hb ho => ?_) ?_
  · rw [Heap.get?_update_other _ _ (Ne.symm hb)]
    exact Heap.get?_push_of_some _ ho
  · rw [Heap.get?_update_self _ (Heap.get?_push_of_some _ he) rfl]
    rfl

theorem bt_super : bootBuiltins "super" = some (.type "super") := by decide +kernel
theorem ldv {M : Model} {env : Env} {m : Str → Option Value} {x : Str} {pos : Pos} {v : Value} {Q : Value → Shared → Prop} (hn : s.heap.Ns env.locals m) (hv : m x = some v) (h : Q v s) (hk : env.scope.kind = .function) (hl : env.kindOf x = some .local) (hd : (x == ("__debug__" : Str)) = false) :
    wpAny M A (eval (.Name x pos) env) Q E s := wpAny_Name (wpAny_loadName_local hk hl hn hv h) hd
theorem bad_init (T : Tx prog K mg C) (X : K.In s.heap) (M : L2.Mod K mg base) (bk : ∀ b o, base.get? b = some o → s.heap.get? b = some o) {x t0 : Addr} {v : Value} (hlim : s.heap.NoLimit) (hx : s.heap.get? x = some (excO C t0)) (hroom : A.depth < recursionLimit)
    (hxK : ∀ o, K.lookup x = some o → False) {fI : Addr} (hi : findIn K (.ref C) "__init__" = some (some (.ref fI))) (hq : ∀ h' tk dx t1, Done s.heap h' x C dx t1 "fault" v → R (.ok (.ret .none)) { s with heap := h', toks := tk }) :
    codeAny (model prog w) A (.call (.ref fI) ⟨[.ref x, v], []⟩) R s := by
  obtain ⟨fI', hi', tI, nm, qual, oc, od, kV, doc, pm, ct, an, osl, cc, cda, ccl, cdd, vs, ccs, file, tf, cl, cld, csl, ho, hcd, hcode, hvs, hfile, hcell⟩ := T.ex
  rw [hi] at hi'
  cases hi'
  obtain ⟨nmC, q, N, bs, bm, sn, sub, ab, col, dd, k0, k1, k2, k3, k5, hC, hbm⟩ := T.o.cls
  have hcl : clsIn K C = some { name := nmC, bases := bs, mro := .ref C :: bm, ns := N, qualname := q, hasDict := true, slotNames := sn, subclasses := sub, abstract := ab, collection := col, hasDel := false } := by unfold clsIn; rw [hC] <;> rfl
  obtain ⟨mb, hb1, hb2⟩ := M.blt
  have hxC : x ≠ C := fun z => by
    subst z
    have e := X _ _ hC
    rw [hx] at e
    cases e
  refine ks_codeAny_call_defAt (fd := ksFn nm qual prA prB prS .none kV doc pm an (.ref cda) ct cc) (body := prB) (binds := [("self", .ref x), ("fault", v)])
    hroom (X _ _ ho) rfl hlim (codeRec_of X hcd) rfl (BindsTo.of_eq (by first | rfl | with_unfolding_all rfl)) (fun y hy => by rcases List.mem_cons.mp hy with rfl | hy; decide; rcases List.mem_cons.mp hy with rfl | hy; decide; rcases List.mem_cons.mp hy with rfl | hy; decide; rcases List.mem_cons.mp hy with rfl | hy; decide; cases hy) (by first | decide | (intro y hy; rcases List.mem_cons.mp hy with rfl | hy; rfl; rcases List.mem_cons.mp hy with rfl | hy; rfl; cases hy)) (fun h₁ hns k => ?_) rfl rfl rfl
  have X₁ : K.In h₁ := X.keeps k
  have bk₁ : ∀ b o, base.get? b = some o → h₁.get? b = some o := fun b o e => k _ _ (bk _ _ e)
  have hx₁ := k _ _ hx
  have hxL : x < s.heap.objs.size := Heap.lt_size hx
  unfold prB
  -- super().__init__(fault)
  refine ks_wpAt_execs_cons (ks_wpAt_Expr_any (ks_wpAt_MethodCall ?_))
  refine ks_wpAt_super_base (env := callEnv (ksFn nm qual prA prB prS .none kV doc pm an (.ref cda) ct cc) s.heap.objs.size fI) rfl rfl (by decide) rfl (X₁ _ _ ho) rfl rfl rfl (X₁ _ _ hcode) rfl hvs hfile T.top ?_
  refine ks_loadName_global rfl rfl (loadGlobal_builtin (mg := mg) (mb := mb) (M.glob.keeps bk₁) (mg_none_of M.kin M.glob T.nsup) (hb1.keeps bk₁) ((hb2 _ (by decide)).trans bt_super) ⟨rfl, ?_⟩)
  refine wpAny_loadName_free rfl rfl rfl ⟨_, X₁ _ _ hcell, rfl⟩ ?_
  refine wpAny_loadName_local rfl rfl hns rfl ?_
  refine ks_wpAny_isType_cls (X₁ _ _ hC) rfl ⟨rfl, ?_⟩
  refine ks_wpAny_call_super (X₁ _ _ hC) rfl hx₁ rfl (fun c e => by cases e) (looks_mroIn X₁ T.isC) (fun h₂ e2 k2 => ?_)
  have X₂ : K.In h₂ := X₁.keeps k2
  have hx₂ := k2 _ _ hx₁
  have hns₂ := hns.keeps k2
  have I₂ : InstAt h₂ x (excO C t0) C none := ⟨hx₂, rfl, rfl, trivial⟩
  have hsup : alongIn K "__init__" (((.ref C :: bm : List Value).dropWhile (· != .ref C)).drop 1) = some (some (.builtin "ValueError.__init__")) := by
    have z := T.sup
    unfold ks_superIn at z
    rw [hcl] at z
    exact z
  refine kxs_getMethod kxs_ValueError e2 (looks_opaque X₂ T.stat) (l₀ := .ref C :: bm) ((looks_clsIn X₂ hcl).andThen .now) rfl X₂ hsup (I₂.type.andThen (looks_subIn X₂ T.isV)) hxC (by decide) ?_
  have X₃ : K.In (h₂.push (kxs_mw "ValueError.__init__" x)) := X₂.keeps fun b o e => Heap.get?_push_of_some _ e
  have hns₃ : (h₂.push (kxs_mw "ValueError.__init__" x)).Ns s.heap.objs.size _ := hns₂.keeps fun b o e => Heap.get?_push_of_some _ e
  refine kxs_callWith (i := "ValueError.__init__") (x := x) rfl (evalArgs_plain ?_)
  refine args_cons (ldv (v := v) hns₃ (by rfl) (args_nil ⟨Heap.get?_push_at rfl rfl, ?_⟩) rfl rfl (by decide))
  have hx₃ : (h₂.push (kxs_mw "ValueError.__init__" x)).get? x = some (excO C t0) := Heap.get?_push_of_some _ hx₂
  refine call_mw (X₃ _ _ hC) hx₃ (Heap.get?_push_at rfl rfl) (by show 1 ≤ sizeLine; rw [sizeLine_eq]; decide) (fun h₄ t1 k4 hx₄ => ?_)
  have k04 : ∀ b o, b ≠ x → s.heap.get? b = some o → h₄.get? b = some o := fun b o hb e => k4 b o hb (Heap.get?_push_of_some _ (k2 _ _ (k _ _ e)))
  have X₄ : K.In h₄ := fun b o e => k04 b o (fun z => by
    subst z
    have q := X _ _ e
    rw [hx] at q
    cases q
    exact hxK _ e) (X _ _ e)
  refine wpAt_of_wpAny ?_
  have hns₄ : h₄.Ns s.heap.objs.size _ := hns₃.at fun o e => k4 _ _ (fun z => absurd hxL (by rw [← z]; exact Nat.lt_irrefl _)) e
  -- self.fault = fault
  refine wpAny_execs_cons (plainObj_wpAny_Assign_Attribute ?_)
  refine ldv (v := v) hns₄ (by rfl) (ldv (v := .ref x) hns₄ (by rfl) ?_ rfl rfl (by decide)) rfl rfl (by decide)
  refine set_plain X₄ (ox := excO C t1) (od := none) ⟨hx₄, rfl, rfl, trivial⟩ T.o.sa ?_
  refine exc_osa X₄ hx₄ hcl (show refsVE (.ref C :: bm) = true from hbm) rfl T.noN (fun h₅ tk₅ dx k₅ dn dne hx₅ hn₅ => ?_)
  refine wpAny_execs_nil (hq h₅ tk₅ dx t1 ⟨fun b o hb e => k₅ b o hb (k04 b o hb e), hx₅, ?_, dne, hn₅⟩)
  have z : s.heap.objs.size < h₄.objs.size := hns₄.lt
  exact Nat.le_of_lt (Nat.lt_of_lt_of_le z dn)
/-- an exception that was made -/
structure Made (h h' : Heap) (e C d : Addr) (v : Value) : Prop where
  keep : ∀ b o, h.get? b = some o → h'.get? b = some o
  new : h.objs.size ≤ e
  obj : ∃ oe vs, h'.get? e = some oe ∧ oe.cls = .ref C ∧ oe.dict = some d ∧ oe.data = .fields vs ∧ vs[1]? = some .none
  dbig : h.objs.size ≤ d
  dne : d ≠ e
  ns : h'.Ns1 d (fun y => if y = "fault" then some v else none)
theorem bad_made (T : Tx prog K mg C) (M : L2.Mod K mg base) {v : Value} (X : K.In s.heap) (bk : ∀ b o, base.get? b = some o → s.heap.get? b = some o) (hlim : s.heap.NoLimit) (hroom : A.depth + 1 < recursionLimit)
    (hq : ∀ h' tk e d, Made s.heap h' e C d v → R (.ok (.ret (.ref e))) { s with heap := h', toks := tk }) : codeAny (model prog w) A (.call (.ref C) ⟨[v], []⟩) R s := by
  obtain ⟨fI, hi, tI, _⟩ := T.ex
  obtain ⟨nmC, q, N, bs, bm, sn, sub, ab, col, dd, k0, k1, k2, k3, k5, hC, hbm⟩ := T.o.cls
  obtain ⟨hp, g, dr, tk, os⟩ := s
  have up : ∀ b o, hp.get? b = some o → ((hp.push (kdv_tup [v])).push (excO C hp.objs.size)).get? b = some o := fun b o z => Heap.get?_push_of_some _ (Heap.get?_push_of_some _ z)
  have fresh : ∀ o, K.lookup (hp.objs.size + 1) = some o → False := fun o z => absurd (Nat.lt_of_succ_lt (Heap.lt_size (show hp.get? (hp.objs.size + 1) = some o from X _ _ z))) (Nat.lt_irrefl _)
  have sz : [v].length ≤ sizeLine := by show 1 ≤ sizeLine; rw [sizeLine_eq]; decide
  refine call_own F.excBase_ValueError (fun Y => refsVE_contains Y bm hbm) (X _ _ hC) (looks_findIn X hi) (fun self => bind_fn X self tI) sz ?_
  refine bad_init (s := ⟨(hp.push (kdv_tup [v])).push (excO C hp.objs.size), g, dr, tk, os⟩) T (X.keeps up) M (fun b o z => up _ _ (bk _ _ z)) (hlim.keeps up) (by heap_get) hroom fresh hi fun h' tk' dx t1 D => ?_
  have old : ∀ b o, hp.get? b = some o → h'.get? b = some o := fun b o z => D.keep b o (Nat.ne_of_lt (Nat.lt_succ_of_lt (Heap.lt_size z))) (up b o z)
  have big : hp.objs.size + 1 + 1 ≤ dx := by
    have z := D.dbig
    rw [Heap.size_push, Heap.size_push] at z
    exact z
  exact ⟨rfl, hq h' tk' (hp.objs.size + 1) dx ⟨old, Nat.le_succ _, ⟨_, _, D.obj, rfl, rfl, rfl, rfl⟩, Nat.le_trans (Nat.le_trans (Nat.le_succ _) (Nat.le_succ _)) big, D.dne, D.ns⟩⟩
end
end Bad
open PySem PySem.Spec PyProof.Rows L2 StX
theorem relO_fault {v : V} {v' : Value} (r : RelV v v') (f : Str) : RelO (List.lookup f [(("fault" : Str), v)]) (if f = "fault" then some v' else none) := by
  by_cases h : f = "fault"
  · subst h
    rw [if_pos rfl, show List.lookup ("fault" : Str) [(("fault" : Str), v)] = some v from by simp [List.lookup]]
    exact r
  · rw [if_neg h, show List.lookup f [(("fault" : Str), v)] = none from by simp [List.lookup, show (f == ("fault" : Str)) = false from by simpa using h]]
    trivial
/-- what the written part says of BadChart -/
structure BadTx (P : Program) (K : PySem.W.Frag) (mg : Str → Option Value) : Prop where
  g : mg "BadChart" = some (.ref (He.ga K "BadChart"))
  t : Bad.Tx P K mg (He.ga K "BadChart")
theorem pmk_BadChart {X : Cx} {a : Expr} {ta : TA} {p pos : Pos} (T : BadTx X.prog X.K X.mg) (hr : Room 1 X.A) (ha : PA X [a] ta) (hg : Gl X "BadChart" := by rfl)
    (he : starEach [a] X.env = (false, eval a X.env) :: starEach [] X.env := by rfl) (hpl : (backTo pos (starEach [] X.env)).any (·.1) = false := by rfl) :
    PMk X (.Call (.Name "BadChart" p) [a] [] pos) (tMkF (He.ga X.K "BadChart") "fault" ta) := fun pins s σ H Q I h => by
  refine wpAny_Call_Name_kw (ld_glob I hg T.g ?_)
  refine PySem.W.callWith_K (h₀ := X.base) I.ok.mod.kin T.t.o.kC (thn (ha.run pos pins s σ H _ I h) fun us s1 ⟨vs, H1, I1, r1, v, ev, q1⟩ => ?_) he hpl
  subst ev
  refine ⟨I1.kIn, ?_⟩
  cases r1 with
  | cons rv rn =>
    rename_i v' us'
    cases rn
    have hlim := I1.nolimit
    obtain ⟨hp, g, dr, tk, os⟩ := s1
    refine wpAny_call (Bad.bad_made (base := X.base) T.t I1.mod I1.kIn I1.bk hlim (by have := hr.dp; omega) fun h' tk' e d M => ?_)
    obtain ⟨oe, fv, hoe, hc, hd, hdat, h1⟩ := M.obj
    obtain ⟨G', g1, g2⟩ := restrict h' fun b => decide (b ≠ e)
    have gk : ∀ b, b ≠ e → G'.get? b = h'.get? b := fun b hb => g1 b (decide_eq_true hb)
    have ge : G'.get? e = none := g2 e (by simp)
    have old : ∀ b o, hp.get? b = some o → G'.get? b = some o := fun b o q => (gk b (Nat.ne_of_lt (Nat.lt_of_lt_of_le (Heap.lt_size q) M.new))).trans (M.keep b o q)
    have ob : ObjOk X.prog X.w (upd H1 d (.xd [(("fault" : Str), v)])) G' d (.xd [(("fault" : Str), v)]) := ⟨_, M.ns.at (fun o q => (gk d M.dne).trans q), fun f => relO_fault rv f⟩
    have J : Inv X pins σ (upd H1 d (.xd [(("fault" : Str), v)])) ⟨G', g, dr, tk', os⟩ := I1.laid (t' := tk') old M.dbig ob
    refine ⟨e, oe, fv, ⟨G', g, dr, tk', os⟩, _, .ref (He.ga X.K "BadChart"), some d, rfl, J, fun b o q => ?_, ge, hoe, ⟨hc, hd⟩, hdat, h1, ?_, rfl, I1.bare, raises_own T.t.o.exC T.t.o.tyC, q1 d (I1.hok.fresh M.dbig)⟩
    · by_cases hb : b = e
      · subst hb
        have q' : G'.get? b = some o := q
        rw [ge] at q'
        cases q'
      · exact (gk b hb).symm.trans q
    · rw [upd_ne (Ne.symm M.dne)]
      exact I1.hok.fresh M.new
end S
set_option Elab.async false
set_option linter.all false
set_option maxRecDepth 100000
/-! Layer S. SU: defs by their facts; BadChart. -/
namespace S
open PySem PySem.Spec PyProof.Rows L2 StX
structure OkF (P : Program) (w : World) (K : PySem.W.Frag) (mg : Str → Option Value) (base : Heap) (k : Nat) (g : Addr) (fm : Fn) : Prop where
  ex : ∃ (fd : FuncData) (ps : List Str), FnOk P w K mg base (L2.CX P w) k g fd ps (spM K fm) ∧ PySem.W.keepIn K (.ref g) = true ∧ Binds K fd ps []
structure OkG (P : Program) (w : World) (K : PySem.W.Frag) (mg : Str → Option Value) (base : Heap) (k : Nat) (g : Addr) (fm : Fn) : Prop where
  ex : ∃ (fd : FuncData) (ps : List Str), FnG P w K mg base (L2.CX P w) k g fd ps (spM K fm) ∧ PySem.W.keepIn K (.ref g) = true ∧ Binds K fd ps []
theorem held1 {X : Cx} {k : Nat} {x : Str} {fm : Fn} (h : OkF X.prog X.w X.K X.mg X.base k (He.ga X.K x) fm) : ∀ z f, ([(x, fm)] : List (Str × Fn)).lookup z = some f → HeldS X k z f := fun z f e => by
  by_cases q : z = x
  · subst q
    simp [List.lookup] at e
    subst e
    exact ⟨h.ex⟩
  · have : (z == x) = false := by simpa using q
    simp [List.lookup, this] at e
theorem _root_.L2.Room.u66 {k : Nat} {A : Around} (r : Room k A) : A.units + 66 < cLine := by have := r.un; omega
theorem bt_len : bootBuiltins "len" = some (.builtin "len") := by decide +kernel
theorem bt_abs : bootBuiltins "abs" = some (.builtin "abs") := by decide +kernel
theorem bt_int : bootBuiltins "int" = some (.type "int") := by decide +kernel
theorem bt_sum : bootBuiltins "sum" = some (.builtin "sum") := by decide +kernel
theorem bt_max : bootBuiltins "max" = some (.builtin "max") := by decide +kernel
theorem bt_min : bootBuiltins "min" = some (.builtin "min") := by decide +kernel
theorem bt_all : bootBuiltins "all" = some (.builtin "all") := by decide +kernel
theorem bt_any : bootBuiltins "any" = some (.builtin "any") := by decide +kernel
theorem bt_sorted : bootBuiltins "sorted" = some (.builtin "sorted") := by decide +kernel
theorem bt_dict : bootBuiltins "dict" = some (.type "dict") := by decide +kernel
theorem bt_repr : bootBuiltins "repr" = some (.builtin "repr") := by decide +kernel
theorem bt_tuple : bootBuiltins "tuple" = some (.type "tuple") := by decide +kernel
theorem bt_list : bootBuiltins "list" = some (.type "list") := by decide +kernel
end S
set_option Elab.async false
set_option linter.all false
set_option maxRecDepth 100000
set_option maxHeartbeats 2000000
/-! Layer S. SW: the law's end for a def that wants that no repr is under way; the head's Hook with BadChart. -/
namespace S
open PySem PySem.Spec PyProof.Rows L2 StX
/-- the abstract heap with which the law begins -/
structure Scr0 (P : Program) (w : World) (K : PySem.W.Frag) (h : Heap) (a : Addr) (ns : List Int) (H : Hp) : Prop where
  seq : SqL K H a (ns.map V.int)
  hok : HOk P w H h
  at_ : ∀ b u, H b = some u → b = a ∧ ∃ o xs, u = .frz o (.lst xs)
  out : H a ≠ none → K.lookup a = none
theorem scr0 {P : Program} {w : World} {K : PySem.W.Frag} {h : Heap} {a : Addr} {vs : List Value} {ns : List Int} (KX : K.In h) (ha : h.get? a = some { cls := .type "list", data := .seq vs.toArray }) (hi : IntsAre vs ns) (hl : ns.length ≤ sizeLine) : ∃ H, Scr0 P w K h a ns H := by
  have rv : Vals (ns.map V.int) vs := vals_ints hi
  by_cases hk : K.lookup a = none
  · have key : ∀ b u, (fun b => if b = a then some (HO.frz { cls := .type "list", data := .seq vs.toArray } (.lst (ns.map V.int))) else none : Hp) b = some u → b = a ∧ u = HO.frz { cls := .type "list", data := .seq vs.toArray } (.lst (ns.map V.int)) := fun b u e => by
      dsimp only at e
      by_cases hb : b = a
      · rw [if_pos hb] at e
        exact ⟨hb, (Option.some.inj e).symm⟩
      · rw [if_neg hb] at e
        cases e
    refine ⟨_, ⟨.inl (.inr ⟨_, if_pos rfl⟩), fun b u e => ?_, fun b u e => ⟨(key b u e).1, _, _, (key b u e).2⟩, fun _ => hk⟩⟩
    obtain ⟨rfl, rfl⟩ := key b u e
    exact ⟨ha, ⟨by rw [List.length_map]; exact hl, vs, _, rv, ha⟩⟩
  · obtain ⟨o, ho⟩ := Option.ne_none_iff_exists'.mp hk
    have e := KX a o ho
    rw [ha] at e
    refine ⟨fun _ => none, ⟨.inr ⟨o, vs.toArray, 0, ho, ?_⟩, fun b u z => (nomatch (show (none : Option HO) = some u from z)), fun b u z => (nomatch (show (none : Option HO) = some u from z)), fun z => absurd rfl z⟩⟩
    cases e
    exact ⟨rfl, rfl, rfl, by rw [List.size_toArray, hi.length]; exact hl, by simpa using rv⟩
theorem Scr0.none_of {P w K h a ns H} (x : Scr0 P w K h a ns H) {b : Addr} (n : b ≠ a ∨ K.lookup a ≠ none) : H b = none := by
  cases q : H b with
  | none => rfl
  | some u =>
    obtain ⟨rfl, _⟩ := x.at_ b u q
    rcases n with n | n
    · exact absurd rfl n
    · exact absurd (x.out (by rw [q]; simp)) n
theorem law_callG {P : Program} {w : World} {K : PySem.W.Frag} {mg mb : Str → Option Value} {CX : CXT} {k : Nat} {fa a : Addr} {fd : FuncData} {x : Str} {sp : Sp} {s₁ : Shared} {vs : List Value} {ns : List Int}
    (KX : K.In s₁.heap) (hns : s₁.heap.Ns mainGlobals mg) (hb : s₁.heap.Ns builtinsNs mb) (hbb : ∀ x : Str, x ≠ "__name__" → mb x = bootBuiltins x) (hlim : s₁.heap.NoLimit) (hg : s₁.gens = #[])
    (ha : s₁.heap.get? a = some { cls := .type "list", data := .seq vs.toArray }) (hi : IntsAre vs ns) (hl : ns.length ≤ sizeLine) (hr : Room k callerA)
    (hF : ∀ base : Heap, K.In base → base.Ns mainGlobals mg → FnG P w K mg base CX k fa fd [x] sp) (bind : ∀ (s : Shared) (u : Value), BindsTo s fd ⟨[u], []⟩ [(x, u)])
    (hsp : ∀ H : Hp, (∀ b u, H b = some u → b = a ∧ ∃ o xs, u = .frz o (.lst xs)) → SqL K H a (ns.map V.int) → sp [.ref a] H (fun v _ => v = .bl true) fun _ _ _ => False)
    (no : ∀ H e s', CX [] H s₁ (fun _ _ _ => False) e s' → False) :
    codeAny (model P w) callerA (.call (.ref fa) ⟨[.ref a], []⟩) (fun r s' => r = .ok (.ret (.bool true)) ∧ OldK s₁.heap s'.heap ∧ s'.os = s₁.os ∧ AllBare s'.gens) s₁ := by
  obtain ⟨H, SH⟩ := scr0 (P := P) (w := w) KX ha hi hl
  have isDict : ∀ {b : Addr} {m : Str → Option Value}, s₁.heap.Ns b m → (hidT s₁.heap H).Ns b m := fun {b m} q => by
    obtain ⟨o, es, ep, e, d, r⟩ := q
    refine ⟨o, es, ep, hidT_get e (SH.none_of (.inl fun z => ?_)), d, r⟩
    subst z
    rw [ha] at e
    cases e
    cases d
  have kin : K.In (hidT s₁.heap H) := fun b o e => hidT_get (KX b o e) (by
    by_cases hb : b = a
    · subst hb
      exact SH.none_of (.inr (by rw [e]; simp))
    · exact SH.none_of (.inl hb))
  obtain ⟨ml, l1, l2⟩ := hlim
  have md : Mod K mg (hidT s₁.heap H) := ⟨kin, isDict hns, ⟨mb, isDict hb, hbb⟩, ⟨ml, isDict l1, l2⟩⟩
  have env : Env0 P w K mg (hidT s₁.heap H) callerA [] s₁ H := ⟨rfl, md, fun _ _ z => of_hidT z, Nat.le_of_eq (hidT_size _ _), trivial, fun b z => (List.not_mem_nil z).elim, SH.hok, .of_eq hg⟩
  have run := (hF _ kin (isDict hns)).run callerA [] s₁ H ⟨[.ref a], []⟩ [.ref a] [.ref a] (fun v _ => v = .bl true) (fun _ _ _ => False) rfl hr env (bind s₁ (.ref a)) (.cons rfl .nil) (hsp H SH.at_ SH.seq)
  refine codeAny_mono run fun r s' z => ?_
  match r, z with
  | .error e, z => exact (no H e s' z).elim
  | .ok .next, z => exact False.elim z
  | .ok .brk, z => exact False.elim z
  | .ok .cont, z => exact False.elim z
  | .ok (.ret u), z =>
    obtain ⟨v, H', os, bare, un, hok', rv, rfl⟩ := z
    obtain rfl : u = Value.bool true := rv
    refine ⟨rfl, OldK.of_keep fun b o e => ?_, os, bare⟩
    cases q : H b with
    | none => exact un.keep b o e q (fun z => (List.not_mem_nil z).elim) (by simp)
    | some t =>
      obtain ⟨_, ob, xs, rfl⟩ := SH.at_ b t q
      have here := (SH.hok b _ q).1
      rw [e] at here
      cases here
      exact (hok' b _ (un.frzs b _ _ q)).1
theorem walk_ofEG {l : PySem.W.OpenLaw} {n k : Nat} {q : Program} {loose : List Str} {XP : (Str → Option Value) → Heap → Prop} {YP : World → Heap → Prop} {d : DefRec} {CX : World → CXT} {x : Str}
    (hn : l.most = some n) (hn2 : n ≤ sizeLine) (hdf : d.params.defaults = []) (hr : Room k callerA)
    (hF : ∀ (w : World) (mg : Str → Option Value) (fa : Addr) (h : Heap), YP w h → h.Ns mainGlobals mg → mg d.name = some (.ref fa) →
      ∃ (K : PySem.W.Frag) (fd : FuncData) (sp : Sp), K.In h ∧ (∀ (s : Shared) (u : Value), BindsTo s fd ⟨[u], []⟩ [(x, u)]) ∧
        (∀ (H : Hp) (a : Addr) (ns : List Int), ns.length ≤ n → (∀ b u, H b = some u → b = a ∧ ∃ o xs, u = .frz o (.lst xs)) → SqL K H a (ns.map V.int) → sp [.ref a] H (fun v _ => v = .bl true) fun _ _ _ => False) ∧
        ∀ base : Heap, K.In base → base.Ns mainGlobals mg → FnG l.prog w K mg base (CX w) k fa fd [x] sp)
    (no : ∀ (w : World) (H : Hp) (s : Shared) (e : Value) (s' : Shared), CX w [] H s (fun _ _ _ => False) e s' → False) :
    PySem.W.WalkO q loose XP YP l.row.toRowW d [] (fun f vs => PySem.call f vs) := by
  refine Att.attach_call hn hdf fun w s₀ s₁ mg mb fa o pm cd doc a vs ns G Y ho hd hcd hmg hobj hints hlen hg => ?_
  obtain ⟨K, fd, sp, KX, bd, sH, fF⟩ := hF w mg fa _ Y G.T.g hmg
  exact law_callG KX G.T.g G.T.b G.T.builtins G.T.nolimit hg hobj hints (Nat.le_trans hlen hn2) hr fF bd (fun H hO hS => sH H a ns hlen hO hS) fun H e s' => no w H s₁ e s'
/-- from the mirror's answer to the law's promise -/
theorem law_sp {K : PySem.W.Frag} {fm : Fn} {ns : List Int} {a : Addr} {H : Hp} (h : ∃ s', fm [.scr (ns.map AV.int)] [] = .ok (.bl true) s') (hO : ∀ b u, H b = some u → b = a ∧ ∃ o xs, u = .frz o (.lst xs)) (hS : SqL K H a (ns.map V.int)) :
    spM K fm [.ref a] H (fun v _ => v = .bl true) fun _ _ _ => False := by
  obtain ⟨s', e⟩ := h
  have rr : ∀ l : List Int, VRs K ⟨[], []⟩ H (l.map AV.int) (l.map V.int) := fun l => by
    induction l with
    | nil => exact .nil
    | cons i l ih => exact .cons (.int i) ih
  refine ⟨⟨[], []⟩, [], [.scr (ns.map AV.int)], .cons (.scr ?_ (rr ns)) .nil, ⟨rfl, List.nodup_nil, fun n p o z => by simp at z, fun p z => by cases z⟩, ?_⟩
  · rcases hS with hS | hS
    · exact .inl ⟨by simp, by simp, hS⟩
    · exact .inr hS
  · rw [e]
    exact fun w' H' _ _ v V => by cases V; rfl
end S
set_option Elab.async false
set_option linter.all false
set_option maxRecDepth 100000
set_option maxHeartbeats 2000000
/-! Layer S. SX: the head's Hook: facts by names, BadChart's making. -/
namespace S
open PySem PySem.Spec PyProof.Rows L2 He
def oexB (K : PySem.W.Frag) (C : Addr) : Bool := match K.lookup C with
  | some ⟨.type ty, _, .cls cd, sl⟩ => (match cd.mro, sl.toList with
    | .ref C' :: bm, [_, _, _, _, some (.builtin nw), _] => decide (ty = "type") && (decide (C' = C) && (PySem.HandSPX.refsVE bm && (cd.hasDict && (!cd.hasDel && decide (nw = "ValueError.__new__")))))
    | _, _ => false)
  | _ => false
theorem oexB_ok {K : PySem.W.Frag} {C : Addr} (h : oexB K C = true) : ∃ nm q N bs bm sn sub ab col dd k0 k1 k2 k3 k5, K.lookup C = some (excClassObj nm q C N bs bm true sn sub ab col dd k0 k1 k2 k3 k5 "ValueError.__new__") ∧ PySem.HandSPX.refsVE bm = true := by
  unfold oexB at h
  split at h
  · rename_i ty dd cd sl ho
    split at h
    · rename_i C' bm k0 k1 k2 k3 nw k5 hm hs
      simp only [Bool.and_eq_true, decide_eq_true_eq, Bool.not_eq_true'] at h
      obtain ⟨rfl, rfl, hb, hd, hl, rfl⟩ := h
      obtain ⟨nm, bs, mro, ns, qn, hd', sn, sub, ab, col, del⟩ := cd
      dsimp only at hm hd hl
      subst hm hd hl
      obtain ⟨l⟩ := sl
      dsimp only at hs
      subst hs
      exact ⟨_, _, _, _, bm, _, _, _, _, dd, k0, k1, k2, k3, k5, ho, hb⟩
    · cases h
  · cases h
abbrev FnC : Type := Option (Str × Str × Arguments × FuncBody × Scope × Addr × List Str × Value × Addr)
def badI (K : PySem.W.Frag) : Addr := ma K (ga K "BadChart") "__init__"
def fnC (K : PySem.W.Frag) : FnC := match K.lookup (badI K) with
  | some ⟨_, _, .func fd, _⟩ => some (fd.name, fd.qualname, fd.params, fd.body, fd.scope, fd.globals, fd.closure.map (·.1), fd.defaults, fd.builtins)
  | _ => none
def valC : FnC := some ("__init__", "BadChart.__init__", Bad.prA, .stmts Bad.prB, Bad.prS, mainGlobals, ["__class__"], .none, builtinsNs)
def cellB (K : PySem.W.Frag) (fl : Str) : Bool := match (K.lookup (badI K) : Option Obj) with
  | some ⟨_, _, .func fd, _⟩ => (match fd.code, fd.closure with
    | .ref cda, [(_, cc)] => PySem.W.codeIn K (.ref cda) "BadChart.__init__" && ((match (K.lookup cda : Option Obj) with
      | some ⟨_, _, .fields vs, _⟩ => (match (vs[2]? : Option Value) with
        | some (.str file _) => fl == file
        | _ => false)
      | _ => false) && (match (K.lookup cc : Option Obj) with
      | some ⟨_, _, .cell (some (.ref D)), _⟩ => decide (D = ga K "BadChart")
      | _ => false))
    | _, _ => false)
  | _ => false
def badB (fl : Str) (K : PySem.W.Frag) : Bool :=
  oexB K (ga K "BadChart") && (eqO (PySem.W.findIn K (.ref (ga K "BadChart")) "__setattr__") (some (some (.builtin "object.__setattr__"))) && (decide (PySem.W.subIn K (.ref (ga K "BadChart")) (.type "BaseException") = some true) && (decide (PySem.W.typeIn K (.ref (ga K "BadChart")) = some (.type "type")) && (PySem.W.keepIn K (.ref (ga K "BadChart")) &&
  (eqO (PySem.W.nsIn K mainGlobals "super") (some none) && (eqO (PySem.W.findIn K (.ref (ga K "BadChart")) "fault") (some none) && (eqO (PySem.W.nsIn K cStatics "thirdparty.any") (some none) && (eqO (PySem.W.ks_superIn K (ga K "BadChart") (ga K "BadChart") "__init__") (some (some (.builtin "ValueError.__init__"))) &&
  (decide (PySem.W.mroIn K (ga K "BadChart") (.ref (ga K "BadChart")) = some true) && (decide (PySem.W.subIn K (.ref (ga K "BadChart")) (.type "ValueError") = some true) && (eqO (PySem.W.findIn K (.ref (ga K "BadChart")) "__init__") (some (some (.ref (badI K)))) && (decide (PySem.W.typeIn K (.ref (badI K)) = some (.type "function")) && cellB K fl))))))))))))
theorem badB_ok {P : Program} {K : PySem.W.Frag} {mg : Str → Option Value} {fl : Str} (hfl : P.main.file = fl) (htop : (P.main.scope.names.lookup ("super" : Str)).isSome = false) (hg : mg "BadChart" = some (.ref (ga K "BadChart"))) (h : badB fl K = true) (hc : fnC K = valC) : BadTx P K mg := by
  obtain ⟨h1, h⟩ := ba h
  obtain ⟨h2, h⟩ := ba h
  obtain ⟨h3, h⟩ := ba h
  obtain ⟨h4, h⟩ := ba h
  obtain ⟨h5, h⟩ := ba h
  obtain ⟨h6, h⟩ := ba h
  obtain ⟨h7, h⟩ := ba h
  obtain ⟨h8, h⟩ := ba h
  obtain ⟨h9, h⟩ := ba h
  obtain ⟨h10, h⟩ := ba h
  obtain ⟨h11, h⟩ := ba h
  obtain ⟨h12, h⟩ := ba h
  obtain ⟨h13, h14⟩ := ba h
  refine ⟨hg, ⟨eqO_ok h6, htop, ⟨oexB_ok h1, eqO_ok h2, of_decide_eq_true h3, of_decide_eq_true h4, h5⟩, eqO_ok h7, eqO_ok h8, eqO_ok h9, of_decide_eq_true h10, of_decide_eq_true h11, badI K, eqO_ok h12, of_decide_eq_true h13, ?_⟩⟩
  unfold cellB at h14
  unfold fnC valC at hc
  split at h14
  · rename_i oc od fd osl ho
    rw [ho] at hc
    obtain ⟨n1, n2, n3, n4, n5, n6, n7, n8, n9, n10, n11, n12, n13, n14, n15⟩ := fd
    simp only [Option.some.injEq, Prod.mk.injEq] at hc
    obtain ⟨rfl, rfl, rfl, rfl, rfl, rfl, e7, rfl, rfl⟩ := hc
    dsimp only at h14 e7
    split at h14
    · rename_i cda nn cc
      simp only [List.map_cons, List.map_nil, List.cons.injEq, and_true] at e7
      subst e7
      obtain ⟨k1, k⟩ := ba h14
      obtain ⟨k2, k3⟩ := ba k
      split at k2
      · rename_i ccl cdd vs ccs hcode
        split at k2
        · rename_i file tf hvs
          split at k3
          · rename_i cl cld D csl hcell
            have eD := of_decide_eq_true k3
            subst eD
            exact ⟨_, _, oc, od, n9, n10, n11, n14, n12, osl, cc, cda, ccl, cdd, vs, ccs, file, tf, cl, cld, csl, ho, k1, hcode, hvs, by rw [hfl]; exact k2, hcell⟩
          · cases k3
        · cases k2
      · cases k2
    · cases h14
  · cases h14
theorem sub_ok {K : PySem.W.Frag} {sub : Str → Option Bool} (h1 : PySem.W.exmOne K (.ref (ga K "BadChart")) (.ref (ga K "BadChart")) = some true) (h2 : PySem.W.exmOne K (.ref (ga K "BadChart")) (.ref (ga K "TooLarge")) = some false) (hs : ∀ c b, sub c = some b → c = "BadChart" ∧ b = true) :
    ∀ c b, sub c = some b → PySem.W.exmAny K (.ref (ga K c)) [.ref (ga K "BadChart"), .ref (ga K "TooLarge")] = some b := fun c b e => by
  obtain ⟨rfl, rfl⟩ := hs c b e
  simp only [PySem.W.exmAny, h1, h2]
  rfl
/-! ### the Hook -/
def frB (g : Addr → Option Obj) (n : Nat) : PySem.W.Frag := frT g (cStatics :: asD g n)
abbrev AlB : Type := (AlD × Bool) × FnC
def obsB (n : Nat) (fa : List Fa) (fn : List DefD) (ex : PySem.W.Frag → Bool) (g : Addr → Option Obj) : AlB := ((obsD fa fn (frB g n), ex (frB g n)), fnC (frB g n))
def hookB (n : Nat) (fa : List Fa) (fn : List DefD) (ex : PySem.W.Frag → Bool) : PySem.W.Hook where
  α := AlB
  obs := fun s => obsB n fa fn ex s.heap.get?
  val := fun _ => ((valD fn, true), valC)
  says := fun _ h => ∃ K : PySem.W.Frag, K.In h ∧ SaysD fa fn K ∧ ex K = true ∧ fnC K = valC
  of := fun w s e => ⟨_, frT_in, congrArg (fun z : AlB => z.1.1) e, congrArg (fun z : AlB => z.1.2) e, congrArg (fun z : AlB => z.2) e⟩
  keeps := fun _ _ _ ⟨K, hK, c⟩ k => ⟨K, PySem.W.Frag.In.keeps hK k, c⟩
theorem obsB_eq {n : Nat} {fa : List Fa} {fn : List DefD} {ex : PySem.W.Frag → Bool} {g : Addr → Option Obj} {s : Shared} (h : ∀ a, g a = s.heap.get? a) : obsB n fa fn ex g = (hookB n fa fn ex).obs s := by
  rw [funext h] <;> rfl
end S
set_option Elab.async false
set_option linter.all false
/-! Mathematics, P: charts in plain Lean. -/
namespace S
namespace Pm
abbrev Lt := Fin 3
structure Ev where
  g : Bool
  o : Nat
  l : Lt
deriving DecidableEq
abbrev Row := List Ev
abbrev Rows := List Row
def givs (r : Row) (g : Nat) : List Lt := (r.filter fun e => e.g && decide (e.o = g)).map (·.l)
def taks (r : Row) (h : Nat) : List Lt := (r.filter fun e => !e.g && decide (e.o = h)).map (·.l)
def rem : List Lt → List Lt → Option (List Lt)
  | q, [] => some q
  | q, l :: r => if l ∈ q then rem (q.erase l) r else none
def qu (m : Bool) (gi ta : List Lt) : Option (List Lt) := if m then (if gi.take ta.length = ta then some (gi.drop ta.length) else none) else rem gi ta
def queue (m : Bool) (bg : Rows) (h g : Nat) : Option (List Lt) := qu m (givs (bg.getD h []) g) (taks (bg.getD g []) h)
def begins (rs : Rows) (st : List Nat) : Rows := (rs.zip st).map fun q => q.1.take q.2
def avail (m : Bool) (q : List Lt) (l : Lt) : Bool := decide (l ∈ if m then q.take 1 else q)
def can (m : Bool) (bg : Rows) (h : Nat) (e : Ev) : Bool := e.g || match queue m bg e.o h with
  | some q => avail m q e.l
  | none => false
structure Wf (n : Nat) (rs : Rows) : Prop where
  len : rs.length = n
  le : n ≤ 3
  ev : ∀ r ∈ rs, ∀ e ∈ r, e.o < n
  sz : ∀ r ∈ rs, r.length ≤ 24
theorem Wf.row {n : Nat} {rs : Rows} (w : Wf n rs) {h : Nat} (hh : h < n) : rs[h]? = some (rs.getD h []) ∧ rs.getD h [] ∈ rs := by
  have hl : h < rs.length := by rw [w.len]; exact hh
  have e : rs.getD h [] = rs[h] := by simp [List.getD, hl]
  exact ⟨by rw [e]; simp [hl], by rw [e]; simp⟩
/-! ### queues -/
theorem givs_append (r s : Row) (g : Nat) : givs (r ++ s) g = givs r g ++ givs s g := by simp [givs]
theorem taks_append (r s : Row) (g : Nat) : taks (r ++ s) g = taks r g ++ taks s g := by simp [taks]
theorem rem_append (q : List Lt) : ∀ a b : List Lt, rem q (a ++ b) = (rem q a).bind fun q => rem q b
  | [], b => rfl
  | l :: a, b => by
    rw [List.cons_append, rem, rem]
    split
    · exact rem_append (q.erase l) a b
    · rfl
theorem rem_more : ∀ (a q q' s : List Lt), rem q a = some q' → rem (q ++ s) a = some (q' ++ s)
  | [], q, q', s, h => by rw [rem] at h ⊢; cases h; rfl
  | l :: a, q, q', s, h => by
    rw [rem] at h ⊢
    split at h
    · rename_i hl
      rw [if_pos (List.mem_append_left _ hl), List.erase_append_left _ hl]
      exact rem_more a _ _ s h
    · cases h
theorem rem_len : ∀ (a q q' : List Lt), rem q a = some q' → q'.length + a.length = q.length
  | [], q, q', h => by rw [rem] at h; cases h; rfl
  | l :: a, q, q', h => by
    rw [rem] at h
    split at h
    · rename_i hl
      have := rem_len a _ _ h
      have e := List.length_erase_of_mem hl
      have : 0 < q.length := List.length_pos_of_mem hl
      simp only [List.length_cons]
      omega
    · cases h
theorem rem_prefix : ∀ (a q : List Lt), rem (a ++ q) a = some q
  | [], q => rfl
  | l :: a, q => by
    rw [List.cons_append, rem, if_pos (by simp), List.erase_cons_head]
    exact rem_prefix a q
/-- in order: so also in any -/
theorem qu_any {gi ta q : List Lt} (h : qu true gi ta = some q) : qu false gi ta = some q := by
  simp only [qu, if_true] at h
  split at h
  · rename_i e
    cases h
    have : gi = ta ++ gi.drop ta.length := by
      conv => lhs; rw [← List.take_append_drop ta.length gi, e]
    simp only [qu, Bool.false_eq_true, if_false]
    conv => lhs; rw [this]
    exact rem_prefix ta _
  · cases h
theorem avail_any {q : List Lt} {l : Lt} (h : avail true q l = true) : avail false q l = true := by
  simp only [avail, if_true, decide_eq_true_eq, Bool.false_eq_true, if_false] at h ⊢
  exact List.mem_of_mem_take h
/-- a letter given -/
theorem qu_give {m : Bool} {gi ta q : List Lt} (h : qu m gi ta = some q) (s : List Lt) : qu m (gi ++ s) ta = some (q ++ s) := by
  cases m with
  | true =>
    simp only [qu, if_true] at h ⊢
    split at h
    · rename_i e
      cases h
      have hl : ta.length ≤ gi.length := by
        have := congrArg List.length e
        rw [List.length_take] at this
        omega
      rw [List.take_append_of_le_length hl, if_pos e, List.drop_append_of_le_length hl]
    · cases h
  | false =>
    simp only [qu, Bool.false_eq_true, if_false] at h ⊢
    exact rem_more _ _ _ _ h
/-- a letter taken -/
theorem qu_take {m : Bool} {gi ta q : List Lt} {l : Lt} (h : qu m gi ta = some q) (a : avail m q l = true) : qu m gi (ta ++ [l]) = some (q.erase l) := by
  cases m with
  | true =>
    simp only [qu, if_true] at h ⊢
    split at h
    · rename_i e
      cases h
      simp only [avail, if_true, decide_eq_true_eq] at a
      cases hd : gi.drop ta.length with
      | nil => rw [hd] at a; simp at a
      | cons x r =>
        rw [hd] at a
        have hx : l = x := by simpa using a
        subst hx
        have hg : gi = ta ++ (l :: r) := by
          conv => lhs; rw [← List.take_append_drop ta.length gi, e, hd]
        rw [hg]
        have e1 : (ta ++ l :: r).take (ta ++ [l]).length = ta ++ [l] := by
          rw [show ta ++ l :: r = (ta ++ [l]) ++ r by simp]
          exact List.take_left' rfl
        have e2 : (ta ++ l :: r).drop (ta ++ [l]).length = r := by
          rw [show ta ++ l :: r = (ta ++ [l]) ++ r by simp]
          exact List.drop_left' rfl
        rw [if_pos e1, e2]
        simp
    · cases h
  | false =>
    simp only [qu, Bool.false_eq_true, if_false] at h ⊢
    simp only [avail, Bool.false_eq_true, if_false, decide_eq_true_eq] at a
    rw [rem_append, h]
    show rem q [l] = _
    rw [rem, if_pos a, rem]
/-- what may be taken, may be taken when more was given -/
theorem avail_more {m : Bool} {q s : List Lt} {l : Lt} (a : avail m q l = true) : avail m (q ++ s) l = true := by
  cases m with
  | true =>
    simp only [avail, if_true, decide_eq_true_eq] at a ⊢
    cases q with
    | nil => simp at a
    | cons x r => simpa using a
  | false =>
    simp only [avail, Bool.false_eq_true, if_false, decide_eq_true_eq] at a ⊢
    exact List.mem_append_left _ a
end Pm
end S
set_option Elab.async false
set_option linter.all false
/-! Mathematics, Q: runs of charts. -/
namespace S
namespace Pm
def adv (st : List Nat) (h : Nat) : List Nat := st.set h (st.getD h 0 + 1)
/-- what a hand does next -/
def nxt (rs : Rows) (st : List Nat) (h : Nat) : Option Ev := (rs.getD h [])[st.getD h 0]?
/-- the letters that lie from h to g -/
def qS (m : Bool) (rs : Rows) (st : List Nat) (h g : Nat) : Option (List Lt) := qu m (givs ((rs.getD h []).take (st.getD h 0)) g) (taks ((rs.getD g []).take (st.getD g 0)) h)
def ok1 (m : Bool) (rs : Rows) (st : List Nat) (h : Nat) (e : Ev) : Bool := e.g || match qS m rs st e.o h with
  | some q => avail m q e.l
  | none => false
def en (m : Bool) (rs : Rows) (st : List Nat) (h : Nat) : Bool := match nxt rs st h with
  | some e => ok1 m rs st h e
  | none => false
def ready (m : Bool) (rs : Rows) (st : List Nat) : List Nat := (List.range rs.length).filter (en m rs st)
structure Own (n : Nat) (rs : Rows) : Prop extends Wf n rs where
  own : ∀ h, h < n → ∀ e ∈ rs.getD h [], e.o ≠ h
structure Vd (m : Bool) (n : Nat) (rs : Rows) (st : List Nat) : Prop where
  len : st.length = n
  le : ∀ h, h < n → st.getD h 0 ≤ (rs.getD h []).length
  q : ∀ h g, h < n → g < n → h ≠ g → ∃ q, qS m rs st h g = some q
theorem getD_adv (st : List Nat) (h k : Nat) (hl : h < st.length) : (adv st h).getD k 0 = if k = h then st.getD h 0 + 1 else st.getD k 0 := by
  unfold adv
  by_cases e : k = h
  · subst e
    simp [List.getD, hl]
  · rw [if_neg e]
    simp [List.getD, List.getElem?_set_ne (Ne.symm e)]
theorem begins_at {rs : Rows} {st : List Nat} (hl : st.length = rs.length) (h : Nat) : (begins rs st).getD h [] = (rs.getD h []).take (st.getD h 0) := by
  unfold begins
  by_cases hh : h < rs.length
  · have h2 : h < st.length := by omega
    have h3 : h < (rs.zip st).length := by simp [hl, hh]
    simp [List.getD, hh, h2, List.getElem?_eq_getElem h3, List.getElem_zip]
  · have h2 : ¬ h < st.length := by omega
    have h3 : (rs.zip st).length ≤ h := by simp [hl]; omega
    simp [List.getD, List.getElem?_eq_none (Nat.le_of_not_lt hh), List.getElem?_eq_none (Nat.le_of_not_lt h2), List.getElem?_eq_none h3]
theorem queue_begins {m : Bool} {rs : Rows} {st : List Nat} (hl : st.length = rs.length) (h g : Nat) : queue m (begins rs st) h g = qS m rs st h g := by
  unfold queue qS
  rw [begins_at hl, begins_at hl]
theorem take_succ_some {r : Row} {k : Nat} {e : Ev} (h : r[k]? = some e) : r.take (k + 1) = r.take k ++ [e] := by
  rw [List.take_succ, h]; rfl
section
variable {m : Bool} {n : Nat} {rs : Rows} {st : List Nat} {h : Nat}
theorem en_nxt (he : en m rs st h = true) : ∃ e, nxt rs st h = some e ∧ ok1 m rs st h e = true := by
  unfold en at he
  split at he
  · exact ⟨_, ‹_›, he⟩
  · cases he
theorem nxt_lt {e : Ev} (hn : nxt rs st h = some e) : st.getD h 0 < (rs.getD h []).length := (List.getElem?_eq_some_iff.mp hn).1
theorem nxt_mem {e : Ev} (hn : nxt rs st h = some e) : e ∈ rs.getD h [] := List.mem_of_getElem? hn
theorem nxt_h {e : Ev} (w : Own n rs) (hn : nxt rs st h = some e) : h < n := by
  by_cases q : h < n
  · exact q
  · have : rs.getD h [] = [] := by simp [List.getD, List.getElem?_eq_none (show rs.length ≤ h by rw [w.len]; omega)]
    have := nxt_mem hn
    rw [‹rs.getD h [] = []›] at this
    cases this
theorem nxt_o {e : Ev} (w : Own n rs) (hn : nxt rs st h = some e) : e.o < n ∧ e.o ≠ h := by
  have hh := nxt_h w hn
  exact ⟨w.ev _ (w.row hh).2 e (nxt_mem hn), w.own h hh e (nxt_mem hn)⟩
theorem givs_one (e : Ev) (g : Nat) : givs [e] g = if e.g = true ∧ e.o = g then [e.l] else [] := by
  unfold givs
  by_cases a : e.g <;> by_cases b : e.o = g <;> simp [a, b]
theorem taks_one (e : Ev) (h : Nat) : taks [e] h = if e.g = false ∧ e.o = h then [e.l] else [] := by
  unfold taks
  by_cases a : e.g <;> by_cases b : e.o = h <;> simp [a, b]
/-- a turn leads to a stand again; what lies behind it -/
theorem qS_adv {e : Ev} (w : Own n rs) (v : Vd m n rs st) (hn : nxt rs st h = some e) (ho : ok1 m rs st h e = true) {a b : Nat} (ha : a < n) (hb : b < n) (hab : a ≠ b) {q : List Lt} (hq : qS m rs st a b = some q) :
    qS m rs (adv st h) a b = some (if a = h ∧ e.g = true ∧ e.o = b then q ++ [e.l] else if b = h ∧ e.g = false ∧ e.o = a then q.erase e.l else q) := by
  have hl : h < st.length := by rw [v.len]; exact nxt_h w hn
  unfold qS at hq ⊢
  rw [getD_adv st h a hl, getD_adv st h b hl]
  by_cases ea : a = h
  · subst ea
    have eb : ¬ b = a := fun z => hab z.symm
    rw [if_pos rfl, if_neg eb, take_succ_some hn, givs_append, givs_one]
    by_cases c : e.g = true ∧ e.o = b
    · rw [if_pos c, if_pos ⟨rfl, c⟩]
      exact qu_give hq _
    · rw [if_neg c, if_neg (show ¬ (a = a ∧ e.g = true ∧ e.o = b) from fun z => c z.2), if_neg (show ¬ (b = a ∧ e.g = false ∧ e.o = a) from fun z => eb z.1), List.append_nil]
      exact hq
  · rw [if_neg ea, if_neg (show ¬ (a = h ∧ e.g = true ∧ e.o = b) from fun z => ea z.1)]
    by_cases eb : b = h
    · subst eb
      rw [if_pos rfl, take_succ_some hn, taks_append, taks_one]
      by_cases c : e.g = false ∧ e.o = a
      · rw [if_pos c, if_pos ⟨rfl, c⟩]
        refine qu_take hq ?_
        unfold ok1 at ho
        rw [c.1, c.2] at ho
        have : qS m rs st a b = some q := hq
        rw [this] at ho
        simpa using ho
      · rw [if_neg c, if_neg (show ¬ (b = b ∧ e.g = false ∧ e.o = a) from fun z => c z.2), List.append_nil]
        exact hq
    · rw [if_neg eb, if_neg (show ¬ (b = h ∧ e.g = false ∧ e.o = a) from fun z => eb z.1)]
      exact hq
theorem Vd.adv (w : Own n rs) (v : Vd m n rs st) (he : en m rs st h = true) : Vd m n rs (adv st h) := by
  obtain ⟨e, hn, ho⟩ := en_nxt he
  have hl : h < st.length := by rw [v.len]; exact nxt_h w hn
  refine ⟨by unfold Pm.adv; rw [List.length_set]; exact v.len, fun k hk => ?_, fun a b ha hb hab => ?_⟩
  · rw [getD_adv st h k hl]
    split
    · rename_i q
      subst q
      exact nxt_lt hn
    · exact v.le k hk
  · obtain ⟨q, hq⟩ := v.q a b ha hb hab
    exact ⟨_, qS_adv w v hn ho ha hb hab hq⟩
def zeros (n : Nat) : List Nat := List.replicate n 0
theorem zeros_getD (n h : Nat) : (zeros n).getD h 0 = 0 := by
  unfold zeros
  by_cases q : h < n <;> simp [List.getD, q]
theorem Vd.zeros (w : Own n rs) : Vd m n rs (zeros n) := by
  refine ⟨by simp [Pm.zeros], fun h _ => by rw [zeros_getD]; exact Nat.zero_le _, fun h g _ _ _ => ⟨[], ?_⟩⟩
  unfold qS
  rw [zeros_getD, zeros_getD, List.take_zero, List.take_zero]
  cases m <;> rfl
/-- st ≤ t in each hand -/
def Le (n : Nat) (s t : List Nat) : Prop := ∀ h, h < n → s.getD h 0 ≤ t.getD h 0
theorem givs_mono (r : Row) {i j : Nat} (hij : i ≤ j) (g : Nat) : ∃ s, givs (r.take j) g = givs (r.take i) g ++ s := by
  refine ⟨givs ((r.take j).drop i) g, ?_⟩
  rw [← givs_append]
  congr 1
  have : r.take i = (r.take j).take i := by rw [List.take_take, Nat.min_eq_left hij]
  rw [this, List.take_append_drop]
theorem en_mono {t : List Nat} (w : Own n rs) (v : Vd m n rs st) (vt : Vd m n rs t) (hle : Le n st t) (hh : t.getD h 0 = st.getD h 0) (he : en m rs st h = true) : en m rs t h = true := by
  obtain ⟨e, hn, ho⟩ := en_nxt he
  obtain ⟨o1, o2⟩ := nxt_o w hn
  have hhn := nxt_h w hn
  have ht : nxt rs t h = some e := by unfold nxt at hn ⊢; rw [hh]; exact hn
  unfold en
  rw [ht]
  dsimp only
  unfold ok1 at ho ⊢
  cases hg : e.g with
  | true => rfl
  | false =>
    rw [hg] at ho
    simp only [Bool.false_or] at ho ⊢
    obtain ⟨q, hq⟩ := v.q e.o h o1 hhn o2
    rw [hq] at ho
    obtain ⟨s, hs⟩ := givs_mono (rs.getD e.o []) (hle e.o o1) h
    have : qS m rs t e.o h = some (q ++ s) := by
      unfold qS at hq ⊢
      rw [hh, hs]
      exact qu_give hq s
    rw [this]
    exact avail_more ho
inductive Run (m : Bool) (rs : Rows) : List Nat → List Nat → List Nat → Prop where
  | nil (st : List Nat) : Run m rs st [] st
  | cons {st o st' : List Nat} {h : Nat} (he : en m rs st h = true) (t : Run m rs (adv st h) o st') : Run m rs st (h :: o) st'
theorem Run.vd {o st' : List Nat} (w : Own n rs) (r : Run m rs st o st') : Vd m n rs st → Vd m n rs st' := by
  induction r with
  | nil _ => exact id
  | cons he _ ih => exact fun v => ih (v.adv w he)
theorem Le.refl (s : List Nat) : Le n s s := fun _ _ => Nat.le_refl _
theorem Le.trans {s t u : List Nat} (a : Le n s t) (b : Le n t u) : Le n s u := fun h hh => Nat.le_trans (a h hh) (b h hh)
theorem Le.adv (hl : h < st.length) : Le n st (adv st h) := fun k _ => by
  rw [getD_adv st h k hl]
  split
  · rename_i q; subst q; omega
  · omega
theorem en_lt (w : Own n rs) (v : Vd m n rs st) (he : en m rs st h = true) : h < st.length := by
  obtain ⟨e, hn, _⟩ := en_nxt he
  rw [v.len]; exact nxt_h w hn
theorem Run.le {o st' : List Nat} (w : Own n rs) (r : Run m rs st o st') : Vd m n rs st → Le n st st' := by
  induction r with
  | nil _ => exact fun _ => Le.refl _
  | cons he _ ih => exact fun v => (Le.adv (en_lt w v he)).trans (ih (v.adv w he))
theorem le_eq {s t : List Nat} (a : Le n s t) (b : Le n t s) (hs : s.length = n) (ht : t.length = n) : s = t := by
  apply List.ext_getElem (by omega)
  intro i h1 h2
  have c := a i (by omega)
  have d := b i (by omega)
  simp [List.getD, h1, h2] at c d
  omega
/-- where a run leads further, some hand goes on towards its end -/
theorem Run.step {o st' t : List Nat} (w : Own n rs) (r : Run m rs st o st') : Vd m n rs st → Vd m n rs t → Le n st t → Le n t st' → t ≠ st' → ∃ h, h < n ∧ en m rs t h = true ∧ t.getD h 0 < st'.getD h 0 := by
  induction r with
  | nil s => exact fun v vt a b hne => absurd (le_eq b a vt.len v.len) hne
  | @cons st o st' h he r ih =>
    intro v vt a b hne
    have hl := en_lt w v he
    have hn : h < n := by rw [← v.len]; exact hl
    have v2 := v.adv w he
    by_cases q : t.getD h 0 = st.getD h 0
    · refine ⟨h, hn, en_mono w v vt a q he, ?_⟩
      have := r.le w v2 h hn
      rw [getD_adv st h h hl, if_pos rfl] at this
      omega
    · refine ih v2 vt (fun k hk => ?_) b hne
      rw [getD_adv st h k hl]
      split
      · rename_i z; subst z
        have := a k hk
        omega
      · exact a k hk
end
end Pm
end S
set_option Elab.async false
set_option linter.all false
/-! Mathematics, R: greedy, charts of both manners, counts. -/
namespace S
namespace Pm
def gstep (m : Bool) (rs : Rows) (p : List Nat × List Nat) : List Nat × List Nat := match ready m rs p.2 with
  | h :: _ => (p.1 ++ [h], adv p.2 h)
  | [] => p
def gree (m : Bool) (rs : Rows) : Nat → List Nat × List Nat
  | 0 => ([], zeros rs.length)
  | k + 1 => gstep m rs (gree m rs k)
def total (rs : Rows) : Nat := (rs.map List.length).sum
def full (rs : Rows) : List Nat := rs.map List.length
section
variable {m : Bool} {n : Nat} {rs : Rows} {st : List Nat} {h : Nat}
theorem Run.snoc {o st' : List Nat} (r : Run m rs st o st') (he : en m rs st' h = true) : Run m rs st (o ++ [h]) (adv st' h) := by
  induction r with
  | nil s => exact .cons he (.nil _)
  | cons h0 _ ih => exact .cons h0 (ih he)
theorem mem_ready : h ∈ ready m rs st ↔ h < rs.length ∧ en m rs st h = true := by unfold ready; simp [List.mem_filter]
theorem gree_run (k : Nat) : Run m rs (zeros rs.length) (gree m rs k).1 (gree m rs k).2 := by
  induction k with
  | zero => exact .nil _
  | succ k ih =>
    show Run m rs _ (gstep m rs (gree m rs k)).1 (gstep m rs (gree m rs k)).2
    unfold gstep
    split
    · rename_i x r q
      have : x ∈ ready m rs (gree m rs k).2 := by rw [q]; simp
      exact ih.snoc (mem_ready.mp this).2
    · exact ih
theorem gree_vd (w : Own n rs) (k : Nat) : Vd m n rs (gree m rs k).2 := by
  have v : Vd m n rs (zeros rs.length) := by rw [w.len]; exact .zeros w
  exact (gree_run k).vd w v
theorem sum_set : ∀ (l : List Nat) (i : Nat), i < l.length → (l.set i (l.getD i 0 + 1)).sum = l.sum + 1
  | [], i, h => by simp at h
  | x :: l, 0, _ => by simp [List.getD]; omega
  | x :: l, i + 1, h => by
    have ih := sum_set l i (by simpa using h)
    have e : (x :: l).getD (i + 1) 0 = l.getD i 0 := by simp [List.getD]
    rw [e, List.set_cons_succ, List.sum_cons, List.sum_cons, ih]
    omega
theorem sum_adv (hl : h < st.length) : (adv st h).sum = st.sum + 1 := sum_set st h hl
theorem full_getD (rs : Rows) (h : Nat) : (full rs).getD h 0 = (rs.getD h []).length := by
  unfold full
  by_cases q : h < rs.length
  · simp [List.getD, q]
  · simp [List.getD, List.getElem?_eq_none (Nat.le_of_not_lt q)]
theorem Vd.le_full (v : Vd m n rs st) : Le n st (full rs) := fun h hh => by rw [full_getD]; exact v.le h hh
theorem sum_le : ∀ (s t : List Nat), s.length = t.length → (∀ i, i < s.length → s.getD i 0 ≤ t.getD i 0) → s.sum ≤ t.sum ∧ (s.sum = t.sum → s = t)
  | [], [], _, _ => by simp
  | [], _ :: _, h, _ => by simp at h
  | _ :: _, [], h, _ => by simp at h
  | x :: s, y :: t, hl, h => by
    have h0 := h 0 (by simp)
    simp [List.getD] at h0
    obtain ⟨a, b⟩ := sum_le s t (by simpa using hl) fun i hi => by
      have := h (i + 1) (by simpa using hi)
      simpa [List.getD] using this
    rw [List.sum_cons, List.sum_cons]
    refine ⟨by omega, fun e => ?_⟩
    have e1 : x = y := by omega
    have e2 : s = t := b (by omega)
    rw [e1, e2]
theorem Vd.sum (w : Own n rs) (v : Vd m n rs st) : st.sum ≤ total rs ∧ (st.sum = total rs → st = full rs) := by
  have := sum_le st (full rs) (by unfold full; rw [List.length_map, v.len, w.len]) fun i hi => by
    have := v.le_full i (by rw [← v.len]; exact hi)
    exact this
  exact this
/-- a run to the end -/
def Comp (m : Bool) (rs : Rows) : Prop := ∃ o, Run m rs (zeros rs.length) o (full rs)
theorem comp_ready (w : Own n rs) (c : Comp m rs) (v : Vd m n rs st) (hne : st ≠ full rs) : ready m rs st ≠ [] := by
  obtain ⟨o, r⟩ := c
  rw [w.len] at r
  obtain ⟨h, hh, he, _⟩ := r.step w (.zeros w) v (fun k _ => by rw [zeros_getD]; exact Nat.zero_le _) v.le_full hne
  intro z
  have : h ∈ ready m rs st := mem_ready.mpr ⟨by rw [w.len]; exact hh, he⟩
  rw [z] at this
  cases this
theorem gree_sum (w : Own n rs) (c : Comp m rs) : ∀ k, k ≤ total rs → (gree m rs k).2.sum = k
  | 0, _ => by simp [gree, zeros]
  | k + 1, hk => by
    have ih := gree_sum w c k (by omega)
    have v := gree_vd (m := m) w k
    have hne : (gree m rs k).2 ≠ full rs := fun z => by
      have : (full rs).sum = total rs := rfl
      rw [← z] at this
      omega
    have hr := comp_ready w c v hne
    show (gstep m rs (gree m rs k)).2.sum = k + 1
    unfold gstep
    split
    · rename_i x r q
      have hx : x ∈ ready m rs (gree m rs k).2 := by rw [q]; simp
      dsimp only
      rw [sum_adv (by rw [v.len, ← w.len]; exact (mem_ready.mp hx).1), ih]
    · rename_i q
      exact absurd q hr
theorem gree_full (w : Own n rs) : (gree m rs (total rs)).2 = full rs ↔ Comp m rs := by
  constructor
  · intro h
    exact ⟨_, h ▸ gree_run (total rs)⟩
  · intro c
    exact ((gree_vd (m := m) w (total rs)).sum w).2 (gree_sum w c _ (Nat.le_refl _))
/-- nothing lies at the end -/
def Emp (m : Bool) (rs : Rows) : Prop := ∀ h g, h < rs.length → g < rs.length → h ≠ g → qS m rs (full rs) h g = some []
def due (m : Bool) (rs : Rows) : Prop := (gree m rs (total rs)).2 = full rs ∧ Emp m rs
theorem qS_any {h g : Nat} {q : List Lt} (e : qS true rs st h g = some q) : qS false rs st h g = some q := qu_any e
theorem Vd.any (v : Vd true n rs st) : Vd false n rs st := ⟨v.len, v.le, fun h g a b c => by
  obtain ⟨q, e⟩ := v.q h g a b c
  exact ⟨q, qS_any e⟩⟩
theorem en_any (w : Own n rs) (v : Vd true n rs st) (he : en true rs st h = true) : en false rs st h = true := by
  obtain ⟨e, hn, ho⟩ := en_nxt he
  obtain ⟨o1, o2⟩ := nxt_o w hn
  unfold en
  rw [hn]
  dsimp only
  unfold ok1 at ho ⊢
  cases hg : e.g with
  | true => rfl
  | false =>
    rw [hg] at ho
    simp only [Bool.false_or] at ho ⊢
    obtain ⟨q, hq⟩ := v.q e.o h o1 (nxt_h w hn) o2
    rw [hq] at ho
    rw [qS_any hq]
    exact avail_any ho
theorem Run.any {o st' : List Nat} (w : Own n rs) (r : Run true rs st o st') : Vd true n rs st → Run false rs st o st' := by
  induction r with
  | nil s => exact fun _ => .nil s
  | cons he _ ih => exact fun v => .cons (en_any w v he) (ih (v.adv w he))
theorem vd0 (w : Own n rs) : Vd m n rs (zeros rs.length) := by rw [w.len]; exact .zeros w
theorem due_any (w : Own n rs) (d : due true rs) : due false rs := by
  obtain ⟨a, b⟩ := d
  obtain ⟨o, r⟩ := (gree_full w).mp a
  exact ⟨(gree_full w).mpr ⟨o, r.any w (vd0 w)⟩, fun h g x y z => qS_any (b h g x y z)⟩
/-- queue by queue letters are taken as they are given -/
def kept (rs : Rows) : Prop := ∀ h g, h < rs.length → g < rs.length → h ≠ g → givs (rs.getD h []) g = taks (rs.getD g []) h
theorem qS_full (h g : Nat) : qS m rs (full rs) h g = qu m (givs (rs.getD h []) g) (taks (rs.getD g []) h) := by
  unfold qS
  rw [full_getD, full_getD, List.take_length, List.take_length]
theorem due_kept (d : due true rs) : kept rs := fun h g x y z => by
  have e := d.2 h g x y z
  rw [qS_full] at e
  simp only [qu, if_true] at e
  split at e
  · rename_i t
    have e2 : (givs (rs.getD h []) g).drop (taks (rs.getD g []) h).length = [] := Option.some.inj e
    conv => lhs; rw [← List.take_append_drop (taks (rs.getD g []) h).length (givs (rs.getD h []) g), t, e2]
    simp
  · cases e
theorem taks_mono (r : Row) {i j : Nat} (hij : i ≤ j) (g : Nat) : ∃ s, taks (r.take j) g = taks (r.take i) g ++ s := by
  refine ⟨taks ((r.take j).drop i) g, ?_⟩
  rw [← taks_append]
  congr 1
  have : r.take i = (r.take j).take i := by rw [List.take_take, Nat.min_eq_left hij]
  rw [this, List.take_append_drop]
/-- in rows that keep the order the letter that is taken next is the next one given -/
theorem en_order (w : Own n rs) (k : kept rs) (v : Vd false n rs st) (vt : Vd true n rs st) (he : en false rs st h = true) : en true rs st h = true := by
  obtain ⟨e, hn, ho⟩ := en_nxt he
  obtain ⟨o1, o2⟩ := nxt_o w hn
  have hh := nxt_h w hn
  unfold en
  rw [hn]
  dsimp only
  unfold ok1 at ho ⊢
  cases hg : e.g with
  | true => rfl
  | false =>
    rw [hg] at ho
    simp only [Bool.false_or] at ho ⊢
    obtain ⟨q, hq⟩ := vt.q e.o h o1 hh o2
    rw [qS_any hq] at ho
    rw [hq]
    show avail true q e.l = true
    have ho' : avail false q e.l = true := ho
    -- the letters given: those taken, then q; those taken in all: those taken, then this letter
    unfold qS at hq
    simp only [qu, if_true] at hq
    split at hq
    · rename_i t
      have hd := Option.some.inj hq
      have ekept := k e.o h (by rw [w.len]; exact o1) (by rw [w.len]; exact hh) o2
      obtain ⟨s1, hs1⟩ := givs_mono (rs.getD e.o []) (v.le e.o o1) h
      rw [List.take_length] at hs1
      obtain ⟨s2, hs2⟩ := taks_mono (rs.getD h []) (nxt_lt hn) e.o
      have hs2' : taks (rs.getD h []) e.o = taks ((rs.getD h []).take (st.getD h 0)) e.o ++ [e.l] ++ s2 := by
        rw [show (rs.getD h []).length = (rs.getD h []).length from rfl] at hs2
        have : taks ((rs.getD h []).take (st.getD h 0 + 1)) e.o = taks ((rs.getD h []).take (st.getD h 0)) e.o ++ [e.l] := by
          rw [take_succ_some hn, taks_append, taks_one, if_pos ⟨hg, rfl⟩]
        rw [List.take_length] at hs2
        rw [hs2]
        congr 1
      have hgv : givs ((rs.getD e.o []).take (st.getD e.o 0)) h = taks ((rs.getD h []).take (st.getD h 0)) e.o ++ q := by
        conv => lhs; rw [← List.take_append_drop (taks ((rs.getD h []).take (st.getD h 0)) e.o).length (givs ((rs.getD e.o []).take (st.getD e.o 0)) h), t, hd]
      rw [hs1, hs2', hgv] at ekept
      have e3 : q ++ s1 = [e.l] ++ s2 := by
        have : taks ((rs.getD h []).take (st.getD h 0)) e.o ++ (q ++ s1) = taks ((rs.getD h []).take (st.getD h 0)) e.o ++ ([e.l] ++ s2) := by simpa [List.append_assoc] using ekept
        exact List.append_cancel_left this
      cases q with
      | nil => simp [avail] at ho'
      | cons x r =>
        simp only [List.cons_append, List.nil_append, List.cons.injEq] at e3
        simp [avail, e3.1]
    · cases hq
theorem Run.order {o st' : List Nat} (w : Own n rs) (k : kept rs) (r : Run false rs st o st') : Vd false n rs st → Vd true n rs st → Run true rs st o st' := by
  induction r with
  | nil s => exact fun _ _ => .nil s
  | cons he _ ih => exact fun v vt => .cons (en_order w k v vt he) (ih (v.adv w he) (vt.adv w (en_order w k v vt he)))
theorem due_order (w : Own n rs) (d : due false rs) (k : kept rs) : due true rs := by
  obtain ⟨a, b⟩ := d
  obtain ⟨o, r⟩ := (gree_full w).mp a
  refine ⟨(gree_full w).mpr ⟨o, r.order w k (vd0 w) (vd0 w)⟩, fun h g x y z => ?_⟩
  rw [qS_full, k h g x y z]
  simp [qu]
end
end Pm
end S
set_option Elab.async false
set_option linter.all false
/-! Mathematics, I: what lies, kept by couples. -/
namespace S
namespace Pm
abbrev Dq := List ((Nat × Nat) × List Lt)
def look (D : Dq) (p : Nat × Nat) : Option (List Lt) := (D.find? fun x => decide (x.1 = p)).map (·.2)
def put (D : Dq) (p : Nat × Nat) (q : List Lt) : Dq := if (D.any fun x => decide (x.1 = p)) = true then D.map (fun x => if x.1 = p then (x.1, q) else x) else D ++ [(p, q)]
theorem look_cons (x : (Nat × Nat) × List Lt) (D : Dq) (p : Nat × Nat) : look (x :: D) p = if x.1 = p then some x.2 else look D p := by
  unfold look
  rw [List.find?_cons]
  by_cases h : x.1 = p <;> simp [h]
theorem look_map (q : List Lt) (p p' : Nat × Nat) : ∀ D : Dq, look (D.map fun x => if x.1 = p then (x.1, q) else x) p' = if p' = p then (look D p).map (fun _ => q) else look D p'
  | [] => by simp [look]
  | x :: D => by
    rw [List.map_cons, look_cons, look_map q p p' D, look_cons, look_cons]
    by_cases h : x.1 = p
    · rw [if_pos h, if_pos h]
      by_cases h' : p' = p
      · subst h'
        simp [h]
      · have : ¬ x.1 = p' := fun z => h' (z.symm.trans h)
        have h2 : ¬ p = p' := fun z => h' z.symm
        simp [h', this, h, h2]
    · rw [if_neg h, if_neg h]
      by_cases h' : p' = p
      · subst h'
        simp [h]
      · simp [h']
theorem look_none {D : Dq} {p : Nat × Nat} (h : ¬ (D.any fun x => decide (x.1 = p)) = true) : look D p = none := by
  induction D with
  | nil => rfl
  | cons x D ih =>
    rw [List.any_cons, Bool.or_eq_true, not_or] at h
    rw [look_cons, if_neg (by simpa using h.1), ih h.2]
theorem look_append (D : Dq) (p p' : Nat × Nat) (q : List Lt) : look (D ++ [(p, q)]) p' = match look D p' with
    | some r => some r
    | none => if p' = p then some q else none := by
  induction D with
  | nil =>
    rw [List.nil_append, look_cons]
    by_cases h : p = p'
    · simp [h, look]
    · have : ¬ p' = p := fun z => h z.symm
      simp [h, look, this]
  | cons x D ih =>
    rw [List.cons_append, look_cons, look_cons, ih]
    by_cases h : x.1 = p' <;> simp [h]
theorem look_put (D : Dq) (p p' : Nat × Nat) (q : List Lt) : look (put D p q) p' = if p' = p then some q else look D p' := by
  unfold put
  split
  · rename_i h
    rw [look_map]
    by_cases e : p' = p
    · rw [if_pos e, if_pos e]
      have : ∃ r, look D p = some r := by
        clear e
        induction D with
        | nil => simp at h
        | cons x D ih =>
          rw [look_cons]
          by_cases hx : x.1 = p
          · exact ⟨_, if_pos hx⟩
          · rw [if_neg hx]
            exact ih (by simpa [hx] using h)
      obtain ⟨r, hr⟩ := this
      rw [hr]; rfl
    · rw [if_neg e, if_neg e]
  · rename_i h
    rw [look_append]
    by_cases e : p' = p
    · subst e
      rw [look_none h]
      try simp
    · simp only [if_neg e]
      cases look D p' <;> rfl
theorem put_keys (D : Dq) (p : Nat × Nat) (q : List Lt) : (put D p q).map (·.1) = if (D.any fun x => decide (x.1 = p)) = true then D.map (·.1) else D.map (·.1) ++ [p] := by
  unfold put
  split
  · rw [List.map_map]
    apply List.map_congr_left
    intro x _
    by_cases h : x.1 = p <;> simp [h]
  · simp
theorem put_len (D : Dq) (p : Nat × Nat) (q : List Lt) : (put D p q).length ≤ D.length + 1 := by
  unfold put
  split <;> simp
structure DQ (m : Bool) (n : Nat) (rs : Rows) (st : List Nat) (D : Dq) : Prop where
  key : ∀ x ∈ D, x.1.1 < n ∧ x.1.2 < n ∧ x.1.1 ≠ x.1.2
  nd : (D.map (·.1)).Nodup
  len : D.length ≤ st.sum
  val : ∀ h g, h < n → g < n → h ≠ g → qS m rs st h g = some ((look D (h, g)).getD [])
/-- what lies behind a turn -/
def goD (D : Dq) (h : Nat) (e : Ev) : Dq := if e.g then put D (h, e.o) ((look D (h, e.o)).getD [] ++ [e.l]) else put D (e.o, h) (((look D (e.o, h)).getD []).erase e.l)
section
variable {m : Bool} {n : Nat} {rs : Rows} {st : List Nat} {h : Nat} {D : Dq}
theorem put_key {p : Nat × Nat} {q : List Lt} (k : ∀ x ∈ D, x.1.1 < n ∧ x.1.2 < n ∧ x.1.1 ≠ x.1.2) (hp : p.1 < n ∧ p.2 < n ∧ p.1 ≠ p.2) : ∀ x ∈ put D p q, x.1.1 < n ∧ x.1.2 < n ∧ x.1.1 ≠ x.1.2 := by
  intro x hx
  have : x.1 ∈ (put D p q).map (·.1) := List.mem_map.mpr ⟨x, hx, rfl⟩
  rw [put_keys] at this
  split at this
  · obtain ⟨y, hy, e⟩ := List.mem_map.mp this
    rw [← e]; exact k y hy
  · rcases List.mem_append.mp this with z | z
    · obtain ⟨y, hy, e⟩ := List.mem_map.mp z
      rw [← e]; exact k y hy
    · rw [List.mem_singleton.mp z]; exact hp
theorem put_nd {p : Nat × Nat} {q : List Lt} (k : (D.map (·.1)).Nodup) : ((put D p q).map (·.1)).Nodup := by
  rw [put_keys]
  split
  · exact k
  · rename_i hn
    rw [List.nodup_append]
    refine ⟨k, by simp, fun a ha b hb => ?_⟩
    rw [List.mem_singleton.mp hb]
    rintro rfl
    obtain ⟨y, hy, e⟩ := List.mem_map.mp ha
    exact hn (List.any_eq_true.mpr ⟨y, hy, by simpa using e⟩)
theorem DQ.go {e : Ev} (w : Own n rs) (v : Vd m n rs st) (d : DQ m n rs st D) (hn : nxt rs st h = some e) (ho : ok1 m rs st h e = true) : DQ m n rs (adv st h) (goD D h e) := by
  obtain ⟨o1, o2⟩ := nxt_o w hn
  have hh := nxt_h w hn
  have hl : h < st.length := by rw [v.len]; exact hh
  have dl := d.len
  refine ⟨?_, ?_, ?_, fun a b ha hb hab => ?_⟩
  · unfold goD
    split
    · exact put_key d.key ⟨hh, o1, fun z => o2 z.symm⟩
    · exact put_key d.key ⟨o1, hh, o2⟩
  · unfold goD
    split <;> exact put_nd d.nd
  · rw [sum_adv hl]
    unfold goD
    split
    · have := put_len D (h, e.o) ((look D (h, e.o)).getD [] ++ [e.l]); omega
    · have := put_len D (e.o, h) (((look D (e.o, h)).getD []).erase e.l); omega
  · rw [qS_adv w v hn ho ha hb hab (d.val a b ha hb hab)]
    congr 1
    unfold goD
    cases hg : e.g with
    | true =>
      simp only [if_true, true_and, Bool.true_eq_false, false_and, and_false, if_false]
      rw [look_put]
      by_cases c : a = h ∧ e.o = b
      · obtain ⟨rfl, rfl⟩ := c
        simp
      · have : ¬ ((a, b) = (h, e.o)) := fun z => by
          injection z with z1 z2
          exact c ⟨z1, z2.symm⟩
        rw [if_neg c, if_neg this]
    | false =>
      simp only [Bool.false_eq_true, false_and, and_false, if_false, true_and]
      rw [look_put]
      by_cases c : b = h ∧ e.o = a
      · obtain ⟨rfl, rfl⟩ := c
        simp
      · have : ¬ ((a, b) = (e.o, h)) := fun z => by
          injection z with z1 z2
          exact c ⟨z2, z1.symm⟩
        rw [if_neg c, if_neg this]
theorem DQ.zeros (w : Own n rs) : DQ m n rs (zeros n) [] := by
  refine ⟨fun x hx => by simp at hx, by simp, Nat.zero_le _, fun h g _ _ _ => ?_⟩
  unfold qS
  rw [zeros_getD, zeros_getD, List.take_zero, List.take_zero]
  cases m <;> rfl
theorem look_mem {p : Nat × Nat} {q : List Lt} (nd : (D.map (·.1)).Nodup) (hx : (p, q) ∈ D) : look D p = some q := by
  induction D with
  | nil => cases hx
  | cons x D ih =>
    rw [look_cons]
    rw [List.map_cons, List.nodup_cons] at nd
    rcases List.mem_cons.mp hx with z | z
    · subst z; simp
    · have : ¬ x.1 = p := fun z' => nd.1 (List.mem_map.mpr ⟨(p, q), z, z'.symm⟩)
      rw [if_neg this, ih nd.2 z]
theorem look_some {p : Nat × Nat} {q : List Lt} (hx : look D p = some q) : (p, q) ∈ D := by
  induction D with
  | nil => cases hx
  | cons x D ih =>
    rw [look_cons] at hx
    by_cases h : x.1 = p
    · rw [if_pos h] at hx
      cases hx
      rw [← h]
      exact List.mem_cons_self
    · rw [if_neg h] at hx
      exact List.mem_cons_of_mem _ (ih hx)
theorem DQ.empty (w : Own n rs) (d : DQ m n rs st D) : (∀ x ∈ D, x.2 = []) ↔ ∀ h g, h < n → g < n → h ≠ g → qS m rs st h g = some [] := by
  constructor
  · intro k h g hh hg hne
    rw [d.val h g hh hg hne]
    cases e : look D (h, g) with
    | none => rfl
    | some q =>
      have := k _ (look_some e)
      dsimp only at this
      rw [this]; rfl
  · rintro k ⟨⟨h, g⟩, q⟩ hx
    obtain ⟨a, b, c⟩ := d.key _ hx
    have := k h g a b c
    rw [d.val h g a b c, look_mem d.nd hx] at this
    exact Option.some.inj this
end
end Pm
end S
set_option Elab.async false
set_option linter.all false
set_option maxRecDepth 100000
set_option maxHeartbeats 2000000
/-! Mathematics, A: the mirrors' parts by plain data. -/
namespace S
open PySem PySem.Spec PyProof.Rows L2
/-! ### data without truths -/
mutual
def gd : PyData → Bool
  | .none => true
  | .int _ => true
  | .str x => PyData.strOk x
  | .list xs => gds xs
  | .tuple xs => gds xs
  | _ => false
def gds : List PyData → Bool
  | [] => true
  | x :: xs => gd x && gds xs
end
mutual
theorem gd_lay : ∀ d : PyData, gd d = true → d.canLay0 = true
  | .none, _ => rfl
  | .int _, _ => rfl
  | .str x, h => by simpa [gd, PyData.canLay0] using h
  | .list xs, h => by simpa [PyData.canLay0] using gds_lay xs (by simpa [gd] using h)
  | .tuple xs, h => by simpa [PyData.canLay0] using gds_lay xs (by simpa [gd] using h)
  | .bool _, h => by simp [gd] at h
  | .dict _, h => by simp [gd] at h
theorem gds_lay : ∀ ds : List PyData, gds ds = true → PyData.canLayAll0 ds = true
  | [], _ => rfl
  | d :: ds, h => by
    simp only [gds, Bool.and_eq_true] at h
    simp only [PyData.canLayAll0, gd_lay d h.1, gds_lay ds h.2, Bool.and_self]
end
mutual
theorem eqv_gd : ∀ d e : PyData, gd d = true → gd e = true → (PyData.eqv d e = true ↔ d = e)
  | .none, e, _, h => by cases e <;> simp_all [gd, PyData.eqv]
  | .int _, e, _, h => by cases e <;> simp_all [gd, PyData.eqv]
  | .str _, e, _, h => by cases e <;> simp_all [gd, PyData.eqv]
  | .list xs, e, h1, h => by
    cases e with
    | list ys =>
      have := eqv_gds xs ys (by simpa [gd] using h1) (by simpa [gd] using h)
      simpa [PyData.eqv] using this
    | _ => simp_all [gd, PyData.eqv]
  | .tuple xs, e, h1, h => by
    cases e with
    | tuple ys =>
      have := eqv_gds xs ys (by simpa [gd] using h1) (by simpa [gd] using h)
      simpa [PyData.eqv] using this
    | _ => simp_all [gd, PyData.eqv]
  | .bool _, _, h, _ => by simp [gd] at h
  | .dict _, _, h, _ => by simp [gd] at h
theorem eqv_gds : ∀ ds es : List PyData, gds ds = true → gds es = true → (PyData.eqvAll ds es = true ↔ ds = es)
  | [], [], _, _ => by simp [PyData.eqvAll]
  | [], _ :: _, _, _ => by simp [PyData.eqvAll]
  | _ :: _, [], _, _ => by simp [PyData.eqvAll]
  | d :: ds, e :: es, h1, h2 => by
    simp only [gds, Bool.and_eq_true] at h1 h2
    simp only [PyData.eqvAll, Bool.and_eq_true, eqv_gd d e h1.1 h2.1, eqv_gds ds es h1.2 h2.2, List.cons.injEq]
end
/-- plain values: their data, how deep -/
def Pl (n : Nat) (a : AV) (d : PyData) : Prop := pd a = some d ∧ gd d = true ∧ d.depth ≤ n
theorem Pl.int (i : Int) (n : Nat) : Pl n (.int i) (.int i) := ⟨rfl, rfl, Nat.zero_le _⟩
theorem Pl.non (n : Nat) : Pl n .non .none := ⟨rfl, rfl, Nat.zero_le _⟩
theorem Pl.str {x : Str} (h : PyData.strOk x = true) (n : Nat) : Pl n (.str x) (.str x) := ⟨rfl, by simpa [gd] using h, Nat.zero_le _⟩
def Pls (n : Nat) (xs : List AV) (ds : List PyData) : Prop := pds xs = some ds ∧ gds ds = true ∧ PyData.depthAll ds ≤ n
theorem Pls.nil (n : Nat) : Pls n [] [] := ⟨rfl, rfl, Nat.zero_le _⟩
theorem Pls.cons {n : Nat} {a : AV} {d : PyData} {xs : List AV} {ds : List PyData} (h : Pl n a d) (t : Pls n xs ds) : Pls n (a :: xs) (d :: ds) :=
  ⟨by simp only [pds, h.1, t.1]; rfl, by simp only [gds, h.2.1, t.2.1, Bool.and_self], by simp only [PyData.depthAll]; exact Nat.max_le.mpr ⟨h.2.2, t.2.2⟩⟩
theorem Pls.map {α : Type} {n : Nat} {f : α → AV} {g : α → PyData} : ∀ (xs : List α), (∀ x ∈ xs, Pl n (f x) (g x)) → Pls n (xs.map f) (xs.map g)
  | [], _ => .nil n
  | x :: xs, h => .cons (h x (by simp)) (Pls.map xs fun y hy => h y (by simp [hy]))
theorem Pl.tup {n : Nat} {xs : List AV} {ds : List PyData} (h : Pls n xs ds) : Pl (n + 1) (.tup xs) (.tuple ds) := ⟨by simp only [pd, h.1]; rfl, by simpa [gd] using h.2.1, by simp only [PyData.depth]; exact Nat.succ_le_succ h.2.2⟩
theorem Pl.tpS {n : Nat} {xs : List AV} {ds : List PyData} (h : Pls n xs ds) : Pl (n + 1) (.tpS xs) (.tuple ds) := ⟨by simp only [pd, h.1]; rfl, by simpa [gd] using h.2.1, by simp only [PyData.depth]; exact Nat.succ_le_succ h.2.2⟩
theorem Pl.lst {n : Nat} {xs : List AV} {ds : List PyData} (h : Pls n xs ds) : Pl (n + 1) (.lst xs) (.list ds) := ⟨by simp only [pd, h.1]; rfl, by simpa [gd] using h.2.1, by simp only [PyData.depth]; exact Nat.succ_le_succ h.2.2⟩
theorem Pl.mono {n m : Nat} {a : AV} {d : PyData} (h : Pl n a d) (k : n ≤ m) : Pl m a d := ⟨h.1, h.2.1, Nat.le_trans h.2.2 k⟩
/-- a value, or a list of the store -/
def PlS (s : Sto) (a : AV) (d : PyData) : Prop := pdA a s = some d ∧ gd d = true ∧ d.depth ≤ 64
theorem Pl.s {n : Nat} {a : AV} {d : PyData} (h : Pl n a d) (k : n ≤ 64 := by decide) (s : Sto) : PlS s a d := by
  refine ⟨?_, h.2.1, Nat.le_trans h.2.2 k⟩
  have := h.1
  cases a <;> first | exact this | (simp [pd] at this)
theorem PlS.ref {n k : Nat} {s : Sto} {xs : List AV} {ds : List PyData} (e : s[k]? = some (.lst xs)) (h : Pls n xs ds) (q : n < 64 := by decide) : PlS s (.ref k) (.list ds) :=
  ⟨by simp only [pdA, e, h.1]; rfl, by simpa [gd] using h.2.1, by simp only [PyData.depth]; have := h.2.2; omega⟩
theorem PlS.shaped {s : Sto} {a : AV} {d : PyData} (h : PlS s a d) : SeqAt.shaped d = true := by
  unfold SeqAt.shaped
  simp [gd_lay d h.2.1, h.2.2]
theorem eqA_pl {s : Sto} {a b : AV} {d e : PyData} {p : Prop} [Decidable p] (neg : Bool) (h1 : PlS s a d) (h2 : PlS s b e) (hp : d = e ↔ p) : eqA neg a b s = some (.bl (if neg then !decide p else decide p), s) := by
  have q : PyData.eqv d e = decide p := Bool.eq_iff_iff.mpr (by rw [eqv_gd d e h1.2.1 h2.2.1, hp, decide_eq_true_iff])
  simp only [eqA, h1.1, h2.1, h1.shaped, h2.shaped, and_self, if_true, q]
@[simp] theorem eqA_int {s : Sto} (neg : Bool) (i j : Int) : eqA neg (.int i) (.int j) s = some (.bl (if neg then !decide (i = j) else decide (i = j)), s) := eqA_pl neg ((Pl.int i 0).s (s := s)) ((Pl.int j 0).s (s := s)) (by simp)
theorem eqA_str {s : Sto} (neg : Bool) {x y : Str} (hx : PyData.strOk x = true) (hy : PyData.strOk y = true) : eqA neg (.str x) (.str y) s = some (.bl (if neg then !decide (x = y) else decide (x = y)), s) := eqA_pl neg ((Pl.str hx 0).s (s := s)) ((Pl.str hy 0).s (s := s)) (by simp)
theorem eqA_bl {s : Sto} (neg : Bool) (a b : Bool) : eqA neg (.bl a) (.bl b) s = some (.bl (if neg then !(a == b) else (a == b)), s) := by
  cases a <;> cases b <;> rfl
theorem ordA_int {s : Sto} (f : PyData → PyData → Bool) (i j : Int) : ordA f (.int i) (.int j) s = some (.bl (f (.int i) (.int j)), s) := by
  show (if PySem.W.alike (.int i) (.int j) = true ∧ isND (.int i) = false ∧ (PyData.int i).depth ≤ 64 then some (AV.bl (f (.int i) (.int j)), s) else none) = _
  exact if_pos ⟨rfl, rfl, Nat.zero_le _⟩
@[simp] theorem ordA_ge {s : Sto} (i j : Int) : ordA geD (.int i) (.int j) s = some (.bl (decide (j ≤ i)), s) := by
  rw [ordA_int]
  show some (AV.bl (!PySem.W.dataLt (.int i) (.int j)), s) = _
  rw [PySem.W.dataLt_int]
  by_cases h : i < j <;> simp [h] <;> omega
@[simp] theorem ordA_le {s : Sto} (i j : Int) : ordA leD (.int i) (.int j) s = some (.bl (decide (i ≤ j)), s) := by
  rw [ordA_int]
  show some (AV.bl (!PySem.W.dataLt (.int j) (.int i)), s) = _
  rw [PySem.W.dataLt_int]
  by_cases h : j < i <;> simp [h] <;> omega
@[simp] theorem ordA_lt {s : Sto} (i j : Int) : ordA ltD (.int i) (.int j) s = some (.bl (decide (i < j)), s) := by
  rw [ordA_int]
  show some (AV.bl (PySem.W.dataLt (.int i) (.int j)), s) = _
  rw [PySem.W.dataLt_int]
@[simp] theorem ordA_gt {s : Sto} (i j : Int) : ordA gtD (.int i) (.int j) s = some (.bl (decide (j < i)), s) := by
  rw [ordA_int]
  show some (AV.bl (PySem.W.dataLt (.int j) (.int i)), s) = _
  rw [PySem.W.dataLt_int]
/-! ### places -/
theorem ixN_nat {n k : Nat} (h : k < n) : L2.ixN n (k : Int) = some k := by
  unfold L2.ixN
  rw [if_pos (by omega), if_pos (by omega)]
  simp
theorem atI_nat {α : Type} {xs : List α} {k : Nat} (h : k < xs.length) : L2.atI xs (k : Int) = xs[k]? := by
  unfold L2.atI
  rw [ixN_nat h]; rfl
theorem atI_some {α : Type} {xs : List α} {k : Nat} {a : α} (h : xs[k]? = some a) : L2.atI xs (k : Int) = some a := by
  rw [atI_nat (List.getElem?_eq_some_iff.mp h).1, h]
theorem atI_int {α : Type} {xs : List α} {i : Int} {a : α} (h0 : 0 ≤ i) (h : xs[i.toNat]? = some a) : L2.atI xs i = some a := by
  have := atI_some h
  rwa [Int.toNat_of_nonneg h0] at this
/-- a list of the store, asked by a number -/
theorem ixA_ref {s : Sto} {n : Nat} {xs : List AV} {i : Int} {a : AV} (hs : s[n]? = some (.lst xs)) (h : L2.atI xs i = some a) : ixA (.ref n) (.int i) s = some (a, s) := by
  simp only [ixA, dgetA, seqA, hs, h]; rfl
theorem ixA_lst {s : Sto} {xs : List AV} {i : Int} {a : AV} (h : L2.atI xs i = some a) : ixA (.lst xs) (.int i) s = some (a, s) := by
  simp only [ixA, dgetA, seqA, h]; rfl
theorem ixA_tup {s : Sto} {xs : List AV} {i : Int} {a : AV} (h : L2.atI xs i = some a) : ixA (.tup xs) (.int i) s = some (a, s) := by
  simp only [ixA, dgetA, seqA, h]; rfl
theorem ixA_tpS {s : Sto} {xs : List AV} {i : Int} {a : AV} (h : L2.atI xs i = some a) : ixA (.tpS xs) (.int i) s = some (a, s) := by
  simp only [ixA, dgetA, seqA, h]; rfl
theorem cutL_drop {α : Type} (xs : List α) (k : Nat) : cutL xs (some (k : Int)) none = xs.drop k := by
  unfold cutL
  rw [HT.sIx_nat, HT.sIx_none]
  by_cases h : k ≤ xs.length
  · rw [Nat.min_eq_left h, List.take_of_length_le (by simp)]
  · rw [Nat.min_eq_right (by omega), List.drop_eq_nil_of_le (Nat.le_refl _), List.drop_eq_nil_of_le (by omega)]; simp
theorem cutL_take {α : Type} (xs : List α) (k : Nat) : cutL xs none (some (k : Int)) = xs.take k := by
  unfold cutL
  rw [HT.sIx_nat, HT.sIx_none, List.drop_zero, Nat.sub_zero]
  by_cases h : k ≤ xs.length
  · rw [Nat.min_eq_left h]
  · rw [Nat.min_eq_right (by omega), List.take_of_length_le (Nat.le_refl _), List.take_of_length_le (by omega)]
/-! ### steps, the rest kept as data -/
section
variable {e e' : AE} {s s' : Sto} {m1 m2 : SM} {ma mb mc : EM} {tt tu : TM} {ms : AM} {i j k n : Nat} {a b c : AV} {as : List AV} {cn f : Str} {fm : Fn}
/-- k1: a value, then .. -/
def bS (r : Res AV) (e : AE) (f : AV → AE → Sto → SR) : SR := r.sbind e fun a s => f a e s
def bA (r : Res (List AV)) (e : AE) (f : List AV → AE → Sto → SR) : SR := r.sbind e fun a s => f a e s
def bT (r : Res Bool) (e : AE) (m1 m2 : SM) : SR := r.sbind e fun b s => if b then m1 e s else m2 e s
def bQ (r : SR) (m : SM) : SR := r.seq m
@[simp] theorem bS_ok {g : AV → AE → Sto → SR} : bS (.ok a s) e g = g a e s := rfl
@[simp] theorem bA_ok {g : List AV → AE → Sto → SR} : bA (.ok as s) e g = g as e s := rfl
@[simp] theorem bS_exc {g : AV → AE → Sto → SR} {c fs} : bS (.exc c fs s) e g = .exc c fs e s := rfl
@[simp] theorem bT_t : bT (.ok true s) e m1 m2 = m1 e s := rfl
@[simp] theorem bT_f : bT (.ok false s) e m1 m2 = m2 e s := rfl
@[simp] theorem bQ_nx : bQ (.nx e s) m1 = m1 e s := rfl
@[simp] theorem bQ_rt : bQ (.rt a s) m1 = .rt a s := rfl
@[simp] theorem bQ_bk : bQ (.bk e s) m1 = .bk e s := rfl
@[simp] theorem bQ_ct : bQ (.ct e s) m1 = .ct e s := rfl
@[simp] theorem bQ_exc {c fs} : bQ (.exc c fs e s) m1 = .exc c fs e s := rfl
def bE (r : Res AV) (e : AE) (f : AV → AE → Sto → Res AV) : Res AV := r.bind fun a s => f a e s
def bEA (r : Res (List AV)) (e : AE) (f : List AV → AE → Sto → Res AV) : Res AV := r.bind fun a s => f a e s
@[simp] theorem bE_ok {g : AV → AE → Sto → Res AV} : bE (.ok a s) e g = g a e s := rfl
@[simp] theorem bEA_ok {g : List AV → AE → Sto → Res AV} : bEA (.ok as s) e g = g as e s := rfl
def opB (g : G2) (mb : EM) (x : AV) (e : AE) (s : Sto) : Res AV := (mb e s).bind fun y s => ofO (g x y s)
def opC (g : G2) (x : AV) (y : AV) (e : AE) (s : Sto) : Res AV := ofO (g x y s)
@[simp] theorem x_op {g : G2} : eOp g ma mb e s = bE (ma e s) e (opB g mb) := rfl
@[simp] theorem x_opB {g : G2} : opB g mb a e s = bE (mb e s) e (opC g a) := rfl
@[simp] theorem x_opC {g : G2} : opC g a b e s = ofO (g a b s) := rfl
def unC (g : G1) (x : AV) (e : AE) (s : Sto) : Res AV := ofO (g x s)
@[simp] theorem x_un {g : G1} : eUn g ma e s = bE (ma e s) e (unC g) := rfl
@[simp] theorem x_unC {g : G1} : unC g a e s = ofO (g a s) := rfl
def aT (r : Res AV) : Res Bool := r.bind fun a s => match a with
  | .bl b => .ok b s
  | _ => .no
@[simp] theorem x_asB : asB ma e s = aT (ma e s) := rfl
@[simp] theorem aT_ok {q : Bool} : aT (.ok (.bl q) s) = .ok q s := rfl
def aTr (r : Res AV) : Res Bool := r.bind fun a s => match truA a s with
  | some b => .ok b s
  | none => .no
@[simp] theorem x_asT : asT ma e s = aTr (ma e s) := rfl
theorem aTr_ok {q : Bool} (h : truA a s = some q) : aTr (.ok a s) = .ok q s := by show (match truA a s with | some b => Res.ok b s | none => .no) = _; rw [h]
@[simp] theorem aTr_bl {q : Bool} : aTr (.ok (.bl q) s) = .ok q s := rfl
@[simp] theorem x_seq : sSeq m1 m2 e s = bQ (m1 e s) m2 := rfl
@[simp] theorem x_if : sIf tt m1 m2 e s = bT (tt e s) e m1 m2 := rfl
theorem x_var (h : e[i]? = some (some a)) : eVar i e s = .ok a s := eVar_at' h
where eVar_at' {i : Nat} {e : AE} {s : Sto} {a : AV} (h : e[i]? = some (some a)) : eVar i e s = .ok a s := by unfold eVar; rw [h]
def atV (o : Option (Option AV)) (s : Sto) : Res AV := match o with
  | some (some a) => .ok a s
  | _ => .no
@[simp] theorem x_varE : eVar i e s = atV e[i]? s := rfl
@[simp] theorem atV_ok : atV (some (some a)) s = .ok a s := rfl
@[simp] theorem x_c : eC a e s = .ok a s := rfl
def setC (i : Nat) (a : AV) (e : AE) (s : Sto) : SR := .nx (e.set i (some a)) s
@[simp] theorem x_set : sSet i ma e s = bS (ma e s) e (setC i) := rfl
@[simp] theorem x_setC : setC i a e s = .nx (e.set i (some a)) s := rfl
def retC (a : AV) (e : AE) (s : Sto) : SR := .rt a s
@[simp] theorem x_ret : sRet ma e s = bS (ma e s) e retC := rfl
@[simp] theorem x_retC : retC a e s = .rt a s := rfl
@[simp] theorem x_retN : sRetN e s = .rt .non s := rfl
@[simp] theorem x_pass : sPass e s = .nx e s := rfl
@[simp] theorem x_break : sBreak e s = .bk e s := rfl
@[simp] theorem x_cont : sCont e s = .ct e s := rfl
def dropC (a : AV) (e : AE) (s : Sto) : SR := .nx e s
@[simp] theorem x_expr : sExpr ma e s = bS (ma e s) e dropC := rfl
@[simp] theorem x_dropC : dropC a e s = .nx e s := rfl
@[simp] theorem x_anil : aNil e s = .ok [] s := rfl
def aE (r : Res AV) (e : AE) (ms : AM) : Res (List AV) := r.bind fun x s => (ms e s).bind fun xs s => .ok (x :: xs) s
def aR (x : AV) (r : Res (List AV)) : Res (List AV) := r.bind fun xs s => .ok (x :: xs) s
@[simp] theorem x_acons : aCons ma ms e s = aE (ma e s) e ms := rfl
@[simp] theorem aE_ok : aE (.ok a s) e ms = aR a (ms e s) := rfl
@[simp] theorem aR_ok : aR a (.ok as s) = .ok (a :: as) s := rfl
def callC (g : GL) (as : List AV) (e : AE) (s : Sto) : Res AV := ofO (g as s)
@[simp] theorem x_call {g : GL} : eCall g ms e s = bEA (ms e s) e (callC g) := rfl
@[simp] theorem x_callC {g : GL} : callC g as e s = ofO (g as s) := rfl
def fnQ (f : Fn) (as : List AV) (e : AE) (s : Sto) : Res AV := f as s
@[simp] theorem x_fn {f : Fn} : eFn f ms e s = bEA (ms e s) e (fnQ f) := rfl
@[simp] theorem x_fnC {f : Fn} : fnQ f as e s = f as s := rfl
def fnNC (f : Fn) (as : List AV) (e : AE) (s : Sto) : Res AV := noX (f as s)
@[simp] theorem x_fnN {f : Fn} : eFnN f ms e s = bEA (ms e s) e (fnNC f) := rfl
@[simp] theorem x_fnNC {f : Fn} : fnNC f as e s = noX (f as s) := rfl
@[simp] theorem noX_ok : noX (.ok a s) = .ok a s := rfl
def toSR (o : Option (AE × Sto)) : SR := match o with
  | some (e, s) => .nx e s
  | none => .no
def asgC (g : GX) (a : AV) (e : AE) (s : Sto) : SR := toSR (g a e s)
@[simp] theorem x_asg {g : GX} : sAsg g ma e s = bS (ma e s) e (asgC g) := rfl
@[simp] theorem x_asgC {g : GX} : asgC g a e s = toSR (g a e s) := rfl
@[simp] theorem toSR_ok : toSR (some (e, s)) = .nx e s := rfl
def sb1 (r : Res AV) (mb : EM) (a : AV) (e : AE) : Option (AE × Sto) := match r with
  | .ok o s => match mb e s with
    | .ok i s => (setA o i a s).map fun s => (e, s)
    | _ => none
  | _ => none
def sb2 (o : AV) (r : Res AV) (a : AV) (e : AE) : Option (AE × Sto) := match r with
  | .ok i s => (setA o i a s).map fun s => (e, s)
  | _ => none
def sb3 (o : Option Sto) (e : AE) : Option (AE × Sto) := o.map fun s => (e, s)
@[simp] theorem x_gsb : gSb ma mb a e s = sb1 (ma e s) mb a e := rfl
@[simp] theorem sb1_ok {o : AV} : sb1 (.ok o s) mb a e = sb2 o (mb e s) a e := rfl
@[simp] theorem sb2_ok {o b : AV} : sb2 o (.ok b s) a e = sb3 (setA o b a s) e := rfl
@[simp] theorem sb3_ok : sb3 (some s) e = some (e, s) := rfl
@[simp] theorem x_gnm : gNm i a e s = some (e.set i (some a), s) := rfl
def fd1 (r : Res AV) (cn f : Str) (a : AV) (e : AE) : Option (AE × Sto) := match r with
  | .ok o s => (setFA cn f o a s).map fun s => (e, s)
  | _ => none
@[simp] theorem x_gfd : gFd cn f ma a e s = fd1 (ma e s) cn f a e := rfl
@[simp] theorem fd1_ok {o : AV} : fd1 (.ok o s) cn f a e = sb3 (setFA cn f o a s) e := rfl
@[simp] theorem x_gtpT {ms : GXs} : gTp k ms (.tup as) e s = if as.length = k then ms as e s else none := rfl
@[simp] theorem x_gtpS {ms : GXs} : gTp k ms (.tpS as) e s = if as.length = k then ms as e s else none := rfl
@[simp] theorem x_gsnil : gsNil [] e s = some (e, s) := rfl
def gs1 (o : Option (AE × Sto)) (ms : GXs) (as : List AV) : Option (AE × Sto) := match o with
  | some (e, s) => ms as e s
  | none => none
@[simp] theorem x_gscons {m : GX} {ms : GXs} : gsCons m ms (a :: as) e s = gs1 (m a e s) ms as := rfl
@[simp] theorem gs1_ok {ms : GXs} : gs1 (some (e, s)) ms as = ms as e s := rfl
def fldM1 (cn f : Str) (mo : EM) (v : AV) (e : AE) (s : Sto) : SR := (mo e s).sbind e fun o s => match setFA cn f o v s with
  | some s => .nx e s
  | none => .no
def fldM2 (cn f : Str) (v : AV) (o : AV) (e : AE) (s : Sto) : SR := match setFA cn f o v s with
  | some s => .nx e s
  | none => .no
@[simp] theorem x_fldM {mo mv : EM} : sFldM cn f mo mv e s = bS (mv e s) e (fldM1 cn f mo) := rfl
@[simp] theorem x_fldM1 {mo : EM} : fldM1 cn f mo a e s = bS (mo e s) e (fldM2 cn f a) := rfl
theorem x_fldM2 (h : setFA cn f b a s = some s') : fldM2 cn f a b e s = .nx e s' := by unfold fldM2; rw [h]
def par2C (i j : Nat) (as : List AV) (e : AE) (s : Sto) : SR := match as with
  | [a, b] => .nx ((e.set i (some a)).set j (some b)) s
  | _ => .no
@[simp] theorem x_par2 : sPar2 i j ms e s = bA (ms e s) e (par2C i j) := rfl
@[simp] theorem x_par2C : par2C i j [a, b] e s = .nx ((e.set i (some a)).set j (some b)) s := rfl
def slB (ml mh : OM) (a : AV) (e : AE) (s : Sto) : Res AV := (ml e s).bind fun lo s => (mh e s).bind fun hi s => ofO (slA a lo hi s)
def bO (r : Res (Option Int)) (e : AE) (f : Option Int → AE → Sto → Res AV) : Res AV := r.bind fun a s => f a e s
@[simp] theorem bO_ok {q : Option Int} {g : Option Int → AE → Sto → Res AV} : bO (.ok q s) e g = g q e s := rfl
def slC (mh : OM) (a : AV) (lo : Option Int) (e : AE) (s : Sto) : Res AV := (mh e s).bind fun hi s => ofO (slA a lo hi s)
def slD (a : AV) (lo hi : Option Int) (e : AE) (s : Sto) : Res AV := ofO (slA a lo hi s)
@[simp] theorem x_sl {ml mh : OM} : eSl ma ml mh e s = bE (ma e s) e (slB ml mh) := rfl
@[simp] theorem x_slB {ml mh : OM} : slB ml mh a e s = bO (ml e s) e (slC mh a) := rfl
@[simp] theorem x_slC {mh : OM} {lo : Option Int} : slC mh a lo e s = bO (mh e s) e (slD a lo) := rfl
@[simp] theorem x_slD {lo hi : Option Int} : slD a lo hi e s = ofO (slA a lo hi s) := rfl
@[simp] theorem x_onone : oNone e s = .ok none s := rfl
def oS (r : Res AV) : Res (Option Int) := r.bind fun a s => match a with
  | .int i => .ok (some i) s
  | _ => .no
@[simp] theorem x_osome : oSome ma e s = oS (ma e s) := rfl
@[simp] theorem oS_ok {z : Int} : oS (.ok (.int z) s) = .ok (some z) s := rfl
def lstC (as : List AV) (e : AE) (s : Sto) : Res AV := if as.length ≤ 16777216 then .ok (.lst as) s else .no
def lstRC (as : List AV) (e : AE) (s : Sto) : Res AV := if as.length ≤ 16777216 then .ok (.ref s.length) (s ++ [.lst as]) else .no
def tupC (as : List AV) (e : AE) (s : Sto) : Res AV := if as.length ≤ 16777216 then .ok (.tup as) s else .no
def tupSC (as : List AV) (e : AE) (s : Sto) : Res AV := if as.length ≤ 16777216 then .ok (.tpS as) s else .no
@[simp] theorem x_lst : eLst ms e s = bEA (ms e s) e lstC := rfl
@[simp] theorem x_lstR : eLstR ms e s = bEA (ms e s) e lstRC := rfl
@[simp] theorem x_tup : eTup ms e s = bEA (ms e s) e tupC := rfl
@[simp] theorem x_tupS : eTupS ms e s = bEA (ms e s) e tupSC := rfl
@[simp] theorem x_lstC : lstC as e s = if as.length ≤ 16777216 then .ok (.lst as) s else .no := rfl
@[simp] theorem x_lstRC : lstRC as e s = if as.length ≤ 16777216 then .ok (.ref s.length) (s ++ [.lst as]) else .no := rfl
@[simp] theorem x_tupC : tupC as e s = if as.length ≤ 16777216 then .ok (.tup as) s else .no := rfl
@[simp] theorem x_tupSC : tupSC as e s = if as.length ≤ 16777216 then .ok (.tpS as) s else .no := rfl
def bI (r : Res Bool) (e : AE) (ma mb : EM) : Res AV := r.bind fun b s => if b then ma e s else mb e s
@[simp] theorem x_eif : eIf tt ma mb e s = bI (tt e s) e ma mb := rfl
@[simp] theorem bI_t : bI (.ok true s) e ma mb = ma e s := rfl
@[simp] theorem bI_f : bI (.ok false s) e ma mb = mb e s := rfl
def bN (r : Res Bool) (e : AE) (tu : TM) : Res Bool := r.bind fun b s => if b then tu e s else .ok false s
def bR (r : Res Bool) (e : AE) (tu : TM) : Res Bool := r.bind fun b s => if b then .ok true s else tu e s
def bNt (r : Res Bool) : Res Bool := r.bind fun b s => .ok (!b) s
@[simp] theorem x_and : mAnd tt tu e s = bN (tt e s) e tu := rfl
@[simp] theorem x_or : mOr tt tu e s = bR (tt e s) e tu := rfl
@[simp] theorem x_not : mNot tt e s = bNt (tt e s) := rfl
@[simp] theorem bN_t : bN (.ok true s) e tt = tt e s := rfl
@[simp] theorem bN_f : bN (.ok false s) e tt = .ok false s := rfl
@[simp] theorem bR_t : bR (.ok true s) e tt = .ok true s := rfl
@[simp] theorem bR_f : bR (.ok false s) e tt = tt e s := rfl
@[simp] theorem bNt_ok {q : Bool} : bNt (.ok q s) = .ok (!q) s := rfl
def bAn (r : Res AV) (e : AE) (mb : EM) : Res AV := r.bind fun a s => match a with
  | .bl true => mb e s
  | .bl false => .ok (.bl false) s
  | _ => .no
def bOr (r : Res AV) (e : AE) (mb : EM) : Res AV := r.bind fun a s => match a with
  | .bl false => mb e s
  | .bl true => .ok (.bl true) s
  | _ => .no
def bNb (r : Res AV) : Res AV := r.bind fun a s => match a with
  | .bl b => .ok (.bl (!b)) s
  | _ => .no
@[simp] theorem x_andB : eAndB ma mb e s = bAn (ma e s) e mb := rfl
@[simp] theorem x_orB : eOrB ma mb e s = bOr (ma e s) e mb := rfl
@[simp] theorem x_notB : eNotB ma e s = bNb (ma e s) := rfl
@[simp] theorem bAn_t : bAn (.ok (.bl true) s) e mb = mb e s := rfl
@[simp] theorem bAn_f : bAn (.ok (.bl false) s) e mb = .ok (.bl false) s := rfl
@[simp] theorem bOr_t : bOr (.ok (.bl true) s) e mb = .ok (.bl true) s := rfl
@[simp] theorem bOr_f : bOr (.ok (.bl false) s) e mb = mb e s := rfl
@[simp] theorem bNb_ok {q : Bool} : bNb (.ok (.bl q) s) = .ok (.bl (!q)) s := rfl
def ofB (o : Option Bool) (s : Sto) : Res AV := match o with
  | some b => .ok (.bl b) s
  | none => .no
@[simp] theorem ofB_some {q : Bool} : ofB (some q) s = .ok (.bl q) s := rfl
def isiC (T : TN) (a : AV) (e : AE) (s : Sto) : Res AV := ofB (isA T a) s
@[simp] theorem x_isi {T : TN} : eIsi T ma e s = bE (ma e s) e (isiC T) := rfl
@[simp] theorem x_isiC {T : TN} : isiC T a e s = ofB (isA T a) s := rfl
def fldC (cn f : Str) (x : AV) (e : AE) (s : Sto) : Res AV := match insA cn x s with
  | some (_, fs) => match fldA fs f with
    | some v => .ok v s
    | none => .no
  | none => .no
@[simp] theorem x_fld : eFld cn f ma e s = bE (ma e s) e (fldC cn f) := rfl
theorem x_fldC {fs : List (Str × AV)} (hs : s[n]? = some (.ins cn fs)) (h : fldA fs f = some a) : fldC cn f (.ref n) e s = .ok a s := by
  unfold fldC insA; simp [hs, h]
def methC (cn m : Str) (fm : Fn) (ms : AM) (o : AV) (e : AE) (s : Sto) : Res AV := match insA cn o s with
  | some (_, fs) => match fldA fs m with
    | none => (ms e s).bind fun xs s => noX (fm (o :: xs) s)
    | some _ => .no
  | none => .no
def methD (fm : Fn) (o : AV) (as : List AV) (e : AE) (s : Sto) : Res AV := noX (fm (o :: as) s)
@[simp] theorem x_meth {m : Str} : eMeth cn m fm ma ms e s = bE (ma e s) e (methC cn m fm ms) := rfl
theorem x_methC {m : Str} {fs : List (Str × AV)} (hs : s[n]? = some (.ins cn fs)) (h : fldA fs m = none) : methC cn m fm ms (.ref n) e s = bEA (ms e s) e (methD fm (.ref n)) := by
  unfold methC insA; simp [hs, h]; rfl
@[simp] theorem x_methD : methD fm a as e s = noX (fm (a :: as) s) := rfl
def bmC (T : String) (g : GM) (ms : AM) (x : AV) (e : AE) (s : Sto) : Res AV := if bmOk T x s then (ms e s).bind fun xs s => ofO (g x xs s) else .no
def bmD (g : GM) (x : AV) (as : List AV) (e : AE) (s : Sto) : Res AV := ofO (g x as s)
@[simp] theorem x_bmt {T : String} {g : GM} : eBMT T g ma ms e s = bE (ma e s) e (bmC T g ms) := rfl
theorem x_bmC {T : String} {g : GM} (h : bmOk T a s = true) : bmC T g ms a e s = bEA (ms e s) e (bmD g a) := by unfold bmC; rw [if_pos h]; rfl
@[simp] theorem x_bmD {g : GM} : bmD g a as e s = ofO (g a as s) := rfl
def tmC (g : GM) (ms : AM) (x : AV) (e : AE) (s : Sto) : Res AV := if tpsOk x then (ms e s).bind fun xs s => ofO (g x xs s) else .no
@[simp] theorem x_tm {g : GM} : eTM g ma ms e s = bE (ma e s) e (tmC g ms) := rfl
@[simp] theorem x_tmC {g : GM} : tmC g ms (.tpS as) e s = bEA (ms e s) e (bmD g (.tpS as)) := rfl
def getB (mb mc : EM) (d : AV) (e : AE) (s : Sto) : Res AV := if bmOk "dict" d s then (mb e s).bind fun k s => (mc e s).bind fun x s => match dgetA d k s with
  | some o => .ok (o.getD x) s
  | none => .no
  else .no
def getC (mc : EM) (d k : AV) (e : AE) (s : Sto) : Res AV := (mc e s).bind fun x s => match dgetA d k s with
  | some o => .ok (o.getD x) s
  | none => .no
def getD' (d k x : AV) (e : AE) (s : Sto) : Res AV := match dgetA d k s with
  | some o => .ok (o.getD x) s
  | none => .no
@[simp] theorem x_get : eGet ma mb mc e s = bE (ma e s) e (getB mb mc) := rfl
theorem x_getB (h : bmOk "dict" a s = true) : getB mb mc a e s = bE (mb e s) e (getC mc a) := by unfold getB; rw [if_pos h]; rfl
@[simp] theorem x_getC : getC mc a b e s = bE (mc e s) e (getD' a b) := rfl
theorem x_getD {o : Option AV} (h : dgetA a b s = some o) : getD' a b c e s = .ok (o.getD c) s := by unfold getD'; rw [h]
def aug1 (mi me : EM) (o : AV) (e : AE) (s : Sto) : SR := (mi e s).sbind e fun i s => match o, i with
  | .ref n, .int k => match s[n]? with
    | some (.lst xs) => match (if 0 ≤ k then xs[k.toNat]? else none) with
      | some (.int u) => (me e s).sbind e fun v s => match v with
        | .int v => match setA o i (.int (u + v)) s with
          | some s => .nx e s
          | none => .no
        | _ => .no
      | _ => .no
    | _ => .no
  | _, _ => .no
def aug2 (me : EM) (o i : AV) (e : AE) (s : Sto) : SR := match o, i with
  | .ref n, .int k => match s[n]? with
    | some (.lst xs) => match (if 0 ≤ k then xs[k.toNat]? else none) with
      | some (.int u) => (me e s).sbind e fun v s => match v with
        | .int v => match setA o i (.int (u + v)) s with
          | some s => .nx e s
          | none => .no
        | _ => .no
      | _ => .no
    | _ => .no
  | _, _ => .no
def toSR' (o : Option Sto) (e : AE) : SR := match o with
  | some s => .nx e s
  | none => .no
def aug3 (o i : AV) (u : Int) (v : AV) (e : AE) (s : Sto) : SR := match v with
  | .int v => toSR' (setA o i (.int (u + v)) s) e
  | _ => .no
@[simp] theorem x_augIx : sAugIx ma mb mc e s = bS (ma e s) e (aug1 mb mc) := rfl
@[simp] theorem x_aug1 : aug1 mb mc a e s = bS (mb e s) e (aug2 mc a) := rfl
theorem x_aug2 {xs : List AV} {u : Int} (hs : s[n]? = some (.lst xs)) (h : xs[k]? = some (.int u)) : aug2 mc (.ref n) (.int k) e s = bS (mc e s) e (aug3 (.ref n) (.int k) u) := by
  unfold aug2; simp [hs, h]; rfl
@[simp] theorem x_aug3 {u v : Int} : aug3 a b u (.int v) e s = toSR' (setA a b (.int (u + v)) s) e := rfl
@[simp] theorem toSR'_ok : toSR' (some s) e = .nx e s := rfl
def fin (r : SR) : Res AV := match r with
  | .nx _ s => .ok .non s
  | .rt a s => .ok a s
  | .exc c fs _ s => .exc c fs s
  | _ => .no
theorem fn_at {m : SM} {N : Nat} (h : as.length = n) : fnM n N m as s = fin (m (startA N as) s) := if_pos h
@[simp] theorem fin_nx : fin (.nx e s) = .ok .non s := rfl
@[simp] theorem fin_rt : fin (.rt a s) = .ok a s := rfl
@[simp] theorem fin_exc {c fs} : fin (.exc c fs e s) = .exc c fs s := rfl
@[simp] theorem x_intA {i : Int} : intA [.int i] s = some (.int i, s) := rfl
@[simp] theorem x_modA {i j : Int} : modA (.int i) (.int j) s = if 0 < j then some (.int (i % j), s) else none := rfl
@[simp] theorem x_fdivA {i j : Int} : fdivA (.int i) (.int j) s = if 0 < j ∧ j < 1073741824 then some (.int (i / j), s) else none := rfl
@[simp] theorem x_addI {i j : Int} : addA (.int i) (.int j) s = some (.int (i + j), s) := rfl
@[simp] theorem x_subI {i j : Int} : subA (.int i) (.int j) s = some (.int (i - j), s) := rfl
theorem x_mulI {al : Bool} {i j : Int} (h : (-(2 ^ 64) < i ∧ i < 2 ^ 64) ∨ (-(2 ^ 64) < j ∧ j < 2 ^ 64)) : mulA al (.int i) (.int j) s = some (.int (i * j), s) := if_pos h
@[simp] theorem x_pow18 : powA (.int 10) (.int 18) s = some (.int 1000000000000000000, s) := by
  show (if (0 : Int) ≤ 18 ∧ (18 : Int) ≤ 1000000 ∧ (10 : Int).natAbs < 2 ^ 64 then some (AV.int ((10 : Int) ^ (18 : Int).toNat), s) else none) = _
  rw [if_pos (by decide)]
  rfl
@[simp] theorem x_slL {xs : List AV} {lo hi : Option Int} : slA (.lst xs) lo hi s = some (.lst (cutL xs lo hi), s) := rfl
@[simp] theorem x_slT {xs : List AV} {lo hi : Option Int} : slA (.tup xs) lo hi s = some (.tup (cutL xs lo hi), s) := rfl
@[simp] theorem x_slS {xs : List AV} {lo hi : Option Int} : slA (.tpS xs) lo hi s = some (.tpS (cutL xs lo hi), s) := rfl
@[simp] theorem x_slR {xs : List AV} {lo hi : Option Int} : slA (.scr xs) lo hi s = some (.lst (cutL xs lo hi), s) := rfl
theorem x_addL {xs ys : List AV} (h : xs.length + ys.length ≤ 16777216) : addA (.lst xs) (.lst ys) s = some (.lst (xs ++ ys), s) := if_pos h
theorem x_addT {xs ys : List AV} (h : xs.length + ys.length ≤ 16777216) : addA (.tup xs) (.tup ys) s = some (.tup (xs ++ ys), s) := if_pos h
theorem x_addS {xs ys : List AV} (h : xs.length + ys.length ≤ 16777216) : addA (.tpS xs) (.tpS ys) s = some (.tpS (xs ++ ys), s) := if_pos h
end
/-! ### one place of the store, changed -/
section
variable {s : Sto} {b : Nat} {l : List AV} {e : AE}
theorem self_set {o : AO} (hs : s[b]? = some o) : s.set b o = s := by
  apply List.ext_getElem?
  intro j
  by_cases hj : b = j
  · subst hj
    rw [List.getElem?_set_self (List.getElem?_eq_some_iff.mp hs).1]
    exact hs.symm
  · rw [List.getElem?_set_ne hj]
def mapS (o : Option AV) (s : Sto) : Option (AV × Sto) := o.map fun v => (v, s)
@[simp] theorem mapS_some {a : AV} : mapS (some a) s = some (a, s) := rfl
theorem ixA_at (hb : b < s.length) (i : Int) : ixA (.ref b) (.int i) (s.set b (.lst l)) = mapS (L2.atI l i) (s.set b (.lst l)) := by
  simp only [ixA, dgetA, seqA, List.getElem?_set_self hb]; rfl
def mapT (o : Option Nat) (f : Nat → Sto) : Option Sto := o.map f
@[simp] theorem mapT_some {k : Nat} {f : Nat → Sto} : mapT (some k) f = some (f k) := rfl
theorem setA_at (hb : b < s.length) (i : Int) (v : AV) : setA (.ref b) (.int i) v (s.set b (.lst l)) = mapT (L2.ixN l.length i) fun j => s.set b (.lst (l.set j v)) := by
  simp only [setA, List.getElem?_set_self hb, List.set_set]
  cases L2.ixN l.length i <;> rfl
theorem x_aug2I {mc : EM} {n : Nat} {i : Int} {xs : List AV} {u : Int} (hs : s[n]? = some (.lst xs)) (h0 : 0 ≤ i) (h : xs[i.toNat]? = some (.int u)) : aug2 mc (.ref n) (.int i) e s = bS (mc e s) e (aug3 (.ref n) (.int i) u) := by
  unfold aug2; simp [hs, h, h0]; rfl
end
/-! ### comprehensions, loops -/
section
variable {e e' : AE} {s s' : Sto} {p : Pat} {tt : TM} {te ma : EM} {im : IM} {vs : List Nat} {mb : SM} {n : Nat} {xs ys : List AV}
noncomputable def lcC (p : Pat) (tt : TM) (te : EM) (vs : List Nat) (src : Src) (e : AE) (s : Sto) : Res AV := lcGo src p tt te (wipeA e vs) src.items [] s
def bSr {α : Type} (r : Res Src) (e : AE) (f : Src → AE → Sto → Res α) : Res α := r.bind fun a s => f a e s
@[simp] theorem bSr_ok {α : Type} {src : Src} {f : Src → AE → Sto → Res α} : bSr (.ok src s) e f = f src e s := rfl
@[simp] theorem x_lc : eLc im p tt te vs e s = bSr (im e s) e (lcC p tt te vs) := rfl
theorem lc_go {α : Type} (src : Src) (enc : α → AV) (P : α → Bool) (F : α → AV) (hok : src.ok s) : ∀ (l : List α) (acc : List AV), acc.length + l.length ≤ 16777216 →
    (∀ x ∈ l, ∃ e1, setP p (enc x) e = some e1 ∧ tt e1 s = .ok (P x) s ∧ (P x = true → te e1 s = .ok (F x) s)) → lcGo src p tt te e (l.map enc) acc s = .ok (.lst (acc ++ (l.filter P).map F)) s
  | [], acc, _, _ => by simp [lcGo, hok]
  | x :: l, acc, hl, h => by
    obtain ⟨e1, h1, h2, h3⟩ := h x (by simp)
    simp only [List.length_cons] at hl
    rw [List.map_cons, lcGo, if_pos hok, h1]
    dsimp only
    rw [h2]
    cases hP : P x with
    | true =>
      dsimp only
      rw [h3 hP]
      dsimp only
      rw [if_pos (by omega), lc_go src enc P F hok l _ (by simp only [List.length_append, List.length_cons, List.length_nil]; omega) fun y hy => h y (by simp [hy])]
      simp [hP, List.filter_cons]
    | false =>
      dsimp only
      rw [lc_go src enc P F hok l _ (by omega) fun y hy => h y (by simp [hy])]
      simp [hP, List.filter_cons]
/-- a comprehension over things that leave the store as it is -/
theorem lc_map {α : Type} {gd : List (Nat × AO)} (l : List α) (enc : α → AV) (P : α → Bool) (F : α → AV) (hx : xs = l.map enc) (hok : ∀ q ∈ gd, s[q.1]? = some q.2) (hl : l.length ≤ 16777216)
    (h : ∀ x ∈ l, ∃ e1, setP p (enc x) (wipeA e vs) = some e1 ∧ tt e1 s = .ok (P x) s ∧ (P x = true → te e1 s = .ok (F x) s)) : lcC p tt te vs ⟨xs, gd⟩ e s = .ok (.lst ((l.filter P).map F)) s := by
  subst hx
  unfold lcC
  rw [lc_go ⟨l.map enc, gd⟩ enc P F hok l [] (by simpa using hl) h]
  rfl
theorem lc_all {α : Type} {gd : List (Nat × AO)} (l : List α) (enc : α → AV) (F : α → AV) (hx : xs = l.map enc) (hok : ∀ q ∈ gd, s[q.1]? = some q.2) (hl : l.length ≤ 16777216)
    (h : ∀ x ∈ l, ∃ e1, setP p (enc x) (wipeA e vs) = some e1 ∧ te e1 s = .ok (F x) s) : lcC p yesM te vs ⟨xs, gd⟩ e s = .ok (.lst (l.map F)) s := by
  rw [lc_map l enc (fun _ => true) F hx hok hl fun x hx => ?_]
  · rw [List.filter_eq_self.mpr fun _ _ => rfl]
  · obtain ⟨e1, h1, h2⟩ := h x hx
    exact ⟨e1, h1, rfl, fun _ => h2⟩
def tSrc (r : Res AV) : Res Src := r.bind fun a s => match kindA a, seqSrc a s with
  | some true, some src => .ok src s
  | _, _ => .no
def lSrc (r : Res AV) : Res Src := r.bind fun a s => match kindA a, seqSrc a s with
  | some false, some src => .ok src s
  | _, _ => .no
def rSrc (r : Res AV) : Res Src := r.bind fun a s => match a with
  | .int n => if n < 2 ^ 62 ∧ -(2 ^ 62) ≤ n then .ok ⟨rangeA n, []⟩ s else .no
  | _ => .no
@[simp] theorem x_iT : iT ma e s = tSrc (ma e s) := rfl
@[simp] theorem x_iL : iL ma e s = lSrc (ma e s) := rfl
@[simp] theorem x_iRg : iRg ma e s = rSrc (ma e s) := rfl
@[simp] theorem tSrc_t : tSrc (.ok (.tup xs) s) = .ok ⟨xs, []⟩ s := rfl
@[simp] theorem tSrc_s : tSrc (.ok (.tpS xs) s) = .ok ⟨xs, []⟩ s := rfl
@[simp] theorem lSrc_l : lSrc (.ok (.lst xs) s) = .ok ⟨xs, []⟩ s := rfl
@[simp] theorem lSrc_c : lSrc (.ok (.scr xs) s) = .ok ⟨xs, []⟩ s := rfl
theorem lSrc_r (h : s[n]? = some (.lst xs)) : lSrc (.ok (.ref n) s) = .ok ⟨xs, [(n, .lst xs)]⟩ s := by
  show (match kindA (.ref n), seqSrc (.ref n) s with
    | some false, some src => Res.ok src s
    | _, _ => .no) = _
  simp only [kindA, seqSrc, h]
theorem big62 : (1000000 : Int) < 2 ^ 62 ∧ -(2 ^ 62 : Int) ≤ 0 := by decide
theorem rSrc_n {k : Nat} (h : k < 1000000) : rSrc (.ok (.int (k : Int)) s) = .ok ⟨(List.range k).map fun i => AV.int (i : Nat), []⟩ s := by
  have c : ((k : Int)) < 2 ^ 62 ∧ -(2 ^ 62) ≤ (k : Int) := ⟨Int.lt_trans (by omega : (k : Int) < 1000000) big62.1, Int.le_trans big62.2 (Int.natCast_nonneg k)⟩
  have r : rangeA k = (List.range k).map fun i => AV.int (i : Nat) := by
    unfold rangeA
    rw [Int.toNat_natCast]
  rw [← r]
  unfold rSrc
  rw [Res.ok_bind]
  dsimp only
  rw [if_pos c]
def zS1 (b1 b2 : Bool) (r : Res (List AV)) : Res Src := r.bind fun xs s => match xs with
  | [a, b] => match seqSrc a s, seqSrc b s with
    | some u, some v => if kindA a = some b1 ∧ kindA b = some b2 then .ok ⟨pairsA u.items v.items, u.gd ++ v.gd⟩ s else .no
    | _, _ => .no
  | _ => .no
@[simp] theorem x_iZip {b1 b2 : Bool} {ms : AM} : iZip b1 b2 ms e s = zS1 b1 b2 (ms e s) := rfl
theorem zS1_ok {b1 b2 : Bool} {a b : AV} {u v : Src} (h1 : seqSrc a s = some u) (h2 : seqSrc b s = some v) (k1 : kindA a = some b1) (k2 : kindA b = some b2) : zS1 b1 b2 (.ok [a, b] s) = .ok ⟨pairsA u.items v.items, u.gd ++ v.gd⟩ s := by
  unfold zS1
  simp only [Res.ok_bind, h1, h2]
  rw [if_pos ⟨k1, k2⟩]
theorem pairsA_map {α β : Type} (f : α → AV) (g : β → AV) : ∀ (l : List α) (m : List β), pairsA (l.map f) (m.map g) = (l.zip m).map fun q => .tup [f q.1, g q.2]
  | [], _ => by cases ‹List β› <;> rfl
  | x :: l, [] => rfl
  | x :: l, y :: m => by simp [pairsA, pairsA_map f g l m]
def nS1 (bt : Bool) (r : Res (List AV)) : Res Src := r.bind fun xs s => match xs with
  | [a] => match seqSrc a s with
    | some u => if kindA a = some bt then .ok ⟨numA 0 u.items, u.gd⟩ s else .no
    | none => .no
  | _ => .no
@[simp] theorem x_iEn {bt : Bool} {ms : AM} : iEn bt ms e s = nS1 bt (ms e s) := rfl
theorem nS1_ok {bt : Bool} {a : AV} {u : Src} (h1 : seqSrc a s = some u) (k1 : kindA a = some bt) : nS1 bt (.ok [a] s) = .ok ⟨numA 0 u.items, u.gd⟩ s := by
  unfold nS1
  simp only [Res.ok_bind, h1]
  rw [if_pos k1]
theorem numA_map {α : Type} (f : α → AV) : ∀ (l : List α) (k : Nat), numA k (l.map f) = (l.zipIdx k).map fun q => .tup [.int (q.2 : Nat), f q.1]
  | [], _ => rfl
  | x :: l, k => by simp [numA, numA_map f l (k + 1), List.zipIdx_cons]
/-- loops -/
noncomputable def forC (p : Pat) (mb : SM) (src : Src) (e : AE) (s : Sto) : SR := forGo src p mb src.items e s
def bSrS (r : Res Src) (e : AE) (f : Src → AE → Sto → SR) : SR := r.sbind e fun a s => f a e s
@[simp] theorem bSrS_ok {src : Src} {f : Src → AE → Sto → SR} : bSrS (.ok src s) e f = f src e s := rfl
@[simp] theorem x_for : sFor im p mb e s = bSrS (im e s) e (forC p mb) := rfl
/-- a loop that is walked to its end: I, what holds; stp: what one turn does to it -/
theorem for_go {α β : Type} (src : Src) (enc : α → AV) (I : β → AE → Sto → Prop) (stp : β → α → β) (hok : ∀ b e s, I b e s → src.ok s) : ∀ (l : List α) (b : β) (e : AE) (s : Sto), I b e s →
    (∀ b x e s, x ∈ l → I b e s → ∃ e1 e2 s2, setP p (enc x) e = some e1 ∧ (mb e1 s = .nx e2 s2 ∨ mb e1 s = .ct e2 s2) ∧ I (stp b x) e2 s2) → ∃ e' s', forGo src p mb (l.map enc) e s = .nx e' s' ∧ I (l.foldl stp b) e' s'
  | [], b, e, s, hI, _ => ⟨e, s, by simp [forGo, hok b e s hI], hI⟩
  | x :: l, b, e, s, hI, h => by
    obtain ⟨e1, e2, s2, h1, h2, h3⟩ := h b x e s (by simp) hI
    obtain ⟨e', s', h4, h5⟩ := for_go src enc I stp hok l _ e2 s2 h3 fun b y e s hy => h b y e s (by simp [hy])
    refine ⟨e', s', ?_, by simpa using h5⟩
    rw [List.map_cons, forGo, if_pos (hok b e s hI), h1]
    dsimp only
    rcases h2 with h2 | h2 <;> rw [h2] <;> exact h4
theorem for_all {α β : Type} {gd : List (Nat × AO)} (l : List α) (enc : α → AV) (I : β → AE → Sto → Prop) (stp : β → α → β) (b : β) (hx : xs = l.map enc) (hok : ∀ b e s, I b e s → ∀ q ∈ gd, s[q.1]? = some q.2) (hI : I b e s)
    (h : ∀ b x e s, x ∈ l → I b e s → ∃ e1 e2 s2, setP p (enc x) e = some e1 ∧ (mb e1 s = .nx e2 s2 ∨ mb e1 s = .ct e2 s2) ∧ I (stp b x) e2 s2) : ∃ e' s', forC p mb ⟨xs, gd⟩ e s = .nx e' s' ∧ I (l.foldl stp b) e' s' := by
  subst hx
  exact for_go ⟨l.map enc, gd⟩ enc I stp hok l b e s hI h
/-- a loop that may end early: by a break (inl), a return (inr) -/
theorem for_go2 {α β : Type} (src : Src) (enc : α → AV) (I : β → AE → Sto → Prop) (J : AE → Sto → Prop) (R : AV → Sto → Prop) (hok : ∀ b e s, I b e s → src.ok s) (stp : β → α → β) : ∀ (l : List α) (b : β) (e : AE) (s : Sto), I b e s →
    (∀ b x e s, x ∈ l → I b e s → ∃ e1, setP p (enc x) e = some e1 ∧ ((∃ e2 s2, (mb e1 s = .nx e2 s2 ∨ mb e1 s = .ct e2 s2) ∧ I (stp b x) e2 s2) ∨ (∃ e2 s2, mb e1 s = .bk e2 s2 ∧ J e2 s2) ∨ (∃ a s2, mb e1 s = .rt a s2 ∧ R a s2))) →
    (∃ e' s', forGo src p mb (l.map enc) e s = .nx e' s' ∧ I (l.foldl stp b) e' s') ∨ (∃ e' s', forGo src p mb (l.map enc) e s = .nx e' s' ∧ J e' s') ∨ (∃ a s', forGo src p mb (l.map enc) e s = .rt a s' ∧ R a s')
  | [], b, e, s, hI, _ => .inl ⟨e, s, by simp [forGo, hok b e s hI], hI⟩
  | x :: l, b, e, s, hI, h => by
    obtain ⟨e1, h1, h2⟩ := h b x e s (by simp) hI
    rw [List.map_cons, forGo, if_pos (hok b e s hI), h1]
    dsimp only
    rcases h2 with ⟨e2, s2, h2, h3⟩ | ⟨e2, s2, h2, h3⟩ | ⟨a, s2, h2, h3⟩
    · have ih := for_go2 src enc I J R hok stp l _ e2 s2 h3 fun b y e s hy => h b y e s (by simp [hy])
      rcases h2 with h2 | h2 <;> rw [h2] <;> simpa using ih
    · rw [h2]
      exact .inr (.inl ⟨e2, s2, rfl, h3⟩)
    · rw [h2]
      exact .inr (.inr ⟨a, s2, rfl, h3⟩)
end
section
variable {s : Sto} {xs ys : List AV} {e : AE} {tt : TM}
@[simp] theorem x_lenL : lenA [.lst xs] s = some (.int (xs.length : Nat), s) := rfl
@[simp] theorem x_lenT : lenA [.tup xs] s = some (.int (xs.length : Nat), s) := rfl
@[simp] theorem x_lenS : lenA [.tpS xs] s = some (.int (xs.length : Nat), s) := rfl
theorem x_lenR {n : Nat} (h : s[n]? = some (.lst xs)) : lenA [.ref n] s = some (.int (xs.length : Nat), s) := by simp only [lenA, seqA, h]; rfl
@[simp] theorem x_tupL {st : Bool} : tupleA st [.lst xs] s = some (if st then .tpS xs else .tup xs, s) := rfl
theorem x_tupR {st : Bool} {n : Nat} (h : s[n]? = some (.lst xs)) : tupleA st [.ref n] s = some (if st then .tpS xs else .tup xs, s) := by simp only [tupleA, lstA, h]; rfl
theorem bN_and {a b : Bool} (h : tt e s = .ok b s) : bN (.ok a s) e tt = .ok (a && b) s := by
  cases a
  · rfl
  · rw [bN_t, h]; rfl
end
theorem cutL_drop1 {α : Type} (xs : List α) (k : Nat) : cutL xs (some ((k : Int) + 1)) none = xs.drop (k + 1) := cutL_drop xs (k + 1)
theorem cutL_take1 {α : Type} (xs : List α) (k : Nat) : cutL xs none (some ((k : Int) + 1)) = xs.take (k + 1) := cutL_take xs (k + 1)
theorem cut_takeN {α : Type} (xs : List α) (k : Nat) : cutL xs none (some (k : Int)) = xs.take k := cutL_take xs k
/-! ### numbers; the store's end -/
def natA (k : Nat) : AV := .int (k : Nat)
theorem natA_eq : natA = fun k => AV.int (k : Nat) := rfl
theorem ints_nat : ∀ l : List Nat, intsA (l.map natA) = some (l.map fun k : Nat => (k : Int))
  | [] => rfl
  | k :: l => by rw [List.map_cons, natA, intsA, ints_nat l]; rfl
theorem sum_nat : ∀ l : List Nat, (l.map fun k : Nat => (k : Int)).sum = (l.sum : Nat)
  | [] => rfl
  | k :: l => by rw [List.map_cons, List.sum_cons, sum_nat l, List.sum_cons, Int.natCast_add]
theorem x_sumL (l : List Nat) (s : Sto) : sumA [.lst (l.map natA)] s = some (.int (l.sum : Nat), s) := by
  show ((lstA (.lst (l.map natA)) s).bind intsA).map _ = _
  simp only [lstA, Option.bind_some, ints_nat, Option.map_some, sum_nat]
theorem get_last {s : Sto} {o : AO} : (s ++ [o])[s.length]? = some o := by simp
theorem set_last {s : Sto} {o o' : AO} : (s ++ [o]).set s.length o' = s ++ [o'] := by
  rw [List.set_append_right _ _ (Nat.le_refl _)]
  simp
theorem len_last {s : Sto} {o : AO} : s.length < (s ++ [o]).length := by simp
theorem ixA_nat {s : Sto} {n k : Nat} {l : List Nat} (h : s[n]? = some (.lst (l.map natA))) (hk : k < l.length) : ixA (.ref n) (.int (k : Nat)) s = some (.int (l.getD k 0 : Nat), s) := by
  refine ixA_ref h (atI_some ?_)
  rw [List.getElem?_map, List.getElem?_eq_getElem hk]
  simp [List.getD, hk, natA]
theorem ixA_natL {s : Sto} {k : Nat} {l : List Nat} (hk : k < l.length) : ixA (.lst (l.map natA)) (.int (k : Nat)) s = some (.int (l.getD k 0 : Nat), s) := by
  refine ixA_lst (atI_some ?_)
  rw [List.getElem?_map, List.getElem?_eq_getElem hk]
  simp [List.getD, hk, natA]
theorem cutL_1 {α : Type} (xs : List α) : cutL xs none (some 1) = xs.take 1 := cutL_take xs 1
theorem pl_nats (l : List Nat) : Pls 0 (l.map natA) (l.map fun k => PyData.int (k : Nat)) := Pls.map l fun k _ => Pl.int _ 0
theorem nats_inj {l r : List Nat} : (l.map fun k => PyData.int (k : Nat)) = (r.map fun k => PyData.int (k : Nat)) ↔ l = r := by
  induction l generalizing r with
  | nil => cases r <;> simp
  | cons a l ih =>
    cases r with
    | nil => simp
    | cons b r =>
      simp only [List.map_cons, List.cons.injEq, ih, PyData.int.injEq]
      exact and_congr_left fun _ => by omega
theorem big63 : (1000 : Int) < 2 ^ 63 ∧ -(2 ^ 63 : Int) ≤ 0 := by decide
theorem x_mulLR {xs : List AV} {k : Nat} {s : Sto} (hk : k < 1000) (h : xs.length * k ≤ 16777216) : mulA true (.lst xs) (.int (k : Nat)) s = some (.ref s.length, s ++ [.lst (repA xs (k : Nat))]) := by
  have c : -(2 ^ 63) ≤ ((k : Nat) : Int) ∧ ((k : Nat) : Int) < 2 ^ 63 ∧ xs.length * ((k : Nat) : Int).toNat ≤ 16777216 :=
    ⟨Int.le_trans big63.2 (Int.natCast_nonneg k), Int.lt_trans (by omega : (k : Int) < 1000) big63.1, by rw [Int.toNat_natCast]; exact h⟩
  unfold mulA
  dsimp only
  rw [if_pos c]
  rfl
theorem repA_zeros (n : Nat) : repA [AV.int 0] (n : Nat) = (List.replicate n 0).map natA := by
  unfold repA
  rw [Int.toNat_natCast, List.map_replicate]
  induction n with
  | zero => rfl
  | succ n ih => rw [List.replicate_succ, List.flatten_cons, ih, List.replicate_succ]; rfl
end S
set_option Elab.async false
set_option linter.all false
set_option maxRecDepth 100000
set_option maxHeartbeats 4000000
namespace S
namespace K76
open PySem PySem.Spec PyProof.Rows L2 StX
def top (i : Nat) : Stmt := PySem.Challenge.pw_picturedtalks_k76_whole_manners_of_chart.main.body.getD i (.Pass ⟨0, 0, 0, 0⟩)
def sub76 : Str → Option Bool := fun c => if c = "BadChart" then some true else none
theorem subN : ∀ c b, sub76 c = some b → c = "BadChart" ∧ b = true := fun c b e => by
  unfold sub76 at e
  split at e
  · rename_i h
    cases e
    exact ⟨h, rfl⟩
  · cases e
def pkLying (e : AE) (s : Sto) : Option Nat := match e[0]? with
  | some (some a) => match insA "Playing" a s with
    | some (_, fs) => match fldA fs "lying" with
      | some (.ref n) => some n
      | _ => none
    | none => none
  | _ => none
structure Tx (P : Program) (K : PySem.W.Frag) (mg : Str → Option Value) : Prop where
  b_abs : mg "abs" = none
  b_all : mg "all" = none
  b_any : mg "any" = none
  b_dict : mg "dict" = none
  b_enumerate : mg "enumerate" = none
  b_int : mg "int" = none
  b_isinstance : mg "isinstance" = none
  b_len : mg "len" = none
  b_list : mg "list" = none
  b_max : mg "max" = none
  b_range : mg "range" = none
  b_repr : mg "repr" = none
  b_sorted : mg "sorted" = none
  b_str : mg "str" = none
  b_sum : mg "sum" = none
  b_tuple : mg "tuple" = none
  b_zip : mg "zip" = none
  g_BadChart : mg "BadChart" = some (.ref (He.ga K "BadChart"))
  g_MANNERS : mg "MANNERS" = some (.ref (He.ga K "MANNERS"))
  g_Playing : mg "Playing" = some (.ref (He.ga K "Playing"))
  g_RESERVED : mg "RESERVED" = some (.ref (He.ga K "RESERVED"))
  g_Stands : mg "Stands" = some (.ref (He.ga K "Stands"))
  g_TooLarge : mg "TooLarge" = some (.ref (He.ga K "TooLarge"))
  g__law_alike : mg "_law_alike" = some (.ref (He.ga K "_law_alike"))
  g__law_bag : mg "_law_bag" = some (.ref (He.ga K "_law_bag"))
  g__law_can : mg "_law_can" = some (.ref (He.ga K "_law_can"))
  g__law_chart : mg "_law_chart" = some (.ref (He.ga K "_law_chart"))
  g__law_greedy : mg "_law_greedy" = some (.ref (He.ga K "_law_greedy"))
  g__law_headed : mg "_law_headed" = some (.ref (He.ga K "_law_headed"))
  g__law_is_chart : mg "_law_is_chart" = some (.ref (He.ga K "_law_is_chart"))
  g__law_kept : mg "_law_kept" = some (.ref (He.ga K "_law_kept"))
  g__law_loose : mg "_law_loose" = some (.ref (He.ga K "_law_loose"))
  g__law_lying : mg "_law_lying" = some (.ref (He.ga K "_law_lying"))
  g__law_message : mg "_law_message" = some (.ref (He.ga K "_law_message"))
  g__law_mixed : mg "_law_mixed" = some (.ref (He.ga K "_law_mixed"))
  g__law_orders : mg "_law_orders" = some (.ref (He.ga K "_law_orders"))
  g__law_queue : mg "_law_queue" = some (.ref (He.ga K "_law_queue"))
  g__law_some : mg "_law_some" = some (.ref (He.ga K "_law_some"))
  g__law_take : mg "_law_take" = some (.ref (He.ga K "_law_take"))
  g_charts_in_order : mg "charts_in_order" = some (.ref (He.ga K "charts_in_order"))
  g_check_hands : mg "check_hands" = some (.ref (He.ga K "check_hands"))
  g_check_manner : mg "check_manner" = some (.ref (He.ga K "check_manner"))
  g_checked_chart : mg "checked_chart" = some (.ref (He.ga K "checked_chart"))
  g_checked_lot : mg "checked_lot" = some (.ref (He.ga K "checked_lot"))
  g_checked_rows : mg "checked_rows" = some (.ref (He.ga K "checked_rows"))
  g_fault_of : mg "fault_of" = some (.ref (He.ga K "fault_of"))
  g_is_chart : mg "is_chart" = some (.ref (He.ga K "is_chart"))
  g_is_event : mg "is_event" = some (.ref (He.ga K "is_event"))
  g_is_hands : mg "is_hands" = some (.ref (He.ga K "is_hands"))
  g_is_lot_form : mg "is_lot_form" = some (.ref (He.ga K "is_lot_form"))
  g_is_name : mg "is_name" = some (.ref (He.ga K "is_name"))
  g_is_of_both : mg "is_of_both" = some (.ref (He.ga K "is_of_both"))
  g_is_row : mg "is_row" = some (.ref (He.ga K "is_row"))
  g_is_rows : mg "is_rows" = some (.ref (He.ga K "is_rows"))
  g_is_sized : mg "is_sized" = some (.ref (He.ga K "is_sized"))
  g_is_tuple_of : mg "is_tuple_of" = some (.ref (He.ga K "is_tuple_of"))
  g_many_orders : mg "many_orders" = some (.ref (He.ga K "many_orders"))
  g_played : mg "played" = some (.ref (He.ga K "played"))
  g_put_at : mg "put_at" = some (.ref (He.ga K "put_at"))
  g_stopped_at : mg "stopped_at" = some (.ref (He.ga K "stopped_at"))
  g_unlike_takes : mg "unlike_takes" = some (.ref (He.ga K "unlike_takes"))
  i_LEAST_HANDS : ∃ t, mg "LEAST_HANDS" = some (.int 2 t)
  i_MOST_CHARTS : ∃ t, mg "MOST_CHARTS" = some (.int 12 t)
  i_MOST_EVENTS : ∃ t, mg "MOST_EVENTS" = some (.int 24 t)
  i_MOST_HANDS : ∃ t, mg "MOST_HANDS" = some (.int 5 t)
  i_MOST_LETTERS : ∃ t, mg "MOST_LETTERS" = some (.int 8 t)
  i_MOST_STANDS : ∃ t, mg "MOST_STANDS" = some (.int 20000 t)
  i_MOST_TOGETHER : ∃ t, mg "MOST_TOGETHER" = some (.int 60 t)
  s_DIGITS : ∃ t, mg "DIGITS" = some (.str "0123456789" t)
  s_LETTERS : ∃ t, mg "LETTERS" = some (.str "abcdefghijklmnopqrstuvwxyz" t)
  t_MANNERS : He.tupB K "MANNERS" ((["order", "any"] : List Str).map He.Dv.str) = true
  t_RESERVED : He.tupB K "RESERVED" ((["any", "as", "board", "chart", "ends", "from", "give", "hand", "in", "lot", "node", "of", "order", "take", "to", "with"] : List Str).map He.Dv.str) = true
  c_Playing : Cls K (He.ga K "Playing")
  c_Stands : Cls K (He.ga K "Stands")
  n_Playing_hands : NoAttr K (He.ga K "Playing") "hands"
  n_Playing_lying : NoAttr K (He.ga K "Playing") "lying"
  n_Playing_manner : NoAttr K (He.ga K "Playing") "manner"
  n_Playing_rows : NoAttr K (He.ga K "Playing") "rows"
  n_Playing_stand : NoAttr K (He.ga K "Playing") "stand"
  n_Stands_begin : NoAttr K (He.ga K "Stands") "begin"
  n_Stands_counts : NoAttr K (He.ga K "Stands") "counts"
  n_Stands_line : NoAttr K (He.ga K "Stands") "line"
  n_Stands_moves : NoAttr K (He.ga K "Stands") "moves"
  n_Stands_playing : NoAttr K (He.ga K "Stands") "playing"
  n_Stands_queues : NoAttr K (He.ga K "Stands") "queues"
  m_Playing_can_go : Meth K (He.ga K "Playing") "can_go" (He.ma K (He.ga K "Playing") "can_go")
  m_Playing_go : Meth K (He.ga K "Playing") "go" (He.ma K (He.ga K "Playing") "go")
  m_Playing_is_over : Meth K (He.ga K "Playing") "is_over" (He.ma K (He.ga K "Playing") "is_over")
  m_Playing_next_event : Meth K (He.ga K "Playing") "next_event" (He.ma K (He.ga K "Playing") "next_event")
  m_Playing_queues : Meth K (He.ga K "Playing") "queues" (He.ma K (He.ga K "Playing") "queues")
  m_Playing_ready : Meth K (He.ga K "Playing") "ready" (He.ma K (He.ga K "Playing") "ready")
  m_Stands_behind : Meth K (He.ga K "Stands") "behind" (He.ma K (He.ga K "Stands") "behind")
  m_Stands_led : Meth K (He.ga K "Stands") "led" (He.ma K (He.ga K "Stands") "led")
  m_Stands_sum_behind : Meth K (He.ga K "Stands") "sum_behind" (He.ma K (He.ga K "Stands") "sum_behind")
  mk_Playing : Mk K (He.ga K "Playing") (He.ma K (He.ga K "Playing") "__init__")
  mk_Stands : Mk K (He.ga K "Stands") (He.ma K (He.ga K "Stands") "__init__")
  d__law_bag : ∃ fd, FunD K "_law_bag" "_law_bag" (defArgs (top 48)) (defBody (top 48)) (defScope (top 48)) [] [] (He.ga K "_law_bag") fd
  d__law_take : ∃ fd, FunD K "_law_take" "_law_take" (defArgs (top 49)) (defBody (top 49)) (defScope (top 49)) [] [] (He.ga K "_law_take") fd
  d__law_some : ∃ fd, FunD K "_law_some" "_law_some" (defArgs (top 50)) (defBody (top 50)) (defScope (top 50)) [] [] (He.ga K "_law_some") fd
  d__law_message : ∃ fd, FunD K "_law_message" "_law_message" (defArgs (top 53)) (defBody (top 53)) (defScope (top 53)) [] [] (He.ga K "_law_message") fd
  d__law_chart : ∃ fd, FunD K "_law_chart" "_law_chart" (defArgs (top 54)) (defBody (top 54)) (defScope (top 54)) [] [] (He.ga K "_law_chart") fd
  d__law_mixed : ∃ fd, FunD K "_law_mixed" "_law_mixed" (defArgs (top 51)) (defBody (top 51)) (defScope (top 51)) [] [] (He.ga K "_law_mixed") fd
  d__law_loose : ∃ fd, FunD K "_law_loose" "_law_loose" (defArgs (top 61)) (defBody (top 61)) (defScope (top 61)) [] [] (He.ga K "_law_loose") fd
  d__law_queue : ∃ fd, FunD K "_law_queue" "_law_queue" (defArgs (top 55)) (defBody (top 55)) (defScope (top 55)) [] [] (He.ga K "_law_queue") fd
  d__law_can : ∃ fd, FunD K "_law_can" "_law_can" (defArgs (top 56)) (defBody (top 56)) (defScope (top 56)) [] [] (He.ga K "_law_can") fd
  d__law_greedy : ∃ fd, FunD K "_law_greedy" "_law_greedy" (defArgs (top 58)) (defBody (top 58)) (defScope (top 58)) [] [] (He.ga K "_law_greedy") fd
  d__law_lying : ∃ fd, FunD K "_law_lying" "_law_lying" (defArgs (top 59)) (defBody (top 59)) (defScope (top 59)) [] [] (He.ga K "_law_lying") fd
  d__law_is_chart : ∃ fd, FunD K "_law_is_chart" "_law_is_chart" (defArgs (top 60)) (defBody (top 60)) (defScope (top 60)) [] [] (He.ga K "_law_is_chart") fd
  d_is_name : ∃ fd, FunD K "is_name" "is_name" (defArgs (top 14)) (defBody (top 14)) (defScope (top 14)) [] [] (He.ga K "is_name") fd
  d_is_tuple_of : ∃ fd, FunD K "is_tuple_of" "is_tuple_of" (defArgs (top 16)) (defBody (top 16)) (defScope (top 16)) [] [] (He.ga K "is_tuple_of") fd
  d_is_hands : ∃ fd, FunD K "is_hands" "is_hands" (defArgs (top 17)) (defBody (top 17)) (defScope (top 17)) [] [] (He.ga K "is_hands") fd
  d_check_hands : ∃ fd, FunD K "check_hands" "check_hands" (defArgs (top 25)) (defBody (top 25)) (defScope (top 25)) [] [] (He.ga K "check_hands") fd
  d_check_manner : ∃ fd, FunD K "check_manner" "check_manner" (defArgs (top 26)) (defBody (top 26)) (defScope (top 26)) [] [] (He.ga K "check_manner") fd
  d_is_sized : ∃ fd, FunD K "is_sized" "is_sized" (defArgs (top 15)) (defBody (top 15)) (defScope (top 15)) [] [] (He.ga K "is_sized") fd
  d_is_event : ∃ fd, FunD K "is_event" "is_event" (defArgs (top 18)) (defBody (top 18)) (defScope (top 18)) [] [] (He.ga K "is_event") fd
  d_is_row : ∃ fd, FunD K "is_row" "is_row" (defArgs (top 19)) (defBody (top 19)) (defScope (top 19)) [] [] (He.ga K "is_row") fd
  d_is_rows : ∃ fd, FunD K "is_rows" "is_rows" (defArgs (top 20)) (defBody (top 20)) (defScope (top 20)) [] [] (He.ga K "is_rows") fd
  d_checked_rows : ∃ fd, FunD K "checked_rows" "checked_rows" (defArgs (top 27)) (defBody (top 27)) (defScope (top 27)) [] [] (He.ga K "checked_rows") fd
  d_Playing___init__ : ∃ fd, FunD K "__init__" "Playing.__init__" (defArgs (inClass (top 28) 0)) (defBody (inClass (top 28) 0)) (defScope (inClass (top 28) 0)) [] [] (He.ma K (He.ga K "Playing") "__init__") fd
  d_Playing_next_event : ∃ fd, FunD K "next_event" "Playing.next_event" (defArgs (inClass (top 28) 1)) (defBody (inClass (top 28) 1)) (defScope (inClass (top 28) 1)) [] [] (He.ma K (He.ga K "Playing") "next_event") fd
  d_Playing_can_go : ∃ fd, FunD K "can_go" "Playing.can_go" (defArgs (inClass (top 28) 2)) (defBody (inClass (top 28) 2)) (defScope (inClass (top 28) 2)) [] [] (He.ma K (He.ga K "Playing") "can_go") fd
  d_Playing_ready : ∃ fd, FunD K "ready" "Playing.ready" (defArgs (inClass (top 28) 5)) (defBody (inClass (top 28) 5)) (defScope (inClass (top 28) 5)) [] [] (He.ma K (He.ga K "Playing") "ready") fd
  d_Playing_go : ∃ fd, FunD K "go" "Playing.go" (defArgs (inClass (top 28) 3)) (defBody (inClass (top 28) 3)) (defScope (inClass (top 28) 3)) [] [] (He.ma K (He.ga K "Playing") "go") fd
  d_played : ∃ fd, FunD K "played" "played" (defArgs (top 29)) (defBody (top 29)) (defScope (top 29)) [] [] (He.ga K "played") fd
  d_Playing_queues : ∃ fd, FunD K "queues" "Playing.queues" (defArgs (inClass (top 28) 4)) (defBody (inClass (top 28) 4)) (defScope (inClass (top 28) 4)) [] [] (He.ma K (He.ga K "Playing") "queues") fd
  d_Playing_is_over : ∃ fd, FunD K "is_over" "Playing.is_over" (defArgs (inClass (top 28) 6)) (defBody (inClass (top 28) 6)) (defScope (inClass (top 28) 6)) [] [] (He.ma K (He.ga K "Playing") "is_over") fd
  d_checked_chart : ∃ fd, FunD K "checked_chart" "checked_chart" (defArgs (top 30)) (defBody (top 30)) (defScope (top 30)) [] [] (He.ga K "checked_chart") fd
  d_is_chart : ∃ fd, FunD K "is_chart" "is_chart" (defArgs (top 31)) (defBody (top 31)) (defScope (top 31)) [] [] (He.ga K "is_chart") fd
  d__law_alike : ∃ fd, FunD K "_law_alike" "_law_alike" (defArgs (top 52)) (defBody (top 52)) (defScope (top 52)) [] [] (He.ga K "_law_alike") fd
  d_stopped_at : ∃ fd, FunD K "stopped_at" "stopped_at" (defArgs (top 38)) (defBody (top 38)) (defScope (top 38)) [] [] (He.ga K "stopped_at") fd
  d__law_kept : ∃ fd, FunD K "_law_kept" "_law_kept" (defArgs (top 62)) (defBody (top 62)) (defScope (top 62)) [] [] (He.ga K "_law_kept") fd
  d_is_of_both : ∃ fd, FunD K "is_of_both" "is_of_both" (defArgs (top 40)) (defBody (top 40)) (defScope (top 40)) [] [] (He.ga K "is_of_both") fd
  d_unlike_takes : ∃ fd, FunD K "unlike_takes" "unlike_takes" (defArgs (top 41)) (defBody (top 41)) (defScope (top 41)) [] [] (He.ga K "unlike_takes") fd
  d__law_headed : ∃ fd, FunD K "_law_headed" "_law_headed" (defArgs (top 63)) (defBody (top 63)) (defScope (top 63)) [] [] (He.ga K "_law_headed") fd
  d_is_lot_form : ∃ fd, FunD K "is_lot_form" "is_lot_form" (defArgs (top 34)) (defBody (top 34)) (defScope (top 34)) [] [] (He.ga K "is_lot_form") fd
  d_fault_of : ∃ fd, FunD K "fault_of" "fault_of" (defArgs (top 36)) (defBody (top 36)) (defScope (top 36)) [] [] (He.ga K "fault_of") fd
  d_checked_lot : ∃ fd, FunD K "checked_lot" "checked_lot" (defArgs (top 35)) (defBody (top 35)) (defScope (top 35)) [] [] (He.ga K "checked_lot") fd
  d_charts_in_order : ∃ fd, FunD K "charts_in_order" "charts_in_order" (defArgs (top 39)) (defBody (top 39)) (defScope (top 39)) [] [] (He.ga K "charts_in_order") fd
  d__law_orders : ∃ fd, FunD K "_law_orders" "_law_orders" (defArgs (top 57)) (defBody (top 57)) (defScope (top 57)) [] [] (He.ga K "_law_orders") fd
  d_put_at : ∃ fd, FunD K "put_at" "put_at" (defArgs (top 44)) (defBody (top 44)) (defScope (top 44)) [] [] (He.ga K "put_at") fd
  d_Stands_led : ∃ fd, FunD K "led" "Stands.led" (defArgs (inClass (top 45) 2)) (defBody (inClass (top 45) 2)) (defScope (inClass (top 45) 2)) [] [] (He.ma K (He.ga K "Stands") "led") fd
  d_Stands_behind : ∃ fd, FunD K "behind" "Stands.behind" (defArgs (inClass (top 45) 3)) (defBody (inClass (top 45) 3)) (defScope (inClass (top 45) 3)) [] [] (He.ma K (He.ga K "Stands") "behind") fd
  d_Stands_sum_behind : ∃ fd, FunD K "sum_behind" "Stands.sum_behind" (defArgs (inClass (top 45) 1)) (defBody (inClass (top 45) 1)) (defScope (inClass (top 45) 1)) [] [] (He.ma K (He.ga K "Stands") "sum_behind") fd
  d_Stands___init__ : ∃ fd, FunD K "__init__" "Stands.__init__" (defArgs (inClass (top 45) 0)) (defBody (inClass (top 45) 0)) (defScope (inClass (top 45) 0)) [] [] (He.ma K (He.ga K "Stands") "__init__") fd
  d_many_orders : ∃ fd, FunD K "many_orders" "many_orders" (defArgs (top 46)) (defBody (top 46)) (defScope (top 46)) [] [] (He.ga K "many_orders") fd
  d_law : ∃ fd, FunD K "law" "law" (defArgs (top 64)) (defBody (top 64)) (defScope (top 64)) [] [] (He.ga K "law") fd
  r_BadChart : BadTx P K mg
  e_sub : ∀ c b, sub76 c = some b → PySem.W.exmAny K (.ref (He.ga K c)) [.ref (He.ga K "BadChart"), .ref (He.ga K "TooLarge")] = some b
section
variable {P : Program} {w : World} {K : PySem.W.Frag} {mg : Str → Option Value} {base : Heap}
noncomputable def m__law_bag : SM := (sRet (eLstR (aCons (eC (.int 0)) (aCons (eC (.int 1234567891)) (aCons (eC (.int 0)) (aCons (eLc (iL (eSl (eVar 0) oNone (oSome (eC (.int 63))))) (.nm 1) yesM (eCall absA (aCons (eVar 1) aNil)) [1]) aNil))))))
noncomputable def f__law_bag : Fn := fnM 1 2 m__law_bag
theorem sc__law_bag : FnScope ["script", "cell"] ["script"] (defScope (top 48)) := ⟨rfl, rfl, rfl, by decide +kernel, rfl, by decide +kernel, by decide +kernel⟩
theorem fn__law_bag (T : Tx P K mg) {fd : FuncData} (F : FunD K "_law_bag" "_law_bag" (defArgs (top 48)) (defBody (top 48)) (defScope (top 48)) [] [] (He.ga K "_law_bag") fd) : FnOk P w K mg base (L2.CX P w) 1 (He.ga K "_law_bag") fd ["script"] (spM K f__law_bag) := by
  refine fn_ok F sc__law_bag fun cdv A outer s H E hr tk => ?_
  have hN := sc__law_bag.nd
  exact (rss_one (rs_ret (re_lstR (ra_cons re_int (ra_cons re_int (ra_cons re_int (ra_cons (re_lc rfl hN (ri_list (re_sl (re_var (i := 0)) ro_none (ro_some re_int))) (own := [("cell", 1)]) (blkOk_by (by rfl)) (by decide) ⟨fun _ _ _ _ _ => ⟨(pat_nm (i := 1) hN), pts_nilS, (re_callB call_absS (ra_cons (re_var (i := 1)) ra_nil) bt_abs T.b_abs)⟩⟩) ra_nil)))))))
theorem bi__law_bag {fd : FuncData} (F : FunD K "_law_bag" "_law_bag" (defArgs (top 48)) (defBody (top 48)) (defScope (top 48)) [] [] (He.ga K "_law_bag") fd) : Binds K fd ["script"] [] := F.bindsN fun _ _ _ _ _ _ us hl => match us, hl with | [_], _ => rfl
theorem ok__law_bag (T : Tx P K mg) : OkF P w K mg base 1 (He.ga K "_law_bag") f__law_bag := by
  obtain ⟨fd, F⟩ := T.d__law_bag
  exact ⟨fd, _, fn__law_bag T F, F.kp, bi__law_bag F⟩
noncomputable def m__law_take : SM := (sSeq (sIf (asB (eOp (eqA false) (eOp ixA (eVar 0) (eC (.int 0))) (eC (.int 0)))) (sSeq (sSet 2 (eOp ixA (eOp addA (eSl (eOp ixA (eVar 0) (eC (.int 3))) (oSome (eOp ixA (eVar 0) (eC (.int 2)))) oNone) (eLst (aCons (eC (.int 0)) aNil))) (eC (.int 0))))
    (sSeq (sAugIx (eVar 0) (eC (.int 2)) (eC (.int 1)))
    (sSeq (sIf (asB (eOp (ordA geD) (eVar 2) (eOp powA (eC (.int 10)) (eC (.int 18))))) (sAsg (gSb (eVar 0) (eC (.int 0))) (eVar 2)) sPass)
    (sSeq (sSet 3 (eOp addA (eOp addA (eOp (mulA false) (eOp ixA (eVar 0) (eC (.int 1))) (eC (.int 48271))) (eOp modA (eCall intA (aCons (eVar 2) aNil)) (eC (.int 2147483647)))) (eOp (mulA false) (eC (.int 7919)) (eOp ixA (eVar 0) (eC (.int 2))))))
    (sAsg (gSb (eVar 0) (eC (.int 1))) (eOp modA (eCall intA (aCons (eVar 3) aNil)) (eC (.int 2147483647)))))))) sPass)
    (sSeq (sIf (asB (eOp (ordA gtD) (eOp ixA (eVar 0) (eC (.int 0))) (eC (.int 0)))) (sSeq (sSet 4 (eOp modA (eCall intA (aCons (eOp ixA (eVar 0) (eC (.int 0))) aNil)) (eVar 1)))
    (sSeq (sAsg (gSb (eVar 0) (eC (.int 0))) (eOp fdivA (eCall intA (aCons (eOp ixA (eVar 0) (eC (.int 0))) aNil)) (eVar 1)))
    (sRet (eVar 4)))) sPass)
    (sSeq (sSet 5 (eOp modA (eCall intA (aCons (eOp (mulA false) (eOp addA (eOp ixA (eVar 0) (eC (.int 1))) (eC (.int 1))) (eC (.int 39373))) aNil)) (eC (.int 1000000007))))
    (sSeq (sSet 6 (eOp modA (eCall intA (aCons (eOp (mulA false) (eOp modA (eCall intA (aCons (eOp (mulA false) (eVar 5) (eVar 5)) aNil)) (eC (.int 998244353))) (eC (.int 30011))) aNil)) (eC (.int 998244353))))
    (sRet (eOp modA (eCall intA (aCons (eOp fdivA (eVar 6) (eC (.int 7))) aNil)) (eVar 1)))))))
noncomputable def f__law_take : Fn := fnM 2 7 m__law_take
theorem sc__law_take : FnScope ["bag", "many", "cell", "stirred", "value", "begin", "second"] ["bag", "many"] (defScope (top 49)) := ⟨rfl, rfl, rfl, by decide +kernel, rfl, by decide +kernel, by decide +kernel⟩
theorem fn__law_take (T : Tx P K mg) {fd : FuncData} (F : FunD K "_law_take" "_law_take" (defArgs (top 49)) (defBody (top 49)) (defScope (top 49)) [] [] (He.ga K "_law_take") fd) : FnOk P w K mg base (L2.CX P w) 1 (He.ga K "_law_take") fd ["bag", "many"] (spM K f__law_take) := by
  refine fn_ok F sc__law_take fun cdv A outer s H E hr tk => ?_
  have hN := sc__law_take.nd
  exact (rss_cons (rs_if (rt_cmp (op_eqS hr.units) (re_ix hr.u1 (re_var (i := 0)) re_int) re_int rfl) (rss_cons (rs_set (i := 2) hN (re_ix hr.u1 (re_op op_addS (re_sl (re_ix hr.u1 (re_var (i := 0)) re_int) (ro_some (re_ix hr.u1 (re_var (i := 0)) re_int)) ro_none) (re_lst (ra_cons re_int ra_nil))) re_int))
    (rss_cons (rs_augIx hr.u1 (re_var (i := 0)) re_int re_int)
    (rss_cons (rs_if (rt_cmp (op_geS hr.units) (re_var (i := 2)) (re_op op_powS re_int re_int) rfl) (rss_one (rs_asg (re_var (i := 2)) (rg_sub (W := never) hr.u1 (re_var (i := 0)) re_int))) rss_nil)
    (rss_cons (rs_set (i := 3) hN (re_op op_addS (re_op op_addS (re_op (op_mulS (alloc := false)) (re_ix hr.u1 (re_var (i := 0)) re_int) re_int) (re_op op_modS (re_callTy call_intS (ra_cons (re_var (i := 2)) ra_nil) bt_int T.b_int) re_int)) (re_op (op_mulS (alloc := false)) re_int (re_ix hr.u1 (re_var (i := 0)) re_int))))
    (rss_one (rs_asg (re_op op_modS (re_callTy call_intS (ra_cons (re_var (i := 3)) ra_nil) bt_int T.b_int) re_int) (rg_sub (W := never) hr.u1 (re_var (i := 0)) re_int))))))) rss_nil)
    (rss_cons (rs_if (rt_cmp (op_gtS hr.units) (re_ix hr.u1 (re_var (i := 0)) re_int) re_int rfl) (rss_cons (rs_set (i := 4) hN (re_op op_modS (re_callTy call_intS (ra_cons (re_ix hr.u1 (re_var (i := 0)) re_int) ra_nil) bt_int T.b_int) (re_var (i := 1))))
    (rss_cons (rs_asg (re_op op_fdivS (re_callTy call_intS (ra_cons (re_ix hr.u1 (re_var (i := 0)) re_int) ra_nil) bt_int T.b_int) (re_var (i := 1))) (rg_sub (W := never) hr.u1 (re_var (i := 0)) re_int))
    (rss_one (rs_ret (re_var (i := 4)))))) rss_nil)
    (rss_cons (rs_set (i := 5) hN (re_op op_modS (re_callTy call_intS (ra_cons (re_op (op_mulS (alloc := false)) (re_op op_addS (re_ix hr.u1 (re_var (i := 0)) re_int) re_int) re_int) ra_nil) bt_int T.b_int) re_int))
    (rss_cons (rs_set (i := 6) hN (re_op op_modS (re_callTy call_intS (ra_cons (re_op (op_mulS (alloc := false)) (re_op op_modS (re_callTy call_intS (ra_cons (re_op (op_mulS (alloc := false)) (re_var (i := 5)) (re_var (i := 5))) ra_nil) bt_int T.b_int) re_int) re_int) ra_nil) bt_int T.b_int) re_int))
    (rss_one (rs_ret (re_op op_modS (re_callTy call_intS (ra_cons (re_op op_fdivS (re_var (i := 6)) re_int) ra_nil) bt_int T.b_int) (re_var (i := 1)))))))))
theorem bi__law_take {fd : FuncData} (F : FunD K "_law_take" "_law_take" (defArgs (top 49)) (defBody (top 49)) (defScope (top 49)) [] [] (He.ga K "_law_take") fd) : Binds K fd ["bag", "many"] [] := F.bindsN fun _ _ _ _ _ _ us hl => match us, hl with | [_, _], _ => rfl
theorem ok__law_take (T : Tx P K mg) : OkF P w K mg base 1 (He.ga K "_law_take") f__law_take := by
  obtain ⟨fd, F⟩ := T.d__law_take
  exact ⟨fd, _, fn__law_take T F, F.kp, bi__law_take F⟩
noncomputable def m__law_some : SM := (sRet (eOp ixA (eVar 1) (eFn f__law_take (aCons (eVar 0) (aCons (eCall lenA (aCons (eVar 1) aNil)) aNil)))))
noncomputable def f__law_some : Fn := fnM 2 2 m__law_some
theorem sc__law_some : FnScope ["bag", "things"] ["bag", "things"] (defScope (top 50)) := ⟨rfl, rfl, rfl, by decide +kernel, rfl, by decide +kernel, by decide +kernel⟩
theorem fn__law_some (T : Tx P K mg) {fd : FuncData} (F : FunD K "_law_some" "_law_some" (defArgs (top 50)) (defBody (top 50)) (defScope (top 50)) [] [] (He.ga K "_law_some") fd) : FnOk P w K mg base (L2.CX P w) 2 (He.ga K "_law_some") fd ["bag", "things"] (spM K f__law_some) := by
  obtain ⟨fd__law_take, ps__law_take, F__law_take, kp__law_take, b__law_take⟩ := (ok__law_take (P := P) (w := w) (base := base) T).ex
  refine fn_ok F sc__law_some fun cdv A outer s H E hr tk => ?_
  have hN := sc__law_some.nd
  exact (rss_one (rs_ret (re_ix hr.u1 (re_var (i := 1)) (re_call F__law_take (hr.mono (by decide)) T.g__law_take kp__law_take b__law_take tk (ra_cons (re_var (i := 0)) (ra_cons (re_callB call_lenS (ra_cons (re_var (i := 1)) ra_nil) bt_len T.b_len) ra_nil))))))
theorem bi__law_some {fd : FuncData} (F : FunD K "_law_some" "_law_some" (defArgs (top 50)) (defBody (top 50)) (defScope (top 50)) [] [] (He.ga K "_law_some") fd) : Binds K fd ["bag", "things"] [] := F.bindsN fun _ _ _ _ _ _ us hl => match us, hl with | [_, _], _ => rfl
theorem ok__law_some (T : Tx P K mg) : OkF P w K mg base 2 (He.ga K "_law_some") f__law_some := by
  obtain ⟨fd, F⟩ := T.d__law_some
  exact ⟨fd, _, fn__law_some T F, F.kp, bi__law_some F⟩
noncomputable def m__law_message : SM := (sSeq (sSet 2 (eFn f__law_some (aCons (eVar 0) (aCons (eVar 1) aNil))))
    (sRet (eTup (aCons (eVar 2) (aCons (eFn f__law_some (aCons (eVar 0) (aCons (eLc (iT (eVar 1)) (.nm 3) (asB (eOp (eqA true) (eVar 3) (eVar 2))) (eVar 3) [3]) aNil))) (aCons (eFn f__law_some (aCons (eVar 0) (aCons (eLst (aCons (eC (.str "x")) (aCons (eC (.str "x")) (aCons (eC (.str "y")) (aCons (eC (.str "z")) aNil))))) aNil))) aNil))))))
noncomputable def f__law_message : Fn := fnM 2 4 m__law_message
theorem sc__law_message : FnScope ["bag", "hands", "one", "hand"] ["bag", "hands"] (defScope (top 53)) := ⟨rfl, rfl, rfl, by decide +kernel, rfl, by decide +kernel, by decide +kernel⟩
theorem fn__law_message (T : Tx P K mg) {fd : FuncData} (F : FunD K "_law_message" "_law_message" (defArgs (top 53)) (defBody (top 53)) (defScope (top 53)) [] [] (He.ga K "_law_message") fd) : FnOk P w K mg base (L2.CX P w) 3 (He.ga K "_law_message") fd ["bag", "hands"] (spM K f__law_message) := by
  obtain ⟨fd__law_some, ps__law_some, F__law_some, kp__law_some, b__law_some⟩ := (ok__law_some (P := P) (w := w) (base := base) T).ex
  refine fn_ok F sc__law_message fun cdv A outer s H E hr tk => ?_
  have hN := sc__law_message.nd
  exact (rss_cons (rs_set (i := 2) hN (re_call F__law_some (hr.mono (by decide)) T.g__law_some kp__law_some b__law_some tk (ra_cons (re_var (i := 0)) (ra_cons (re_var (i := 1)) ra_nil))))
    (rss_one (rs_ret (re_tup (ra_cons (re_var (i := 2)) (ra_cons (re_call F__law_some (hr.mono (by decide)) T.g__law_some kp__law_some b__law_some tk (ra_cons (re_var (i := 0)) (ra_cons (re_lc rfl hN (ri_tup (re_var (i := 1))) (own := [("hand", 3)]) (blkOk_by (by rfl)) (by decide) ⟨fun _ _ _ _ _ => ⟨(pat_nm (i := 3) hN), (pts_oneS (rt_cmp (op_neS hr.units) (re_var (i := 3)) (re_var (i := 2)) rfl)), (re_var (i := 3))⟩⟩) ra_nil))) (ra_cons (re_call F__law_some (hr.mono (by decide)) T.g__law_some kp__law_some b__law_some tk (ra_cons (re_var (i := 0)) (ra_cons (re_lst (ra_cons re_str (ra_cons re_str (ra_cons re_str (ra_cons re_str ra_nil))))) ra_nil))) ra_nil)))))))
theorem bi__law_message {fd : FuncData} (F : FunD K "_law_message" "_law_message" (defArgs (top 53)) (defBody (top 53)) (defScope (top 53)) [] [] (He.ga K "_law_message") fd) : Binds K fd ["bag", "hands"] [] := F.bindsN fun _ _ _ _ _ _ us hl => match us, hl with | [_, _], _ => rfl
theorem ok__law_message (T : Tx P K mg) : OkF P w K mg base 3 (He.ga K "_law_message") f__law_message := by
  obtain ⟨fd, F⟩ := T.d__law_message
  exact ⟨fd, _, fn__law_message T F, F.kp, bi__law_message F⟩
noncomputable def m__law_chart : SM := (sSeq (sAsg (gTp 3 (gsCons (gNm 3) (gsCons (gNm 4) (gsCons (gNm 5) gsNil)))) (eTup (aCons (eFn f__law_take (aCons (eVar 0) (aCons (eOp addA (eVar 2) (eC (.int 1))) aNil))) (aCons (eCall dictA (aCons (eLc (iT (eVar 1)) (.nm 11) yesM (eTup (aCons (eVar 11) (aCons (eTup aNil) aNil))) [11]) aNil)) (aCons (eLst aNil) aNil)))))
    (sSeq (sFor (iRg (eOp (mulA false) (eC (.int 2)) (eVar 3))) (.nm 6) (sIf (mAnd (asB (eOp (ordA gtD) (eVar 3) (eC (.int 0)))) (mOr (asB (eOp (eqA false) (eVar 5) (eLst aNil))) (asB (eOp (eqA false) (eFn f__law_take (aCons (eVar 0) (aCons (eC (.int 2)) aNil))) (eC (.int 0)))))) (sSeq (sAsg (gTp 3 (gsCons (gNm 7) (gsCons (gNm 8) (gsCons (gNm 9) gsNil)))) (eFn f__law_message (aCons (eVar 0) (aCons (eVar 1) aNil))))
    (sSeq (sAsg (gTp 2 (gsCons (gSb (eVar 4) (eVar 7)) (gsCons (gNm 3) gsNil))) (eTup (aCons (eOp addA (eOp ixA (eVar 4) (eVar 7)) (eTup (aCons (eTup (aCons (eC (.str "give")) (aCons (eVar 8) (aCons (eVar 9) aNil)))) aNil))) (aCons (eOp subA (eVar 3) (eC (.int 1))) aNil))))
    (sSet 5 (eOp addA (eVar 5) (eLst (aCons (eTup (aCons (eVar 7) (aCons (eVar 8) (aCons (eVar 9) aNil)))) aNil)))))) (sSeq (sAsg (gTp 3 (gsCons (gNm 7) (gsCons (gNm 8) (gsCons (gNm 9) gsNil)))) (eFn f__law_some (aCons (eVar 0) (aCons (eVar 5) aNil))))
    (sSeq (sSet 10 (eOp ixA (eLc (iEn false (aCons (eVar 5) aNil)) (.tp [12, 13]) (asB (eOp (eqA false) (eSl (eVar 13) oNone (oSome (eC (.int 2)))) (eTup (aCons (eVar 7) (aCons (eVar 8) aNil))))) (eVar 12) [12, 13]) (eC (.int 0))))
    (sSeq (sAsg (gSb (eVar 4) (eVar 8)) (eOp addA (eOp ixA (eVar 4) (eVar 8)) (eTup (aCons (eTup (aCons (eC (.str "take")) (aCons (eVar 7) (aCons (eOp ixA (eOp ixA (eVar 5) (eVar 10)) (eC (.int 2))) aNil)))) aNil))))
    (sSet 5 (eOp addA (eSl (eVar 5) oNone (oSome (eVar 10))) (eSl (eVar 5) (oSome (eOp addA (eVar 10) (eC (.int 1)))) oNone))))))))
    (sRet (eCall (tupleA false) (aCons (eLc (iT (eVar 1)) (.nm 11) yesM (eOp ixA (eVar 4) (eVar 11)) [11]) aNil)))))
noncomputable def f__law_chart : Fn := fnM 3 14 m__law_chart
theorem sc__law_chart : FnScope ["bag", "hands", "most", "left", "rows", "lying", "lap", "one", "other", "letter", "first", "hand", "k", "its"] ["bag", "hands", "most"] (defScope (top 54)) := ⟨rfl, rfl, rfl, by decide +kernel, rfl, by decide +kernel, by decide +kernel⟩
theorem fn__law_chart (T : Tx P K mg) {fd : FuncData} (F : FunD K "_law_chart" "_law_chart" (defArgs (top 54)) (defBody (top 54)) (defScope (top 54)) [] [] (He.ga K "_law_chart") fd) : FnOk P w K mg base (L2.CX P w) 4 (He.ga K "_law_chart") fd ["bag", "hands", "most"] (spM K f__law_chart) := by
  obtain ⟨fd__law_message, ps__law_message, F__law_message, kp__law_message, b__law_message⟩ := (ok__law_message (P := P) (w := w) (base := base) T).ex
  obtain ⟨fd__law_some, ps__law_some, F__law_some, kp__law_some, b__law_some⟩ := (ok__law_some (P := P) (w := w) (base := base) T).ex
  obtain ⟨fd__law_take, ps__law_take, F__law_take, kp__law_take, b__law_take⟩ := (ok__law_take (P := P) (w := w) (base := base) T).ex
  refine fn_ok F sc__law_chart fun cdv A outer s H E hr tk => ?_
  have hN := sc__law_chart.nd
  exact (rss_cons (rs_asg (re_tup (ra_cons (re_call F__law_take (hr.mono (by decide)) T.g__law_take kp__law_take b__law_take tk (ra_cons (re_var (i := 0)) (ra_cons (re_op op_addS (re_var (i := 2)) re_int) ra_nil))) (ra_cons (re_callTy (call_dictS rfl) (ra_cons (re_lc rfl hN (ri_tup (re_var (i := 1))) (own := [("hand", 11)]) (blkOk_by (by rfl)) (by decide) ⟨fun _ _ _ _ _ => ⟨(pat_nm (i := 11) hN), pts_nilS, (re_tup (ra_cons (re_var (i := 11)) (ra_cons (re_tup ra_nil) ra_nil)))⟩⟩) ra_nil) bt_dict T.b_dict) (ra_cons (re_lst ra_nil) ra_nil)))) (rg_tup rfl (rgs_cons (rg_name (i := 3) hN) (rgs_cons (rg_name (i := 4) hN) (rgs_cons (rg_name (i := 5) hN) rgs_nil)))))
    (rss_cons (rs_for (passes_of rfl) rfl (ri_range (re_op (op_mulS (alloc := false)) re_int (re_var (i := 3))) T.b_range) (pat_nm (i := 6) hN) (rss_one (rs_if (rt_bool (rw_and (rt_cmp (op_gtS hr.units) (re_var (i := 3)) re_int rfl) (rw_and1 (rt_bool (rw_or (rt_cmp (op_eqS hr.units) (re_var (i := 5)) (re_lst ra_nil) rfl) (rw_or1 (rt_cmp (op_eqS hr.units) (re_call F__law_take (hr.mono (by decide)) T.g__law_take kp__law_take b__law_take tk (ra_cons (re_var (i := 0)) (ra_cons re_int ra_nil))) re_int rfl))))))) (rss_cons (rs_asg (re_call F__law_message (hr.mono (by decide)) T.g__law_message kp__law_message b__law_message tk (ra_cons (re_var (i := 0)) (ra_cons (re_var (i := 1)) ra_nil))) (rg_tup rfl (rgs_cons (rg_name (i := 7) hN) (rgs_cons (rg_name (i := 8) hN) (rgs_cons (rg_name (i := 9) hN) rgs_nil)))))
    (rss_cons (rs_asg (re_tup (ra_cons (re_op op_addS (re_ix hr.u1 (re_var (i := 4)) (re_var (i := 7))) (re_tup (ra_cons (re_tup (ra_cons re_str (ra_cons (re_var (i := 8)) (ra_cons (re_var (i := 9)) ra_nil)))) ra_nil))) (ra_cons (re_op op_subS (re_var (i := 3)) re_int) ra_nil))) (rg_tup rfl (rgs_cons (rg_sub (W := never) hr.u1 (re_var (i := 4)) (re_var (i := 7))) (rgs_cons (rg_name (i := 3) hN) rgs_nil))))
    (rss_one (rs_set (i := 5) hN (re_op op_addS (re_var (i := 5)) (re_lst (ra_cons (re_tup (ra_cons (re_var (i := 7)) (ra_cons (re_var (i := 8)) (ra_cons (re_var (i := 9)) ra_nil)))) ra_nil))))))) (rss_cons (rs_asg (re_call F__law_some (hr.mono (by decide)) T.g__law_some kp__law_some b__law_some tk (ra_cons (re_var (i := 0)) (ra_cons (re_var (i := 5)) ra_nil))) (rg_tup rfl (rgs_cons (rg_name (i := 7) hN) (rgs_cons (rg_name (i := 8) hN) (rgs_cons (rg_name (i := 9) hN) rgs_nil)))))
    (rss_cons (rs_set (i := 10) hN (re_ix hr.u1 (re_lc rfl hN (ri_enumL (ra_cons (re_var (i := 5)) ra_nil) T.b_enumerate) (own := [("k", 12), ("its", 13)]) (blkOk_by (by rfl)) (by decide) ⟨fun _ _ _ _ _ => ⟨(pat_tp (is := [12, 13]) rfl (pats_cons (i := 12) hN (pats_cons (i := 13) hN pats_nil))), (pts_oneS (rt_cmp (op_eqS hr.units) (re_sl (re_var (i := 13)) ro_none (ro_some re_int)) (re_tup (ra_cons (re_var (i := 7)) (ra_cons (re_var (i := 8)) ra_nil))) rfl)), (re_var (i := 12))⟩⟩) re_int))
    (rss_cons (rs_asg (re_op op_addS (re_ix hr.u1 (re_var (i := 4)) (re_var (i := 8))) (re_tup (ra_cons (re_tup (ra_cons re_str (ra_cons (re_var (i := 7)) (ra_cons (re_ix hr.u1 (re_ix hr.u1 (re_var (i := 5)) (re_var (i := 10))) re_int) ra_nil)))) ra_nil))) (rg_sub (W := never) hr.u1 (re_var (i := 4)) (re_var (i := 8))))
    (rss_one (rs_set (i := 5) hN (re_op op_addS (re_sl (re_var (i := 5)) ro_none (ro_some (re_var (i := 10)))) (re_sl (re_var (i := 5)) (ro_some (re_op op_addS (re_var (i := 10)) re_int)) ro_none))))))))))
    (rss_one (rs_ret (re_callTy (call_tupleS (sg := false)) (ra_cons (re_lc rfl hN (ri_tup (re_var (i := 1))) (own := [("hand", 11)]) (blkOk_by (by rfl)) (by decide) ⟨fun _ _ _ _ _ => ⟨(pat_nm (i := 11) hN), pts_nilS, (re_ix hr.u1 (re_var (i := 4)) (re_var (i := 11)))⟩⟩) ra_nil) bt_tuple T.b_tuple)))))
theorem bi__law_chart {fd : FuncData} (F : FunD K "_law_chart" "_law_chart" (defArgs (top 54)) (defBody (top 54)) (defScope (top 54)) [] [] (He.ga K "_law_chart") fd) : Binds K fd ["bag", "hands", "most"] [] := F.bindsN fun _ _ _ _ _ _ us hl => match us, hl with | [_, _, _], _ => rfl
theorem ok__law_chart (T : Tx P K mg) : OkF P w K mg base 4 (He.ga K "_law_chart") f__law_chart := by
  obtain ⟨fd, F⟩ := T.d__law_chart
  exact ⟨fd, _, fn__law_chart T F, F.kp, bi__law_chart F⟩
noncomputable def m__law_mixed : SM := (sSeq (sSet 2 (eLstR aNil))
    (sSeq (sFor (iL (eVar 1)) (.nm 3) (sExpr (eBMT "list" insertA (eVar 2) (aCons (eFn f__law_take (aCons (eVar 0) (aCons (eOp addA (eCall lenA (aCons (eVar 2) aNil)) (eC (.int 1))) aNil))) (aCons (eVar 3) aNil)))))
    (sRet (eVar 2))))
noncomputable def f__law_mixed : Fn := fnM 2 4 m__law_mixed
theorem sc__law_mixed : FnScope ["bag", "things", "found", "thing"] ["bag", "things"] (defScope (top 51)) := ⟨rfl, rfl, rfl, by decide +kernel, rfl, by decide +kernel, by decide +kernel⟩
theorem fn__law_mixed (T : Tx P K mg) {fd : FuncData} (F : FunD K "_law_mixed" "_law_mixed" (defArgs (top 51)) (defBody (top 51)) (defScope (top 51)) [] [] (He.ga K "_law_mixed") fd) : FnOk P w K mg base (L2.CX P w) 2 (He.ga K "_law_mixed") fd ["bag", "things"] (spM K f__law_mixed) := by
  obtain ⟨fd__law_take, ps__law_take, F__law_take, kp__law_take, b__law_take⟩ := (ok__law_take (P := P) (w := w) (base := base) T).ex
  refine fn_ok F sc__law_mixed fun cdv A outer s H E hr tk => ?_
  have hN := sc__law_mixed.nd
  exact (rss_cons (rs_set (i := 2) hN (re_lstR ra_nil))
    (rss_cons (rs_for (passes_of rfl) rfl (ri_list (re_var (i := 1))) (pat_nm (i := 3) hN) (rss_one (rs_expr (re_bm PySem.F.plainAttrs_list PySem.F.slot_list_insert PySem.F.type_list_insert mt_insertS (re_var (i := 2)) (ra_cons (re_call F__law_take (hr.mono (by decide)) T.g__law_take kp__law_take b__law_take tk (ra_cons (re_var (i := 0)) (ra_cons (re_op op_addS (re_callB call_lenS (ra_cons (re_var (i := 2)) ra_nil) bt_len T.b_len) re_int) ra_nil))) (ra_cons (re_var (i := 3)) ra_nil))))))
    (rss_one (rs_ret (re_var (i := 2))))))
theorem bi__law_mixed {fd : FuncData} (F : FunD K "_law_mixed" "_law_mixed" (defArgs (top 51)) (defBody (top 51)) (defScope (top 51)) [] [] (He.ga K "_law_mixed") fd) : Binds K fd ["bag", "things"] [] := F.bindsN fun _ _ _ _ _ _ us hl => match us, hl with | [_, _], _ => rfl
theorem ok__law_mixed (T : Tx P K mg) : OkF P w K mg base 2 (He.ga K "_law_mixed") f__law_mixed := by
  obtain ⟨fd, F⟩ := T.d__law_mixed
  exact ⟨fd, _, fn__law_mixed T F, F.kp, bi__law_mixed F⟩
noncomputable def m__law_loose : SM := (sSeq (sSet 2 (eCall (listA true) (aCons (eFn f__law_chart (aCons (eVar 0) (aCons (eVar 1) (aCons (eC (.int 4)) aNil)))) aNil)))
    (sSeq (sIf (asB (eOp (ordA gtD) (eFn f__law_take (aCons (eVar 0) (aCons (eC (.int 3)) aNil))) (eC (.int 0)))) (sSeq (sSet 3 (eFn f__law_take (aCons (eVar 0) (aCons (eCall lenA (aCons (eVar 1) aNil)) aNil))))
    (sSeq (sSet 4 (eFn f__law_mixed (aCons (eVar 0) (aCons (eLc (iT (eOp ixA (eVar 2) (eVar 3))) (.nm 6) (asB (eOp (eqA false) (eOp ixA (eVar 6) (eC (.int 0))) (eC (.str "take")))) (eVar 6) [6]) aNil))))
    (sSeq (sSet 5 (eLstR aNil))
    (sSeq (sFor (iT (eOp ixA (eVar 2) (eVar 3))) (.nm 6) (sExpr (eBMT "list" appendA (eVar 5) (aCons (eIf (asB (eOp (eqA false) (eOp ixA (eVar 6) (eC (.int 0))) (eC (.str "give")))) (eVar 6) (eBMT "list" popA (eVar 4) aNil)) aNil))))
    (sAsg (gSb (eVar 2) (eVar 3)) (eCall (tupleA false) (aCons (eVar 5) aNil))))))) sPass)
    (sRet (eCall (tupleA false) (aCons (eVar 2) aNil)))))
noncomputable def f__law_loose : Fn := fnM 2 7 m__law_loose
theorem sc__law_loose : FnScope ["bag", "hands", "chart", "h", "takes", "row", "event"] ["bag", "hands"] (defScope (top 61)) := ⟨rfl, rfl, rfl, by decide +kernel, rfl, by decide +kernel, by decide +kernel⟩
theorem fn__law_loose (T : Tx P K mg) {fd : FuncData} (F : FunD K "_law_loose" "_law_loose" (defArgs (top 61)) (defBody (top 61)) (defScope (top 61)) [] [] (He.ga K "_law_loose") fd) : FnOk P w K mg base (L2.CX P w) 5 (He.ga K "_law_loose") fd ["bag", "hands"] (spM K f__law_loose) := by
  obtain ⟨fd__law_chart, ps__law_chart, F__law_chart, kp__law_chart, b__law_chart⟩ := (ok__law_chart (P := P) (w := w) (base := base) T).ex
  obtain ⟨fd__law_mixed, ps__law_mixed, F__law_mixed, kp__law_mixed, b__law_mixed⟩ := (ok__law_mixed (P := P) (w := w) (base := base) T).ex
  obtain ⟨fd__law_take, ps__law_take, F__law_take, kp__law_take, b__law_take⟩ := (ok__law_take (P := P) (w := w) (base := base) T).ex
  refine fn_ok F sc__law_loose fun cdv A outer s H E hr tk => ?_
  have hN := sc__law_loose.nd
  exact (rss_cons (rs_set (i := 2) hN (re_callTy (call_listS (alloc := true)) (ra_cons (re_call F__law_chart (hr.mono (by decide)) T.g__law_chart kp__law_chart b__law_chart tk (ra_cons (re_var (i := 0)) (ra_cons (re_var (i := 1)) (ra_cons re_int ra_nil)))) ra_nil) bt_list T.b_list))
    (rss_cons (rs_if (rt_cmp (op_gtS hr.units) (re_call F__law_take (hr.mono (by decide)) T.g__law_take kp__law_take b__law_take tk (ra_cons (re_var (i := 0)) (ra_cons re_int ra_nil))) re_int rfl) (rss_cons (rs_set (i := 3) hN (re_call F__law_take (hr.mono (by decide)) T.g__law_take kp__law_take b__law_take tk (ra_cons (re_var (i := 0)) (ra_cons (re_callB call_lenS (ra_cons (re_var (i := 1)) ra_nil) bt_len T.b_len) ra_nil))))
    (rss_cons (rs_set (i := 4) hN (re_call F__law_mixed (hr.mono (by decide)) T.g__law_mixed kp__law_mixed b__law_mixed tk (ra_cons (re_var (i := 0)) (ra_cons (re_lc rfl hN (ri_tup (re_ix hr.u1 (re_var (i := 2)) (re_var (i := 3)))) (own := [("event", 6)]) (blkOk_by (by rfl)) (by decide) ⟨fun _ _ _ _ _ => ⟨(pat_nm (i := 6) hN), (pts_oneS (rt_cmp (op_eqS hr.units) (re_ix hr.u1 (re_var (i := 6)) re_int) re_str rfl)), (re_var (i := 6))⟩⟩) ra_nil))))
    (rss_cons (rs_set (i := 5) hN (re_lstR ra_nil))
    (rss_cons (rs_for (passes_of rfl) rfl (ri_tup (re_ix hr.u1 (re_var (i := 2)) (re_var (i := 3)))) (pat_nm (i := 6) hN) (rss_one (rs_expr (re_bm PySem.F.plainAttrs_list PySem.F.slot_list_append PySem.F.type_list_append mt_appendS (re_var (i := 5)) (ra_cons (re_if (rt_cmp (op_eqS hr.units) (re_ix hr.u1 (re_var (i := 6)) re_int) re_str rfl) (re_var (i := 6)) (re_bm0 PySem.F.plainAttrs_list PySem.F.slot_list_pop PySem.F.type_list_pop mt_popS (re_var (i := 4)))) ra_nil)))))
    (rss_one (rs_asg (re_callTy (call_tupleS (sg := false)) (ra_cons (re_var (i := 5)) ra_nil) bt_tuple T.b_tuple) (rg_sub (W := never) hr.u1 (re_var (i := 2)) (re_var (i := 3))))))))) rss_nil)
    (rss_one (rs_ret (re_callTy (call_tupleS (sg := false)) (ra_cons (re_var (i := 2)) ra_nil) bt_tuple T.b_tuple)))))
theorem bi__law_loose {fd : FuncData} (F : FunD K "_law_loose" "_law_loose" (defArgs (top 61)) (defBody (top 61)) (defScope (top 61)) [] [] (He.ga K "_law_loose") fd) : Binds K fd ["bag", "hands"] [] := F.bindsN fun _ _ _ _ _ _ us hl => match us, hl with | [_, _], _ => rfl
theorem ok__law_loose (T : Tx P K mg) : OkF P w K mg base 5 (He.ga K "_law_loose") f__law_loose := by
  obtain ⟨fd, F⟩ := T.d__law_loose
  exact ⟨fd, _, fn__law_loose T F, F.kp, bi__law_loose F⟩
noncomputable def m__law_queue : SM := (sSeq (sSet 5 (eLc (iT (eOp ixA (eVar 2) (eVar 3))) (.tp [9, 10, 7]) (mAnd (asB (eOp (eqA false) (eVar 9) (eC (.str "give")))) (asB (eOp (eqA false) (eVar 10) (eOp ixA (eVar 0) (eVar 4))))) (eVar 7) [9, 10, 7]))
    (sSeq (sSet 6 (eLc (iT (eOp ixA (eVar 2) (eVar 4))) (.tp [9, 10, 7]) (mAnd (asB (eOp (eqA false) (eVar 9) (eC (.str "take")))) (asB (eOp (eqA false) (eVar 10) (eOp ixA (eVar 0) (eVar 3))))) (eVar 7) [9, 10, 7]))
    (sSeq (sIf (asB (eOp (eqA false) (eVar 1) (eC (.str "order")))) (sRet (eIf (asB (eOp (eqA false) (eSl (eVar 5) oNone (oSome (eCall lenA (aCons (eVar 6) aNil)))) (eVar 6))) (eCall (tupleA false) (aCons (eSl (eVar 5) (oSome (eCall lenA (aCons (eVar 6) aNil))) oNone) aNil)) (eC .non))) sPass)
    (sSeq (sFor (iL (eVar 6)) (.nm 7) (sSeq (sIf (asB (eOp (inA true) (eVar 7) (eVar 5))) (sRet (eC .non)) sPass)
    (sSeq (sSet 8 (eBMT "list" (fun a as s => (lstA a s).bind fun _ => indexA a as s) (eVar 5) (aCons (eVar 7) aNil)))
    (sSet 5 (eOp addA (eSl (eVar 5) oNone (oSome (eVar 8))) (eSl (eVar 5) (oSome (eOp addA (eVar 8) (eC (.int 1)))) oNone))))))
    (sRet (eCall (tupleA false) (aCons (eVar 5) aNil)))))))
noncomputable def f__law_queue : Fn := fnM 5 11 m__law_queue
theorem sc__law_queue : FnScope ["hands", "manner", "begins", "h", "g", "given", "taken", "letter", "at", "word", "other"] ["hands", "manner", "begins", "h", "g"] (defScope (top 55)) := ⟨rfl, rfl, rfl, by decide +kernel, rfl, by decide +kernel, by decide +kernel⟩
theorem fn__law_queue (T : Tx P K mg) {fd : FuncData} (F : FunD K "_law_queue" "_law_queue" (defArgs (top 55)) (defBody (top 55)) (defScope (top 55)) [] [] (He.ga K "_law_queue") fd) : FnOk P w K mg base (L2.CX P w) 1 (He.ga K "_law_queue") fd ["hands", "manner", "begins", "h", "g"] (spM K f__law_queue) := by
  refine fn_ok F sc__law_queue fun cdv A outer s H E hr tk => ?_
  have hN := sc__law_queue.nd
  exact (rss_cons (rs_setLc (i := 5) rfl hN (ri_tup (re_ix hr.u1 (re_var (i := 2)) (re_var (i := 3)))) (own := [("word", 9), ("other", 10), ("letter", 7)]) (blkOk_by (by rfl)) (by decide) ⟨fun _ _ _ _ _ => ⟨(pat_tp (is := [9, 10, 7]) rfl (pats_cons (i := 9) hN (pats_cons (i := 10) hN (pats_cons (i := 7) hN pats_nil)))), (pts_oneS (rt_bool (rw_and (rt_cmp (op_eqS hr.units) (re_var (i := 9)) re_str rfl) (rw_and1 (rt_cmp (op_eqS hr.units) (re_var (i := 10)) (re_ix hr.u1 (re_var (i := 0)) (re_var (i := 4))) rfl))))), (re_var (i := 7))⟩⟩ rfl)
    (rss_cons (rs_setLc (i := 6) rfl hN (ri_tup (re_ix hr.u1 (re_var (i := 2)) (re_var (i := 4)))) (own := [("word", 9), ("other", 10), ("letter", 7)]) (blkOk_by (by rfl)) (by decide) ⟨fun _ _ _ _ _ => ⟨(pat_tp (is := [9, 10, 7]) rfl (pats_cons (i := 9) hN (pats_cons (i := 10) hN (pats_cons (i := 7) hN pats_nil)))), (pts_oneS (rt_bool (rw_and (rt_cmp (op_eqS hr.units) (re_var (i := 9)) re_str rfl) (rw_and1 (rt_cmp (op_eqS hr.units) (re_var (i := 10)) (re_ix hr.u1 (re_var (i := 0)) (re_var (i := 3))) rfl))))), (re_var (i := 7))⟩⟩ rfl)
    (rss_cons (rs_if (rt_cmp (op_eqS hr.units) (re_var (i := 1)) re_str rfl) (rss_one (rs_ret (re_if (rt_cmp (op_eqS hr.units) (re_sl (re_var (i := 5)) ro_none (ro_some (re_callB call_lenS (ra_cons (re_var (i := 6)) ra_nil) bt_len T.b_len))) (re_var (i := 6)) rfl) (re_callTy (call_tupleS (sg := false)) (ra_cons (re_sl (re_var (i := 5)) (ro_some (re_callB call_lenS (ra_cons (re_var (i := 6)) ra_nil) bt_len T.b_len)) ro_none) ra_nil) bt_tuple T.b_tuple) re_non))) rss_nil)
    (rss_cons (rs_for (passes_of rfl) rfl (ri_list (re_var (i := 6))) (pat_nm (i := 7) hN) (rss_cons (rs_if (rt_cmp (op_notInS hr.u66) (re_var (i := 7)) (re_var (i := 5)) rfl) (rss_one (rs_ret re_non)) rss_nil)
    (rss_cons (rs_set (i := 8) hN (re_bm PySem.F.plainAttrs_list PySem.F.slot_list_index PySem.F.type_list_index mt_lindexS (re_var (i := 5)) (ra_cons (re_var (i := 7)) ra_nil)))
    (rss_one (rs_set (i := 5) hN (re_op op_addS (re_sl (re_var (i := 5)) ro_none (ro_some (re_var (i := 8)))) (re_sl (re_var (i := 5)) (ro_some (re_op op_addS (re_var (i := 8)) re_int)) ro_none)))))))
    (rss_one (rs_ret (re_callTy (call_tupleS (sg := false)) (ra_cons (re_var (i := 5)) ra_nil) bt_tuple T.b_tuple)))))))
theorem bi__law_queue {fd : FuncData} (F : FunD K "_law_queue" "_law_queue" (defArgs (top 55)) (defBody (top 55)) (defScope (top 55)) [] [] (He.ga K "_law_queue") fd) : Binds K fd ["hands", "manner", "begins", "h", "g"] [] := F.bindsN fun _ _ _ _ _ _ us hl => match us, hl with | [_, _, _, _, _], _ => rfl
theorem ok__law_queue (T : Tx P K mg) : OkF P w K mg base 1 (He.ga K "_law_queue") f__law_queue := by
  obtain ⟨fd, F⟩ := T.d__law_queue
  exact ⟨fd, _, fn__law_queue T F, F.kp, bi__law_queue F⟩
noncomputable def m__law_can : SM := (sSeq (sIf (asB (eOp (eqA false) (eOp ixA (eVar 4) (eC (.int 0))) (eC (.str "give")))) (sRet (eC (.bl true))) sPass)
    (sSeq (sSet 5 (eFn f__law_queue (aCons (eVar 0) (aCons (eVar 1) (aCons (eVar 2) (aCons (eTM (fun a as s => if tpsOk a then indexA a as s else none) (eVar 0) (aCons (eOp ixA (eVar 4) (eC (.int 1))) aNil)) (aCons (eVar 3) aNil)))))))
    (sRet (eOp (inA false) (eOp ixA (eVar 4) (eC (.int 2))) (eIf (asB (eOp (eqA false) (eVar 1) (eC (.str "order")))) (eSl (eVar 5) oNone (oSome (eC (.int 1)))) (eVar 5))))))
noncomputable def f__law_can : Fn := fnM 5 6 m__law_can
theorem sc__law_can : FnScope ["hands", "manner", "begins", "h", "event", "letters"] ["hands", "manner", "begins", "h", "event"] (defScope (top 56)) := ⟨rfl, rfl, rfl, by decide +kernel, rfl, by decide +kernel, by decide +kernel⟩
theorem fn__law_can (T : Tx P K mg) {fd : FuncData} (F : FunD K "_law_can" "_law_can" (defArgs (top 56)) (defBody (top 56)) (defScope (top 56)) [] [] (He.ga K "_law_can") fd) : FnOk P w K mg base (L2.CX P w) 2 (He.ga K "_law_can") fd ["hands", "manner", "begins", "h", "event"] (spM K f__law_can) := by
  obtain ⟨fd__law_queue, ps__law_queue, F__law_queue, kp__law_queue, b__law_queue⟩ := (ok__law_queue (P := P) (w := w) (base := base) T).ex
  refine fn_ok F sc__law_can fun cdv A outer s H E hr tk => ?_
  have hN := sc__law_can.nd
  exact (rss_cons (rs_if (rt_cmp (op_eqS hr.units) (re_ix hr.u1 (re_var (i := 4)) re_int) re_str rfl) (rss_one (rs_ret re_bl)) rss_nil)
    (rss_cons (rs_set (i := 5) hN (re_call F__law_queue (hr.mono (by decide)) T.g__law_queue kp__law_queue b__law_queue tk (ra_cons (re_var (i := 0)) (ra_cons (re_var (i := 1)) (ra_cons (re_var (i := 2)) (ra_cons (re_tm PySem.F.slot_tuple_index PySem.F.type_tuple_index mt_tindexS (re_var (i := 0)) (ra_cons (re_ix hr.u1 (re_var (i := 4)) re_int) ra_nil)) (ra_cons (re_var (i := 3)) ra_nil)))))))
    (rss_one (rs_ret (re_cmp (op_inS hr.u66) (re_ix hr.u1 (re_var (i := 4)) re_int) (re_if (rt_cmp (op_eqS hr.units) (re_var (i := 1)) re_str rfl) (re_sl (re_var (i := 5)) ro_none (ro_some re_int)) (re_var (i := 5))) rfl)))))
theorem bi__law_can {fd : FuncData} (F : FunD K "_law_can" "_law_can" (defArgs (top 56)) (defBody (top 56)) (defScope (top 56)) [] [] (He.ga K "_law_can") fd) : Binds K fd ["hands", "manner", "begins", "h", "event"] [] := F.bindsN fun _ _ _ _ _ _ us hl => match us, hl with | [_, _, _, _, _], _ => rfl
theorem ok__law_can (T : Tx P K mg) : OkF P w K mg base 2 (He.ga K "_law_can") f__law_can := by
  obtain ⟨fd, F⟩ := T.d__law_can
  exact ⟨fd, _, fn__law_can T F, F.kp, bi__law_can F⟩
noncomputable def m__law_greedy : SM := (sSeq (sPar2 3 4 (aCons (eOp (mulA true) (eLst (aCons (eC (.int 0)) aNil)) (eCall lenA (aCons (eVar 0) aNil))) (aCons (eLst aNil) aNil)))
    (sSeq (sFor (iRg (eCall sumA (aCons (eLc (iT (eVar 2)) (.nm 8) yesM (eCall lenA (aCons (eVar 8) aNil)) [8]) aNil))) (.nm 5) (sSeq (sSet 6 (eCall (tupleA false) (aCons (eLc (iZip true false (aCons (eVar 2) (aCons (eVar 3) aNil))) (.tp [8, 9]) yesM (eSl (eVar 8) oNone (oSome (eVar 9))) [8, 9]) aNil)))
    (sFor (iRg (eCall lenA (aCons (eVar 0) aNil))) (.nm 7) (sIf (mAnd (asB (eOp (ordA ltD) (eOp ixA (eVar 3) (eVar 7)) (eCall lenA (aCons (eOp ixA (eVar 2) (eVar 7)) aNil)))) (asT (eFn f__law_can (aCons (eVar 0) (aCons (eVar 1) (aCons (eVar 6) (aCons (eVar 7) (aCons (eOp ixA (eOp ixA (eVar 2) (eVar 7)) (eOp ixA (eVar 3) (eVar 7))) aNil)))))))) (sSeq (sAsg (gTp 2 (gsCons (gSb (eVar 3) (eVar 7)) (gsCons (gNm 4) gsNil))) (eTup (aCons (eOp addA (eOp ixA (eVar 3) (eVar 7)) (eC (.int 1))) (aCons (eOp addA (eVar 4) (eLst (aCons (eVar 7) aNil))) aNil))))
    sBreak) sPass))))
    (sRet (eTup (aCons (eCall (tupleA true) (aCons (eVar 4) aNil)) (aCons (eCall (tupleA false) (aCons (eVar 3) aNil)) aNil))))))
noncomputable def f__law_greedy : Fn := fnM 3 10 m__law_greedy
theorem sc__law_greedy : FnScope ["hands", "manner", "rows", "stand", "order", "lap", "begins", "h", "row", "k"] ["hands", "manner", "rows"] (defScope (top 58)) := ⟨rfl, rfl, rfl, by decide +kernel, rfl, by decide +kernel, by decide +kernel⟩
theorem fn__law_greedy (T : Tx P K mg) {fd : FuncData} (F : FunD K "_law_greedy" "_law_greedy" (defArgs (top 58)) (defBody (top 58)) (defScope (top 58)) [] [] (He.ga K "_law_greedy") fd) : FnOk P w K mg base (L2.CX P w) 3 (He.ga K "_law_greedy") fd ["hands", "manner", "rows"] (spM K f__law_greedy) := by
  obtain ⟨fd__law_can, ps__law_can, F__law_can, kp__law_can, b__law_can⟩ := (ok__law_can (P := P) (w := w) (base := base) T).ex
  refine fn_ok F sc__law_greedy fun cdv A outer s H E hr tk => ?_
  have hN := sc__law_greedy.nd
  exact (rss_cons (rs_par (i := 3) (j := 4) rfl hN (ra_cons (re_op (op_mulS (alloc := true)) (re_lst (ra_cons re_int ra_nil)) (re_callB call_lenS (ra_cons (re_var (i := 0)) ra_nil) bt_len T.b_len)) (ra_cons (re_lst ra_nil) ra_nil)))
    (rss_cons (rs_for (passes_of rfl) rfl (ri_range (re_callB (call_sumS rfl) (ra_cons (re_lc rfl hN (ri_tup (re_var (i := 2))) (own := [("row", 8)]) (blkOk_by (by rfl)) (by decide) ⟨fun _ _ _ _ _ => ⟨(pat_nm (i := 8) hN), pts_nilS, (re_callB call_lenS (ra_cons (re_var (i := 8)) ra_nil) bt_len T.b_len)⟩⟩) ra_nil) bt_sum T.b_sum) T.b_range) (pat_nm (i := 5) hN) (rss_cons (rs_set (i := 6) hN (re_callTy (call_tupleS (sg := false)) (ra_cons (re_lc rfl hN (ri_zip (ra_cons (re_var (i := 2)) (ra_cons (re_var (i := 3)) ra_nil)) T.b_zip) (own := [("row", 8), ("k", 9)]) (blkOk_by (by rfl)) (by decide) ⟨fun _ _ _ _ _ => ⟨(pat_tp (is := [8, 9]) rfl (pats_cons (i := 8) hN (pats_cons (i := 9) hN pats_nil))), pts_nilS, (re_sl (re_var (i := 8)) ro_none (ro_some (re_var (i := 9))))⟩⟩) ra_nil) bt_tuple T.b_tuple))
    (rss_one (rs_for (passes_of rfl) rfl (ri_range (re_callB call_lenS (ra_cons (re_var (i := 0)) ra_nil) bt_len T.b_len) T.b_range) (pat_nm (i := 7) hN) (rss_one (rs_if (rt_bool (rw_and (rt_cmp (op_ltS hr.units) (re_ix hr.u1 (re_var (i := 3)) (re_var (i := 7))) (re_callB call_lenS (ra_cons (re_ix hr.u1 (re_var (i := 2)) (re_var (i := 7))) ra_nil) bt_len T.b_len) rfl) (rw_and1 (rt_truth (re_call F__law_can (hr.mono (by decide)) T.g__law_can kp__law_can b__law_can tk (ra_cons (re_var (i := 0)) (ra_cons (re_var (i := 1)) (ra_cons (re_var (i := 6)) (ra_cons (re_var (i := 7)) (ra_cons (re_ix hr.u1 (re_ix hr.u1 (re_var (i := 2)) (re_var (i := 7))) (re_ix hr.u1 (re_var (i := 3)) (re_var (i := 7)))) ra_nil)))))))))) (rss_cons (rs_asg (re_tup (ra_cons (re_op op_addS (re_ix hr.u1 (re_var (i := 3)) (re_var (i := 7))) re_int) (ra_cons (re_op op_addS (re_var (i := 4)) (re_lst (ra_cons (re_var (i := 7)) ra_nil))) ra_nil))) (rg_tup rfl (rgs_cons (rg_sub (W := never) hr.u1 (re_var (i := 3)) (re_var (i := 7))) (rgs_cons (rg_name (i := 4) hN) rgs_nil))))
    (rss_one rs_break)) rss_nil))))))
    (rss_one (rs_ret (re_tup (ra_cons (re_callTy (call_tupleS (sg := true)) (ra_cons (re_var (i := 4)) ra_nil) bt_tuple T.b_tuple) (ra_cons (re_callTy (call_tupleS (sg := false)) (ra_cons (re_var (i := 3)) ra_nil) bt_tuple T.b_tuple) ra_nil)))))))
theorem bi__law_greedy {fd : FuncData} (F : FunD K "_law_greedy" "_law_greedy" (defArgs (top 58)) (defBody (top 58)) (defScope (top 58)) [] [] (He.ga K "_law_greedy") fd) : Binds K fd ["hands", "manner", "rows"] [] := F.bindsN fun _ _ _ _ _ _ us hl => match us, hl with | [_, _, _], _ => rfl
theorem ok__law_greedy (T : Tx P K mg) : OkF P w K mg base 3 (He.ga K "_law_greedy") f__law_greedy := by
  obtain ⟨fd, F⟩ := T.d__law_greedy
  exact ⟨fd, _, fn__law_greedy T F, F.kp, bi__law_greedy F⟩
noncomputable def m__law_lying : SM := (sSeq (sSet 3 (eLstR aNil))
    (sSeq (sFor (iRg (eCall lenA (aCons (eVar 0) aNil))) (.nm 4) (sFor (iRg (eCall lenA (aCons (eVar 0) aNil))) (.nm 5) (sSeq (sSet 6 (eIf (asB (eOp (eqA true) (eVar 4) (eVar 5))) (eFn f__law_queue (aCons (eVar 0) (aCons (eVar 1) (aCons (eVar 2) (aCons (eVar 4) (aCons (eVar 5) aNil)))))) (eTup aNil)))
    (sExpr (eBMT "list" extendA (eVar 3) (aCons (eIf (asB (eOp (eqA true) (eVar 6) (eTup aNil))) (eLst (aCons (eTup (aCons (eOp ixA (eVar 0) (eVar 4)) (aCons (eOp ixA (eVar 0) (eVar 5)) (aCons (eVar 6) aNil)))) aNil)) (eLst aNil)) aNil))))))
    (sRet (eVar 3))))
noncomputable def f__law_lying : Fn := fnM 3 7 m__law_lying
theorem sc__law_lying : FnScope ["hands", "manner", "begins", "found", "h", "g", "letters"] ["hands", "manner", "begins"] (defScope (top 59)) := ⟨rfl, rfl, rfl, by decide +kernel, rfl, by decide +kernel, by decide +kernel⟩
theorem fn__law_lying (T : Tx P K mg) {fd : FuncData} (F : FunD K "_law_lying" "_law_lying" (defArgs (top 59)) (defBody (top 59)) (defScope (top 59)) [] [] (He.ga K "_law_lying") fd) : FnOk P w K mg base (L2.CX P w) 2 (He.ga K "_law_lying") fd ["hands", "manner", "begins"] (spM K f__law_lying) := by
  obtain ⟨fd__law_queue, ps__law_queue, F__law_queue, kp__law_queue, b__law_queue⟩ := (ok__law_queue (P := P) (w := w) (base := base) T).ex
  refine fn_ok F sc__law_lying fun cdv A outer s H E hr tk => ?_
  have hN := sc__law_lying.nd
  exact (rss_cons (rs_set (i := 3) hN (re_lstR ra_nil))
    (rss_cons (rs_for (passes_of rfl) rfl (ri_range (re_callB call_lenS (ra_cons (re_var (i := 0)) ra_nil) bt_len T.b_len) T.b_range) (pat_nm (i := 4) hN) (rss_one (rs_for (passes_of rfl) rfl (ri_range (re_callB call_lenS (ra_cons (re_var (i := 0)) ra_nil) bt_len T.b_len) T.b_range) (pat_nm (i := 5) hN) (rss_cons (rs_set (i := 6) hN (re_if (rt_cmp (op_neS hr.units) (re_var (i := 4)) (re_var (i := 5)) rfl) (re_call F__law_queue (hr.mono (by decide)) T.g__law_queue kp__law_queue b__law_queue tk (ra_cons (re_var (i := 0)) (ra_cons (re_var (i := 1)) (ra_cons (re_var (i := 2)) (ra_cons (re_var (i := 4)) (ra_cons (re_var (i := 5)) ra_nil)))))) (re_tup ra_nil)))
    (rss_one (rs_expr (re_bm PySem.F.plainAttrs_list PySem.F.slot_list_extend PySem.F.type_list_extend mt_extendS (re_var (i := 3)) (ra_cons (re_if (rt_cmp (op_neS hr.units) (re_var (i := 6)) (re_tup ra_nil) rfl) (re_lst (ra_cons (re_tup (ra_cons (re_ix hr.u1 (re_var (i := 0)) (re_var (i := 4))) (ra_cons (re_ix hr.u1 (re_var (i := 0)) (re_var (i := 5))) (ra_cons (re_var (i := 6)) ra_nil)))) ra_nil)) (re_lst ra_nil)) ra_nil))))))))
    (rss_one (rs_ret (re_var (i := 3))))))
theorem bi__law_lying {fd : FuncData} (F : FunD K "_law_lying" "_law_lying" (defArgs (top 59)) (defBody (top 59)) (defScope (top 59)) [] [] (He.ga K "_law_lying") fd) : Binds K fd ["hands", "manner", "begins"] [] := F.bindsN fun _ _ _ _ _ _ us hl => match us, hl with | [_, _, _], _ => rfl
theorem ok__law_lying (T : Tx P K mg) : OkF P w K mg base 2 (He.ga K "_law_lying") f__law_lying := by
  obtain ⟨fd, F⟩ := T.d__law_lying
  exact ⟨fd, _, fn__law_lying T F, F.kp, bi__law_lying F⟩
noncomputable def m__law_is_chart : SM := (sSeq (sAsg (gTp 2 (gsCons (gNm 3) (gsCons (gNm 4) gsNil))) (eFn f__law_greedy (aCons (eVar 0) (aCons (eVar 1) (aCons (eVar 2) aNil)))))
    (sRet (eAndB (eOp (eqA false) (eVar 4) (eCall (tupleA false) (aCons (eLc (iT (eVar 2)) (.nm 5) yesM (eCall lenA (aCons (eVar 5) aNil)) [5]) aNil))) (eOp (eqA false) (eFn f__law_lying (aCons (eVar 0) (aCons (eVar 1) (aCons (eVar 2) aNil)))) (eLst aNil)))))
noncomputable def f__law_is_chart : Fn := fnM 3 6 m__law_is_chart
theorem sc__law_is_chart : FnScope ["hands", "manner", "rows", "order", "stand", "row"] ["hands", "manner", "rows"] (defScope (top 60)) := ⟨rfl, rfl, rfl, by decide +kernel, rfl, by decide +kernel, by decide +kernel⟩
theorem fn__law_is_chart (T : Tx P K mg) {fd : FuncData} (F : FunD K "_law_is_chart" "_law_is_chart" (defArgs (top 60)) (defBody (top 60)) (defScope (top 60)) [] [] (He.ga K "_law_is_chart") fd) : FnOk P w K mg base (L2.CX P w) 4 (He.ga K "_law_is_chart") fd ["hands", "manner", "rows"] (spM K f__law_is_chart) := by
  obtain ⟨fd__law_greedy, ps__law_greedy, F__law_greedy, kp__law_greedy, b__law_greedy⟩ := (ok__law_greedy (P := P) (w := w) (base := base) T).ex
  obtain ⟨fd__law_lying, ps__law_lying, F__law_lying, kp__law_lying, b__law_lying⟩ := (ok__law_lying (P := P) (w := w) (base := base) T).ex
  refine fn_ok F sc__law_is_chart fun cdv A outer s H E hr tk => ?_
  have hN := sc__law_is_chart.nd
  exact (rss_cons (rs_asg (re_call F__law_greedy (hr.mono (by decide)) T.g__law_greedy kp__law_greedy b__law_greedy tk (ra_cons (re_var (i := 0)) (ra_cons (re_var (i := 1)) (ra_cons (re_var (i := 2)) ra_nil)))) (rg_tup rfl (rgs_cons (rg_name (i := 3) hN) (rgs_cons (rg_name (i := 4) hN) rgs_nil))))
    (rss_one (rs_ret (re_and (re_cmp (op_eqS hr.units) (re_var (i := 4)) (re_callTy (call_tupleS (sg := false)) (ra_cons (re_lc rfl hN (ri_tup (re_var (i := 2))) (own := [("row", 5)]) (blkOk_by (by rfl)) (by decide) ⟨fun _ _ _ _ _ => ⟨(pat_nm (i := 5) hN), pts_nilS, (re_callB call_lenS (ra_cons (re_var (i := 5)) ra_nil) bt_len T.b_len)⟩⟩) ra_nil) bt_tuple T.b_tuple) rfl) (re_one (re_cmp (op_eqS hr.units) (re_call F__law_lying (hr.mono (by decide)) T.g__law_lying kp__law_lying b__law_lying tk (ra_cons (re_var (i := 0)) (ra_cons (re_var (i := 1)) (ra_cons (re_var (i := 2)) ra_nil)))) (re_lst ra_nil) rfl))))))
theorem bi__law_is_chart {fd : FuncData} (F : FunD K "_law_is_chart" "_law_is_chart" (defArgs (top 60)) (defBody (top 60)) (defScope (top 60)) [] [] (He.ga K "_law_is_chart") fd) : Binds K fd ["hands", "manner", "rows"] [] := F.bindsN fun _ _ _ _ _ _ us hl => match us, hl with | [_, _, _], _ => rfl
theorem ok__law_is_chart (T : Tx P K mg) : OkF P w K mg base 4 (He.ga K "_law_is_chart") f__law_is_chart := by
  obtain ⟨fd, F⟩ := T.d__law_is_chart
  exact ⟨fd, _, fn__law_is_chart T F, F.kp, bi__law_is_chart F⟩
noncomputable def m_is_name : SM := (sSeq (sIf (mOr (mNot (asT (eIsi .str (eVar 0)))) (mNot (asB (eCh (ordA leD) (ordA leD) (eC (.int 1)) (eCall lenA (aCons (eVar 0) aNil)) (eC (.int 8)))))) (sRet (eC (.bl false))) sPass)
    (sSeq (sIf (mOr (asB (eOp (inA true) (eOp ixA (eVar 0) (eC (.int 0))) (eC (.str "abcdefghijklmnopqrstuvwxyz")))) (asB (eInG false ["any", "as", "board", "chart", "ends", "from", "give", "hand", "in", "lot", "node", "of", "order", "take", "to", "with"] (eVar 0)))) (sRet (eC (.bl false))) sPass)
    (sRet (eCall allA (aCons (eLc (iS (eVar 0)) (.nm 1) yesM (eOp (inA false) (eVar 1) (eOp addA (eC (.str "abcdefghijklmnopqrstuvwxyz")) (eC (.str "0123456789")))) [1]) aNil)))))
noncomputable def f_is_name : Fn := fnM 1 2 m_is_name
theorem sc_is_name : FnScope ["thing", "sign"] ["thing"] (defScope (top 14)) := ⟨rfl, rfl, rfl, by decide +kernel, rfl, by decide +kernel, by decide +kernel⟩
theorem fn_is_name (T : Tx P K mg) {fd : FuncData} (F : FunD K "is_name" "is_name" (defArgs (top 14)) (defBody (top 14)) (defScope (top 14)) [] [] (He.ga K "is_name") fd) : FnOk P w K mg base (L2.CX P w) 1 (He.ga K "is_name") fd ["thing"] (spM K f_is_name) := by
  refine fn_ok F sc_is_name fun cdv A outer s H E hr tk => ?_
  have hN := sc_is_name.nd
  exact (rss_cons (rs_if (rt_bool (rw_or (rt_not (rt_truth (re_isi (T := .str) (re_var (i := 0)) T.b_isinstance T.b_str))) (rw_or1 (rt_not (rt_chain (op_leS hr.units) (op_leS hr.units) re_int (re_callB call_lenS (ra_cons (re_var (i := 0)) ra_nil) bt_len T.b_len) (re_gint T.i_MOST_LETTERS)))))) (rss_one (rs_ret re_bl)) rss_nil)
    (rss_cons (rs_if (rt_bool (rw_or (rt_cmp (op_notInS hr.u66) (re_ix hr.u1 (re_var (i := 0)) re_int) (re_gstr T.s_LETTERS) rfl) (rw_or1 (rt_inG T.g_RESERVED T.t_RESERVED (re_var (i := 0)))))) (rss_one (rs_ret re_bl)) rss_nil)
    (rss_one (rs_ret (re_callB (call_allS rfl) (ra_cons (re_lc rfl hN (ri_str (re_var (i := 0))) (own := [("sign", 1)]) (blkOk_by (by rfl)) (by decide) ⟨fun _ _ _ _ _ => ⟨(pat_nm (i := 1) hN), pts_nilS, (re_cmp (op_inS hr.u66) (re_var (i := 1)) (re_op op_addS (re_gstr T.s_LETTERS) (re_gstr T.s_DIGITS)) rfl)⟩⟩) ra_nil) bt_all T.b_all)))))
theorem bi_is_name {fd : FuncData} (F : FunD K "is_name" "is_name" (defArgs (top 14)) (defBody (top 14)) (defScope (top 14)) [] [] (He.ga K "is_name") fd) : Binds K fd ["thing"] [] := F.bindsN fun _ _ _ _ _ _ us hl => match us, hl with | [_], _ => rfl
theorem ok_is_name (T : Tx P K mg) : OkF P w K mg base 1 (He.ga K "is_name") f_is_name := by
  obtain ⟨fd, F⟩ := T.d_is_name
  exact ⟨fd, _, fn_is_name T F, F.kp, bi_is_name F⟩
noncomputable def m_is_tuple_of_of_is_name : SM := (sRet (eAndB (eIsi .tup (eVar 0)) (eCall allA (aCons (eLc (iT (eVar 0)) (.nm 2) yesM (eCallA 1 [("is_name", f_is_name)] (aCons (eVar 2) aNil)) [2]) aNil))))
noncomputable def f_is_tuple_of_of_is_name : Fn := fnM 2 3 m_is_tuple_of_of_is_name
theorem sc_is_tuple_of_of_is_name : FnScope ["thing", "is_one", "one"] ["thing", "is_one"] (defScope (top 16)) := ⟨rfl, rfl, rfl, by decide +kernel, rfl, by decide +kernel, by decide +kernel⟩
theorem fn_is_tuple_of_of_is_name (T : Tx P K mg) {fd : FuncData} (F : FunD K "is_tuple_of" "is_tuple_of" (defArgs (top 16)) (defBody (top 16)) (defScope (top 16)) [] [] (He.ga K "is_tuple_of") fd) : FnOk P w K mg base (L2.CX P w) 2 (He.ga K "is_tuple_of") fd ["thing", "is_one"] (spM K f_is_tuple_of_of_is_name) := by
  have H_is_name := ok_is_name (P := P) (w := w) (base := base) T
  obtain ⟨fd_is_name, ps_is_name, F_is_name, kp_is_name, b_is_name⟩ := (ok_is_name (P := P) (w := w) (base := base) T).ex
  refine fn_ok F sc_is_tuple_of_of_is_name fun cdv A outer s H E hr tk => ?_
  have hN := sc_is_tuple_of_of_is_name.nd
  exact (rss_one (rs_ret (re_and (re_isi (T := .tup) (re_var (i := 0)) T.b_isinstance T.b_tuple) (re_one (re_callB (call_allS rfl) (ra_cons (re_lc rfl hN (ri_tup (re_var (i := 0))) (own := [("one", 2)]) (blkOk_by (by rfl)) (by decide) ⟨fun _ _ _ _ _ => ⟨(pat_nm (i := 2) hN), pts_nilS, (re_callA (k := 1) (i := 1) (T := [("is_name", f_is_name)]) (held1 H_is_name) (hr.mono (by decide)) (ra_cons (re_var (i := 2)) ra_nil))⟩⟩) ra_nil) bt_all T.b_all)))))
theorem bi_is_tuple_of_of_is_name {fd : FuncData} (F : FunD K "is_tuple_of" "is_tuple_of" (defArgs (top 16)) (defBody (top 16)) (defScope (top 16)) [] [] (He.ga K "is_tuple_of") fd) : Binds K fd ["thing", "is_one"] [] := F.bindsN fun _ _ _ _ _ _ us hl => match us, hl with | [_, _], _ => rfl
theorem ok_is_tuple_of_of_is_name (T : Tx P K mg) : OkF P w K mg base 2 (He.ga K "is_tuple_of") f_is_tuple_of_of_is_name := by
  obtain ⟨fd, F⟩ := T.d_is_tuple_of
  exact ⟨fd, _, fn_is_tuple_of_of_is_name T F, F.kp, bi_is_tuple_of_of_is_name F⟩
noncomputable def m_is_hands : SM := (sSeq (sIf (mOr (mNot (asT (eFn f_is_tuple_of_of_is_name (aCons (eVar 0) (aCons (eC (.fn "is_name")) aNil))))) (mNot (asB (eCh (ordA leD) (ordA leD) (eC (.int 2)) (eCall lenA (aCons (eVar 0) aNil)) (eC (.int 5)))))) (sRet (eC (.bl false))) sPass)
    (sRet (eCall allA (aCons (eLc (iZip true true (aCons (eVar 0) (aCons (eSl (eVar 0) (oSome (eC (.int 1))) oNone) aNil))) (.tp [1, 2]) yesM (eOp (ordA ltD) (eVar 1) (eVar 2)) [1, 2]) aNil))))
noncomputable def f_is_hands : Fn := fnM 1 3 m_is_hands
theorem sc_is_hands : FnScope ["thing", "one", "other"] ["thing"] (defScope (top 17)) := ⟨rfl, rfl, rfl, by decide +kernel, rfl, by decide +kernel, by decide +kernel⟩
theorem fn_is_hands (T : Tx P K mg) {fd : FuncData} (F : FunD K "is_hands" "is_hands" (defArgs (top 17)) (defBody (top 17)) (defScope (top 17)) [] [] (He.ga K "is_hands") fd) : FnOk P w K mg base (L2.CX P w) 3 (He.ga K "is_hands") fd ["thing"] (spM K f_is_hands) := by
  obtain ⟨fd_is_tuple_of_of_is_name, ps_is_tuple_of_of_is_name, F_is_tuple_of_of_is_name, kp_is_tuple_of_of_is_name, b_is_tuple_of_of_is_name⟩ := (ok_is_tuple_of_of_is_name (P := P) (w := w) (base := base) T).ex
  refine fn_ok F sc_is_hands fun cdv A outer s H E hr tk => ?_
  have hN := sc_is_hands.nd
  exact (rss_cons (rs_if (rt_bool (rw_or (rt_not (rt_truth (re_call F_is_tuple_of_of_is_name (hr.mono (by decide)) T.g_is_tuple_of kp_is_tuple_of_of_is_name b_is_tuple_of_of_is_name tk (ra_cons (re_var (i := 0)) (ra_cons (re_fn T.g_is_name) ra_nil))))) (rw_or1 (rt_not (rt_chain (op_leS hr.units) (op_leS hr.units) (re_gint T.i_LEAST_HANDS) (re_callB call_lenS (ra_cons (re_var (i := 0)) ra_nil) bt_len T.b_len) (re_gint T.i_MOST_HANDS)))))) (rss_one (rs_ret re_bl)) rss_nil)
    (rss_one (rs_ret (re_callB (call_allS rfl) (ra_cons (re_lc rfl hN (ri_zip (ra_cons (re_var (i := 0)) (ra_cons (re_sl (re_var (i := 0)) (ro_some re_int) ro_none) ra_nil)) T.b_zip) (own := [("one", 1), ("other", 2)]) (blkOk_by (by rfl)) (by decide) ⟨fun _ _ _ _ _ => ⟨(pat_tp (is := [1, 2]) rfl (pats_cons (i := 1) hN (pats_cons (i := 2) hN pats_nil))), pts_nilS, (re_cmp (op_ltS hr.units) (re_var (i := 1)) (re_var (i := 2)) rfl)⟩⟩) ra_nil) bt_all T.b_all))))
theorem bi_is_hands {fd : FuncData} (F : FunD K "is_hands" "is_hands" (defArgs (top 17)) (defBody (top 17)) (defScope (top 17)) [] [] (He.ga K "is_hands") fd) : Binds K fd ["thing"] [] := F.bindsN fun _ _ _ _ _ _ us hl => match us, hl with | [_], _ => rfl
theorem ok_is_hands (T : Tx P K mg) : OkF P w K mg base 3 (He.ga K "is_hands") f_is_hands := by
  obtain ⟨fd, F⟩ := T.d_is_hands
  exact ⟨fd, _, fn_is_hands T F, F.kp, bi_is_hands F⟩
noncomputable def m_check_hands : SM := (sIf (mNot (asT (eFn f_is_hands (aCons (eVar 0) aNil)))) sNever sPass)
noncomputable def f_check_hands : Fn := fnM 1 1 m_check_hands
theorem sc_check_hands : FnScope ["hands"] ["hands"] (defScope (top 25)) := ⟨rfl, rfl, rfl, by decide +kernel, rfl, by decide +kernel, by decide +kernel⟩
theorem fn_check_hands (T : Tx P K mg) {fd : FuncData} (F : FunD K "check_hands" "check_hands" (defArgs (top 25)) (defBody (top 25)) (defScope (top 25)) [] [] (He.ga K "check_hands") fd) : FnOk P w K mg base (L2.CX P w) 4 (He.ga K "check_hands") fd ["hands"] (spM K f_check_hands) := by
  obtain ⟨fd_is_hands, ps_is_hands, F_is_hands, kp_is_hands, b_is_hands⟩ := (ok_is_hands (P := P) (w := w) (base := base) T).ex
  refine fn_ok F sc_check_hands fun cdv A outer s H E hr tk => ?_
  have hN := sc_check_hands.nd
  exact (rss_one (rs_if (rt_not (rt_truth (re_call F_is_hands (hr.mono (by decide)) T.g_is_hands kp_is_hands b_is_hands tk (ra_cons (re_var (i := 0)) ra_nil)))) (rss_one rs_never) rss_nil))
theorem bi_check_hands {fd : FuncData} (F : FunD K "check_hands" "check_hands" (defArgs (top 25)) (defBody (top 25)) (defScope (top 25)) [] [] (He.ga K "check_hands") fd) : Binds K fd ["hands"] [] := F.bindsN fun _ _ _ _ _ _ us hl => match us, hl with | [_], _ => rfl
theorem ok_check_hands (T : Tx P K mg) : OkF P w K mg base 4 (He.ga K "check_hands") f_check_hands := by
  obtain ⟨fd, F⟩ := T.d_check_hands
  exact ⟨fd, _, fn_check_hands T F, F.kp, bi_check_hands F⟩
noncomputable def m_check_manner : SM := (sSeq (sExpr (eFn f_check_hands (aCons (eVar 0) aNil)))
    (sIf (mOr (mNot (asT (eIsi .str (eVar 1)))) (asB (eInG true ["order", "any"] (eVar 1)))) sNever sPass))
noncomputable def f_check_manner : Fn := fnM 2 2 m_check_manner
theorem sc_check_manner : FnScope ["hands", "manner"] ["hands", "manner"] (defScope (top 26)) := ⟨rfl, rfl, rfl, by decide +kernel, rfl, by decide +kernel, by decide +kernel⟩
theorem fn_check_manner (T : Tx P K mg) {fd : FuncData} (F : FunD K "check_manner" "check_manner" (defArgs (top 26)) (defBody (top 26)) (defScope (top 26)) [] [] (He.ga K "check_manner") fd) : FnOk P w K mg base (L2.CX P w) 5 (He.ga K "check_manner") fd ["hands", "manner"] (spM K f_check_manner) := by
  obtain ⟨fd_check_hands, ps_check_hands, F_check_hands, kp_check_hands, b_check_hands⟩ := (ok_check_hands (P := P) (w := w) (base := base) T).ex
  refine fn_ok F sc_check_manner fun cdv A outer s H E hr tk => ?_
  have hN := sc_check_manner.nd
  exact (rss_cons (rs_expr (re_call F_check_hands (hr.mono (by decide)) T.g_check_hands kp_check_hands b_check_hands tk (ra_cons (re_var (i := 0)) ra_nil)))
    (rss_one (rs_if (rt_bool (rw_or (rt_not (rt_truth (re_isi (T := .str) (re_var (i := 1)) T.b_isinstance T.b_str))) (rw_or1 (rt_notInG T.g_MANNERS T.t_MANNERS (re_var (i := 1)))))) (rss_one rs_never) rss_nil)))
theorem bi_check_manner {fd : FuncData} (F : FunD K "check_manner" "check_manner" (defArgs (top 26)) (defBody (top 26)) (defScope (top 26)) [] [] (He.ga K "check_manner") fd) : Binds K fd ["hands", "manner"] [] := F.bindsN fun _ _ _ _ _ _ us hl => match us, hl with | [_, _], _ => rfl
theorem ok_check_manner (T : Tx P K mg) : OkF P w K mg base 5 (He.ga K "check_manner") f_check_manner := by
  obtain ⟨fd, F⟩ := T.d_check_manner
  exact ⟨fd, _, fn_check_manner T F, F.kp, bi_check_manner F⟩
noncomputable def m_is_sized : SM := (sRet (eAndB (eIsi .tup (eVar 0)) (eOp (eqA false) (eCall lenA (aCons (eVar 0) aNil)) (eVar 1))))
noncomputable def f_is_sized : Fn := fnM 2 2 m_is_sized
theorem sc_is_sized : FnScope ["thing", "many"] ["thing", "many"] (defScope (top 15)) := ⟨rfl, rfl, rfl, by decide +kernel, rfl, by decide +kernel, by decide +kernel⟩
theorem fn_is_sized (T : Tx P K mg) {fd : FuncData} (F : FunD K "is_sized" "is_sized" (defArgs (top 15)) (defBody (top 15)) (defScope (top 15)) [] [] (He.ga K "is_sized") fd) : FnOk P w K mg base (L2.CX P w) 1 (He.ga K "is_sized") fd ["thing", "many"] (spM K f_is_sized) := by
  refine fn_ok F sc_is_sized fun cdv A outer s H E hr tk => ?_
  have hN := sc_is_sized.nd
  exact (rss_one (rs_ret (re_and (re_isi (T := .tup) (re_var (i := 0)) T.b_isinstance T.b_tuple) (re_one (re_cmp (op_eqS hr.units) (re_callB call_lenS (ra_cons (re_var (i := 0)) ra_nil) bt_len T.b_len) (re_var (i := 1)) rfl)))))
theorem bi_is_sized {fd : FuncData} (F : FunD K "is_sized" "is_sized" (defArgs (top 15)) (defBody (top 15)) (defScope (top 15)) [] [] (He.ga K "is_sized") fd) : Binds K fd ["thing", "many"] [] := F.bindsN fun _ _ _ _ _ _ us hl => match us, hl with | [_, _], _ => rfl
theorem ok_is_sized (T : Tx P K mg) : OkF P w K mg base 1 (He.ga K "is_sized") f_is_sized := by
  obtain ⟨fd, F⟩ := T.d_is_sized
  exact ⟨fd, _, fn_is_sized T F, F.kp, bi_is_sized F⟩
noncomputable def m_is_event : SM := (sSeq (sIf (mOr (mNot (asT (eFn f_is_sized (aCons (eVar 0) (aCons (eC (.int 3)) aNil))))) (mOr (mNot (asT (eIsi .str (eOp ixA (eVar 0) (eC (.int 0)))))) (asB (eOp (inA true) (eOp ixA (eVar 0) (eC (.int 0))) (eTup (aCons (eC (.str "give")) (aCons (eC (.str "take")) aNil))))))) (sRet (eC (.bl false))) sPass)
    (sRet (eAndB (eFn f_is_name (aCons (eOp ixA (eVar 0) (eC (.int 1))) aNil)) (eFn f_is_name (aCons (eOp ixA (eVar 0) (eC (.int 2))) aNil)))))
noncomputable def f_is_event : Fn := fnM 1 1 m_is_event
theorem sc_is_event : FnScope ["thing"] ["thing"] (defScope (top 18)) := ⟨rfl, rfl, rfl, by decide +kernel, rfl, by decide +kernel, by decide +kernel⟩
theorem fn_is_event (T : Tx P K mg) {fd : FuncData} (F : FunD K "is_event" "is_event" (defArgs (top 18)) (defBody (top 18)) (defScope (top 18)) [] [] (He.ga K "is_event") fd) : FnOk P w K mg base (L2.CX P w) 2 (He.ga K "is_event") fd ["thing"] (spM K f_is_event) := by
  obtain ⟨fd_is_name, ps_is_name, F_is_name, kp_is_name, b_is_name⟩ := (ok_is_name (P := P) (w := w) (base := base) T).ex
  obtain ⟨fd_is_sized, ps_is_sized, F_is_sized, kp_is_sized, b_is_sized⟩ := (ok_is_sized (P := P) (w := w) (base := base) T).ex
  refine fn_ok F sc_is_event fun cdv A outer s H E hr tk => ?_
  have hN := sc_is_event.nd
  exact (rss_cons (rs_if (rt_bool (rw_or (rt_not (rt_truth (re_call F_is_sized (hr.mono (by decide)) T.g_is_sized kp_is_sized b_is_sized tk (ra_cons (re_var (i := 0)) (ra_cons re_int ra_nil))))) (rw_or (rt_not (rt_truth (re_isi (T := .str) (re_ix hr.u1 (re_var (i := 0)) re_int) T.b_isinstance T.b_str))) (rw_or1 (rt_cmp (op_notInS hr.u66) (re_ix hr.u1 (re_var (i := 0)) re_int) (re_tup (ra_cons re_str (ra_cons re_str ra_nil))) rfl))))) (rss_one (rs_ret re_bl)) rss_nil)
    (rss_one (rs_ret (re_and (re_call F_is_name (hr.mono (by decide)) T.g_is_name kp_is_name b_is_name tk (ra_cons (re_ix hr.u1 (re_var (i := 0)) re_int) ra_nil)) (re_one (re_call F_is_name (hr.mono (by decide)) T.g_is_name kp_is_name b_is_name tk (ra_cons (re_ix hr.u1 (re_var (i := 0)) re_int) ra_nil)))))))
theorem bi_is_event {fd : FuncData} (F : FunD K "is_event" "is_event" (defArgs (top 18)) (defBody (top 18)) (defScope (top 18)) [] [] (He.ga K "is_event") fd) : Binds K fd ["thing"] [] := F.bindsN fun _ _ _ _ _ _ us hl => match us, hl with | [_], _ => rfl
theorem ok_is_event (T : Tx P K mg) : OkF P w K mg base 2 (He.ga K "is_event") f_is_event := by
  obtain ⟨fd, F⟩ := T.d_is_event
  exact ⟨fd, _, fn_is_event T F, F.kp, bi_is_event F⟩
noncomputable def m_is_tuple_of_of_is_event : SM := (sRet (eAndB (eIsi .tup (eVar 0)) (eCall allA (aCons (eLc (iT (eVar 0)) (.nm 2) yesM (eCallA 1 [("is_event", f_is_event)] (aCons (eVar 2) aNil)) [2]) aNil))))
noncomputable def f_is_tuple_of_of_is_event : Fn := fnM 2 3 m_is_tuple_of_of_is_event
theorem sc_is_tuple_of_of_is_event : FnScope ["thing", "is_one", "one"] ["thing", "is_one"] (defScope (top 16)) := ⟨rfl, rfl, rfl, by decide +kernel, rfl, by decide +kernel, by decide +kernel⟩
theorem fn_is_tuple_of_of_is_event (T : Tx P K mg) {fd : FuncData} (F : FunD K "is_tuple_of" "is_tuple_of" (defArgs (top 16)) (defBody (top 16)) (defScope (top 16)) [] [] (He.ga K "is_tuple_of") fd) : FnOk P w K mg base (L2.CX P w) 3 (He.ga K "is_tuple_of") fd ["thing", "is_one"] (spM K f_is_tuple_of_of_is_event) := by
  have H_is_event := ok_is_event (P := P) (w := w) (base := base) T
  obtain ⟨fd_is_event, ps_is_event, F_is_event, kp_is_event, b_is_event⟩ := (ok_is_event (P := P) (w := w) (base := base) T).ex
  refine fn_ok F sc_is_tuple_of_of_is_event fun cdv A outer s H E hr tk => ?_
  have hN := sc_is_tuple_of_of_is_event.nd
  exact (rss_one (rs_ret (re_and (re_isi (T := .tup) (re_var (i := 0)) T.b_isinstance T.b_tuple) (re_one (re_callB (call_allS rfl) (ra_cons (re_lc rfl hN (ri_tup (re_var (i := 0))) (own := [("one", 2)]) (blkOk_by (by rfl)) (by decide) ⟨fun _ _ _ _ _ => ⟨(pat_nm (i := 2) hN), pts_nilS, (re_callA (k := 2) (i := 1) (T := [("is_event", f_is_event)]) (held1 H_is_event) (hr.mono (by decide)) (ra_cons (re_var (i := 2)) ra_nil))⟩⟩) ra_nil) bt_all T.b_all)))))
theorem bi_is_tuple_of_of_is_event {fd : FuncData} (F : FunD K "is_tuple_of" "is_tuple_of" (defArgs (top 16)) (defBody (top 16)) (defScope (top 16)) [] [] (He.ga K "is_tuple_of") fd) : Binds K fd ["thing", "is_one"] [] := F.bindsN fun _ _ _ _ _ _ us hl => match us, hl with | [_, _], _ => rfl
theorem ok_is_tuple_of_of_is_event (T : Tx P K mg) : OkF P w K mg base 3 (He.ga K "is_tuple_of") f_is_tuple_of_of_is_event := by
  obtain ⟨fd, F⟩ := T.d_is_tuple_of
  exact ⟨fd, _, fn_is_tuple_of_of_is_event T F, F.kp, bi_is_tuple_of_of_is_event F⟩
noncomputable def m_is_row : SM := (sRet (eFn f_is_tuple_of_of_is_event (aCons (eVar 0) (aCons (eC (.fn "is_event")) aNil))))
noncomputable def f_is_row : Fn := fnM 1 1 m_is_row
theorem sc_is_row : FnScope ["thing"] ["thing"] (defScope (top 19)) := ⟨rfl, rfl, rfl, by decide +kernel, rfl, by decide +kernel, by decide +kernel⟩
theorem fn_is_row (T : Tx P K mg) {fd : FuncData} (F : FunD K "is_row" "is_row" (defArgs (top 19)) (defBody (top 19)) (defScope (top 19)) [] [] (He.ga K "is_row") fd) : FnOk P w K mg base (L2.CX P w) 4 (He.ga K "is_row") fd ["thing"] (spM K f_is_row) := by
  obtain ⟨fd_is_tuple_of_of_is_event, ps_is_tuple_of_of_is_event, F_is_tuple_of_of_is_event, kp_is_tuple_of_of_is_event, b_is_tuple_of_of_is_event⟩ := (ok_is_tuple_of_of_is_event (P := P) (w := w) (base := base) T).ex
  refine fn_ok F sc_is_row fun cdv A outer s H E hr tk => ?_
  have hN := sc_is_row.nd
  exact (rss_one (rs_ret (re_call F_is_tuple_of_of_is_event (hr.mono (by decide)) T.g_is_tuple_of kp_is_tuple_of_of_is_event b_is_tuple_of_of_is_event tk (ra_cons (re_var (i := 0)) (ra_cons (re_fn T.g_is_event) ra_nil)))))
theorem bi_is_row {fd : FuncData} (F : FunD K "is_row" "is_row" (defArgs (top 19)) (defBody (top 19)) (defScope (top 19)) [] [] (He.ga K "is_row") fd) : Binds K fd ["thing"] [] := F.bindsN fun _ _ _ _ _ _ us hl => match us, hl with | [_], _ => rfl
theorem ok_is_row (T : Tx P K mg) : OkF P w K mg base 4 (He.ga K "is_row") f_is_row := by
  obtain ⟨fd, F⟩ := T.d_is_row
  exact ⟨fd, _, fn_is_row T F, F.kp, bi_is_row F⟩
noncomputable def m_is_tuple_of_of_is_row : SM := (sRet (eAndB (eIsi .tup (eVar 0)) (eCall allA (aCons (eLc (iT (eVar 0)) (.nm 2) yesM (eCallA 1 [("is_row", f_is_row)] (aCons (eVar 2) aNil)) [2]) aNil))))
noncomputable def f_is_tuple_of_of_is_row : Fn := fnM 2 3 m_is_tuple_of_of_is_row
theorem sc_is_tuple_of_of_is_row : FnScope ["thing", "is_one", "one"] ["thing", "is_one"] (defScope (top 16)) := ⟨rfl, rfl, rfl, by decide +kernel, rfl, by decide +kernel, by decide +kernel⟩
theorem fn_is_tuple_of_of_is_row (T : Tx P K mg) {fd : FuncData} (F : FunD K "is_tuple_of" "is_tuple_of" (defArgs (top 16)) (defBody (top 16)) (defScope (top 16)) [] [] (He.ga K "is_tuple_of") fd) : FnOk P w K mg base (L2.CX P w) 5 (He.ga K "is_tuple_of") fd ["thing", "is_one"] (spM K f_is_tuple_of_of_is_row) := by
  have H_is_row := ok_is_row (P := P) (w := w) (base := base) T
  obtain ⟨fd_is_row, ps_is_row, F_is_row, kp_is_row, b_is_row⟩ := (ok_is_row (P := P) (w := w) (base := base) T).ex
  refine fn_ok F sc_is_tuple_of_of_is_row fun cdv A outer s H E hr tk => ?_
  have hN := sc_is_tuple_of_of_is_row.nd
  exact (rss_one (rs_ret (re_and (re_isi (T := .tup) (re_var (i := 0)) T.b_isinstance T.b_tuple) (re_one (re_callB (call_allS rfl) (ra_cons (re_lc rfl hN (ri_tup (re_var (i := 0))) (own := [("one", 2)]) (blkOk_by (by rfl)) (by decide) ⟨fun _ _ _ _ _ => ⟨(pat_nm (i := 2) hN), pts_nilS, (re_callA (k := 4) (i := 1) (T := [("is_row", f_is_row)]) (held1 H_is_row) (hr.mono (by decide)) (ra_cons (re_var (i := 2)) ra_nil))⟩⟩) ra_nil) bt_all T.b_all)))))
theorem bi_is_tuple_of_of_is_row {fd : FuncData} (F : FunD K "is_tuple_of" "is_tuple_of" (defArgs (top 16)) (defBody (top 16)) (defScope (top 16)) [] [] (He.ga K "is_tuple_of") fd) : Binds K fd ["thing", "is_one"] [] := F.bindsN fun _ _ _ _ _ _ us hl => match us, hl with | [_, _], _ => rfl
theorem ok_is_tuple_of_of_is_row (T : Tx P K mg) : OkF P w K mg base 5 (He.ga K "is_tuple_of") f_is_tuple_of_of_is_row := by
  obtain ⟨fd, F⟩ := T.d_is_tuple_of
  exact ⟨fd, _, fn_is_tuple_of_of_is_row T F, F.kp, bi_is_tuple_of_of_is_row F⟩
noncomputable def m_is_rows : SM := (sRet (eFn f_is_tuple_of_of_is_row (aCons (eVar 0) (aCons (eC (.fn "is_row")) aNil))))
noncomputable def f_is_rows : Fn := fnM 1 1 m_is_rows
theorem sc_is_rows : FnScope ["thing"] ["thing"] (defScope (top 20)) := ⟨rfl, rfl, rfl, by decide +kernel, rfl, by decide +kernel, by decide +kernel⟩
theorem fn_is_rows (T : Tx P K mg) {fd : FuncData} (F : FunD K "is_rows" "is_rows" (defArgs (top 20)) (defBody (top 20)) (defScope (top 20)) [] [] (He.ga K "is_rows") fd) : FnOk P w K mg base (L2.CX P w) 6 (He.ga K "is_rows") fd ["thing"] (spM K f_is_rows) := by
  obtain ⟨fd_is_tuple_of_of_is_row, ps_is_tuple_of_of_is_row, F_is_tuple_of_of_is_row, kp_is_tuple_of_of_is_row, b_is_tuple_of_of_is_row⟩ := (ok_is_tuple_of_of_is_row (P := P) (w := w) (base := base) T).ex
  refine fn_ok F sc_is_rows fun cdv A outer s H E hr tk => ?_
  have hN := sc_is_rows.nd
  exact (rss_one (rs_ret (re_call F_is_tuple_of_of_is_row (hr.mono (by decide)) T.g_is_tuple_of kp_is_tuple_of_of_is_row b_is_tuple_of_of_is_row tk (ra_cons (re_var (i := 0)) (ra_cons (re_fn T.g_is_row) ra_nil)))))
theorem bi_is_rows {fd : FuncData} (F : FunD K "is_rows" "is_rows" (defArgs (top 20)) (defBody (top 20)) (defScope (top 20)) [] [] (He.ga K "is_rows") fd) : Binds K fd ["thing"] [] := F.bindsN fun _ _ _ _ _ _ us hl => match us, hl with | [_], _ => rfl
theorem ok_is_rows (T : Tx P K mg) : OkF P w K mg base 6 (He.ga K "is_rows") f_is_rows := by
  obtain ⟨fd, F⟩ := T.d_is_rows
  exact ⟨fd, _, fn_is_rows T F, F.kp, bi_is_rows F⟩
noncomputable def m_checked_rows : SM := (sSeq (sExpr (eFn f_check_hands (aCons (eVar 0) aNil)))
    (sSeq (sIf (mNot (asT (eFn f_is_rows (aCons (eVar 1) aNil)))) sNever sPass)
    (sSeq (sIf (asB (eOp (eqA true) (eCall lenA (aCons (eVar 1) aNil)) (eCall lenA (aCons (eVar 0) aNil)))) sNever sPass)
    (sSeq (sFor (iZip true true (aCons (eVar 0) (aCons (eVar 1) aNil))) (.tp [2, 3]) (sIf (mNot (asT (eCall allA (aCons (eLc (iT (eVar 3)) (.tp [4, 5, 6]) yesM (eAndB (eOp (inA false) (eVar 5) (eVar 0)) (eOp (eqA true) (eVar 5) (eVar 2))) [4, 5, 6]) aNil)))) sNever sPass))
    (sSeq (sIf (asT (eCall anyA (aCons (eLc (iT (eVar 1)) (.nm 3) yesM (eOp (ordA gtD) (eCall lenA (aCons (eVar 3) aNil)) (eC (.int 24))) [3]) aNil))) sNever sPass)
    (sSeq (sIf (asB (eOp (ordA gtD) (eCall sumA (aCons (eLc (iT (eVar 1)) (.nm 3) yesM (eCall lenA (aCons (eVar 3) aNil)) [3]) aNil)) (eC (.int 60)))) sNever sPass)
    (sRet (eVar 1))))))))
noncomputable def f_checked_rows : Fn := fnM 2 7 m_checked_rows
theorem sc_checked_rows : FnScope ["hands", "thing", "hand", "row", "word", "other", "letter"] ["hands", "thing"] (defScope (top 27)) := ⟨rfl, rfl, rfl, by decide +kernel, rfl, by decide +kernel, by decide +kernel⟩
theorem fn_checked_rows (T : Tx P K mg) {fd : FuncData} (F : FunD K "checked_rows" "checked_rows" (defArgs (top 27)) (defBody (top 27)) (defScope (top 27)) [] [] (He.ga K "checked_rows") fd) : FnOk P w K mg base (L2.CX P w) 7 (He.ga K "checked_rows") fd ["hands", "thing"] (spM K f_checked_rows) := by
  obtain ⟨fd_check_hands, ps_check_hands, F_check_hands, kp_check_hands, b_check_hands⟩ := (ok_check_hands (P := P) (w := w) (base := base) T).ex
  obtain ⟨fd_is_rows, ps_is_rows, F_is_rows, kp_is_rows, b_is_rows⟩ := (ok_is_rows (P := P) (w := w) (base := base) T).ex
  refine fn_ok F sc_checked_rows fun cdv A outer s H E hr tk => ?_
  have hN := sc_checked_rows.nd
  exact (rss_cons (rs_expr (re_call F_check_hands (hr.mono (by decide)) T.g_check_hands kp_check_hands b_check_hands tk (ra_cons (re_var (i := 0)) ra_nil)))
    (rss_cons (rs_if (rt_not (rt_truth (re_call F_is_rows (hr.mono (by decide)) T.g_is_rows kp_is_rows b_is_rows tk (ra_cons (re_var (i := 1)) ra_nil)))) (rss_one rs_never) rss_nil)
    (rss_cons (rs_if (rt_cmp (op_neS hr.units) (re_callB call_lenS (ra_cons (re_var (i := 1)) ra_nil) bt_len T.b_len) (re_callB call_lenS (ra_cons (re_var (i := 0)) ra_nil) bt_len T.b_len) rfl) (rss_one rs_never) rss_nil)
    (rss_cons (rs_for (passes_of rfl) rfl (ri_zip (ra_cons (re_var (i := 0)) (ra_cons (re_var (i := 1)) ra_nil)) T.b_zip) (pat_tp (is := [2, 3]) rfl (pats_cons (i := 2) hN (pats_cons (i := 3) hN pats_nil))) (rss_one (rs_if (rt_not (rt_truth (re_callB (call_allS rfl) (ra_cons (re_lc rfl hN (ri_tup (re_var (i := 3))) (own := [("word", 4), ("other", 5), ("letter", 6)]) (blkOk_by (by rfl)) (by decide) ⟨fun _ _ _ _ _ => ⟨(pat_tp (is := [4, 5, 6]) rfl (pats_cons (i := 4) hN (pats_cons (i := 5) hN (pats_cons (i := 6) hN pats_nil)))), pts_nilS, (re_and (re_cmp (op_inS hr.u66) (re_var (i := 5)) (re_var (i := 0)) rfl) (re_one (re_cmp (op_neS hr.units) (re_var (i := 5)) (re_var (i := 2)) rfl)))⟩⟩) ra_nil) bt_all T.b_all))) (rss_one rs_never) rss_nil)))
    (rss_cons (rs_if (rt_truth (re_callB (call_anyS rfl) (ra_cons (re_lc rfl hN (ri_tup (re_var (i := 1))) (own := [("row", 3)]) (blkOk_by (by rfl)) (by decide) ⟨fun _ _ _ _ _ => ⟨(pat_nm (i := 3) hN), pts_nilS, (re_cmp (op_gtS hr.units) (re_callB call_lenS (ra_cons (re_var (i := 3)) ra_nil) bt_len T.b_len) (re_gint T.i_MOST_EVENTS) rfl)⟩⟩) ra_nil) bt_any T.b_any)) (rss_one rs_never) rss_nil)
    (rss_cons (rs_if (rt_cmp (op_gtS hr.units) (re_callB (call_sumS rfl) (ra_cons (re_lc rfl hN (ri_tup (re_var (i := 1))) (own := [("row", 3)]) (blkOk_by (by rfl)) (by decide) ⟨fun _ _ _ _ _ => ⟨(pat_nm (i := 3) hN), pts_nilS, (re_callB call_lenS (ra_cons (re_var (i := 3)) ra_nil) bt_len T.b_len)⟩⟩) ra_nil) bt_sum T.b_sum) (re_gint T.i_MOST_TOGETHER) rfl) (rss_one rs_never) rss_nil)
    (rss_one (rs_ret (re_var (i := 1))))))))))
theorem bi_checked_rows {fd : FuncData} (F : FunD K "checked_rows" "checked_rows" (defArgs (top 27)) (defBody (top 27)) (defScope (top 27)) [] [] (He.ga K "checked_rows") fd) : Binds K fd ["hands", "thing"] [] := F.bindsN fun _ _ _ _ _ _ us hl => match us, hl with | [_, _], _ => rfl
theorem ok_checked_rows (T : Tx P K mg) : OkF P w K mg base 7 (He.ga K "checked_rows") f_checked_rows := by
  obtain ⟨fd, F⟩ := T.d_checked_rows
  exact ⟨fd, _, fn_checked_rows T F, F.kp, bi_checked_rows F⟩
noncomputable def m_Playing___init__ : SM := (sSeq (sFldM "Playing" "hands" (eVar 0) (eVar 1))
    (sSeq (sFldM "Playing" "manner" (eVar 0) (eVar 2))
    (sSeq (sFldM "Playing" "rows" (eVar 0) (eVar 3))
    (sSeq (sFldM "Playing" "stand" (eVar 0) (eOp (mulA true) (eLst (aCons (eC (.int 0)) aNil)) (eCall lenA (aCons (eVar 1) aNil))))
    (sFldM "Playing" "lying" (eVar 0) eDT)))))
noncomputable def f_Playing___init__ : Fn := fnM 4 4 m_Playing___init__
theorem sc_Playing___init__ : FnScope ["self", "hands", "manner", "rows"] ["self", "hands", "manner", "rows"] (defScope (inClass (top 28) 0)) := ⟨rfl, rfl, rfl, by decide +kernel, rfl, by decide +kernel, by decide +kernel⟩
theorem fn_Playing___init__ (T : Tx P K mg) {fd : FuncData} (F : FunD K "__init__" "Playing.__init__" (defArgs (inClass (top 28) 0)) (defBody (inClass (top 28) 0)) (defScope (inClass (top 28) 0)) [] [] (He.ma K (He.ga K "Playing") "__init__") fd) : FnOk P w K mg base (L2.CX P w) 1 (He.ma K (He.ga K "Playing") "__init__") fd ["self", "hands", "manner", "rows"] (spM K f_Playing___init__) := by
  refine fn_ok F sc_Playing___init__ fun cdv A outer s H E hr tk => ?_
  have hN := sc_Playing___init__.nd
  exact (rss_cons (rs_fld T.c_Playing T.n_Playing_hands (re_var (i := 0)) (re_var (i := 1)))
    (rss_cons (rs_fld T.c_Playing T.n_Playing_manner (re_var (i := 0)) (re_var (i := 2)))
    (rss_cons (rs_fld T.c_Playing T.n_Playing_rows (re_var (i := 0)) (re_var (i := 3)))
    (rss_cons (rs_fld T.c_Playing T.n_Playing_stand (re_var (i := 0)) (re_op (op_mulS (alloc := true)) (re_lst (ra_cons re_int ra_nil)) (re_callB call_lenS (ra_cons (re_var (i := 1)) ra_nil) bt_len T.b_len)))
    (rss_one (rs_fld T.c_Playing T.n_Playing_lying (re_var (i := 0)) re_dT))))))
theorem bi_Playing___init__ {fd : FuncData} (F : FunD K "__init__" "Playing.__init__" (defArgs (inClass (top 28) 0)) (defBody (inClass (top 28) 0)) (defScope (inClass (top 28) 0)) [] [] (He.ma K (He.ga K "Playing") "__init__") fd) : Binds K fd ["self", "hands", "manner", "rows"] [] := F.bindsN fun _ _ _ _ _ _ us hl => match us, hl with | [_, _, _, _], _ => rfl
theorem ok_Playing___init__ (T : Tx P K mg) : OkF P w K mg base 1 (He.ma K (He.ga K "Playing") "__init__") f_Playing___init__ := by
  obtain ⟨fd, F⟩ := T.d_Playing___init__
  exact ⟨fd, _, fn_Playing___init__ T F, F.kp, bi_Playing___init__ F⟩
noncomputable def m_Playing_next_event : SM := (sSeq (sSet 2 (eOp ixA (eFld "Playing" "rows" (eVar 0)) (eVar 1)))
    (sRet (eIf (asB (eOp (ordA ltD) (eOp ixA (eFld "Playing" "stand" (eVar 0)) (eVar 1)) (eCall lenA (aCons (eVar 2) aNil)))) (eOp ixA (eVar 2) (eOp ixA (eFld "Playing" "stand" (eVar 0)) (eVar 1))) (eC .non))))
noncomputable def f_Playing_next_event : Fn := fnM 2 3 m_Playing_next_event
theorem sc_Playing_next_event : FnScope ["self", "hand", "row"] ["self", "hand"] (defScope (inClass (top 28) 1)) := ⟨rfl, rfl, rfl, by decide +kernel, rfl, by decide +kernel, by decide +kernel⟩
theorem fn_Playing_next_event (T : Tx P K mg) {fd : FuncData} (F : FunD K "next_event" "Playing.next_event" (defArgs (inClass (top 28) 1)) (defBody (inClass (top 28) 1)) (defScope (inClass (top 28) 1)) [] [] (He.ma K (He.ga K "Playing") "next_event") fd) : FnOk P w K mg base (L2.CX P w) 1 (He.ma K (He.ga K "Playing") "next_event") fd ["self", "hand"] (spM K f_Playing_next_event) := by
  refine fn_ok F sc_Playing_next_event fun cdv A outer s H E hr tk => ?_
  have hN := sc_Playing_next_event.nd
  exact (rss_cons (rs_set (i := 2) hN (re_ix hr.u1 (re_fld T.c_Playing T.n_Playing_rows (re_var (i := 0))) (re_var (i := 1))))
    (rss_one (rs_ret (re_if (rt_cmp (op_ltS hr.units) (re_ix hr.u1 (re_fld T.c_Playing T.n_Playing_stand (re_var (i := 0))) (re_var (i := 1))) (re_callB call_lenS (ra_cons (re_var (i := 2)) ra_nil) bt_len T.b_len) rfl) (re_ix hr.u1 (re_var (i := 2)) (re_ix hr.u1 (re_fld T.c_Playing T.n_Playing_stand (re_var (i := 0))) (re_var (i := 1)))) re_non))))
theorem bi_Playing_next_event {fd : FuncData} (F : FunD K "next_event" "Playing.next_event" (defArgs (inClass (top 28) 1)) (defBody (inClass (top 28) 1)) (defScope (inClass (top 28) 1)) [] [] (He.ma K (He.ga K "Playing") "next_event") fd) : Binds K fd ["self", "hand"] [] := F.bindsN fun _ _ _ _ _ _ us hl => match us, hl with | [_, _], _ => rfl
theorem ok_Playing_next_event (T : Tx P K mg) : OkF P w K mg base 1 (He.ma K (He.ga K "Playing") "next_event") f_Playing_next_event := by
  obtain ⟨fd, F⟩ := T.d_Playing_next_event
  exact ⟨fd, _, fn_Playing_next_event T F, F.kp, bi_Playing_next_event F⟩
noncomputable def m_Playing_can_go : SM := (sSeq (sSet 2 (eMeth "Playing" "next_event" f_Playing_next_event (eVar 0) (aCons (eVar 1) aNil)))
    (sSeq (sIf (asB (eOp (isNA false) (eVar 2) (eC .non))) (sRet (eC (.bl false))) sPass)
    (sSeq (sAsg (gTp 3 (gsCons (gNm 3) (gsCons (gNm 4) (gsCons (gNm 5) gsNil)))) (eVar 2))
    (sSeq (sIf (asB (eOp (eqA false) (eVar 3) (eC (.str "give")))) (sRet (eC (.bl true))) sPass)
    (sSeq (sSet 6 (eGet (eFld "Playing" "lying" (eVar 0)) (eTup (aCons (eVar 4) (aCons (eOp ixA (eFld "Playing" "hands" (eVar 0)) (eVar 1)) aNil))) (eTupS aNil)))
    (sRet (eOp (inA false) (eVar 5) (eIf (asB (eOp (eqA false) (eFld "Playing" "manner" (eVar 0)) (eC (.str "order")))) (eSl (eVar 6) oNone (oSome (eC (.int 1)))) (eVar 6)))))))))
noncomputable def f_Playing_can_go : Fn := fnM 2 7 m_Playing_can_go
theorem sc_Playing_can_go : FnScope ["self", "hand", "event", "word", "other", "letter", "letters"] ["self", "hand"] (defScope (inClass (top 28) 2)) := ⟨rfl, rfl, rfl, by decide +kernel, rfl, by decide +kernel, by decide +kernel⟩
theorem fn_Playing_can_go (T : Tx P K mg) {fd : FuncData} (F : FunD K "can_go" "Playing.can_go" (defArgs (inClass (top 28) 2)) (defBody (inClass (top 28) 2)) (defScope (inClass (top 28) 2)) [] [] (He.ma K (He.ga K "Playing") "can_go") fd) : FnOk P w K mg base (L2.CX P w) 2 (He.ma K (He.ga K "Playing") "can_go") fd ["self", "hand"] (spM K f_Playing_can_go) := by
  obtain ⟨fd_Playing_next_event, ps_Playing_next_event, F_Playing_next_event, kp_Playing_next_event, b_Playing_next_event⟩ := (ok_Playing_next_event (P := P) (w := w) (base := base) T).ex
  refine fn_ok F sc_Playing_can_go fun cdv A outer s H E hr tk => ?_
  have hN := sc_Playing_can_go.nd
  exact (rss_cons (rs_set (i := 2) hN (re_meth T.c_Playing T.m_Playing_next_event F_Playing_next_event (hr.mono (by decide)) b_Playing_next_event (re_var (i := 0)) (ra_cons (re_var (i := 1)) ra_nil)))
    (rss_cons (rs_if (rt_cmp op_isNS (re_var (i := 2)) re_non rfl) (rss_one (rs_ret re_bl)) rss_nil)
    (rss_cons (rs_asg (re_var (i := 2)) (rg_tup rfl (rgs_cons (rg_name (i := 3) hN) (rgs_cons (rg_name (i := 4) hN) (rgs_cons (rg_name (i := 5) hN) rgs_nil)))))
    (rss_cons (rs_if (rt_cmp (op_eqS hr.units) (re_var (i := 3)) re_str rfl) (rss_one (rs_ret re_bl)) rss_nil)
    (rss_cons (rs_set (i := 6) hN (re_get hr.u1 (re_fld T.c_Playing T.n_Playing_lying (re_var (i := 0))) (re_tup (ra_cons (re_var (i := 4)) (ra_cons (re_ix hr.u1 (re_fld T.c_Playing T.n_Playing_hands (re_var (i := 0))) (re_var (i := 1))) ra_nil))) (re_tupS ra_nil)))
    (rss_one (rs_ret (re_cmp (op_inS hr.u66) (re_var (i := 5)) (re_if (rt_cmp (op_eqS hr.units) (re_fld T.c_Playing T.n_Playing_manner (re_var (i := 0))) re_str rfl) (re_sl (re_var (i := 6)) ro_none (ro_some re_int)) (re_var (i := 6))) rfl))))))))
theorem bi_Playing_can_go {fd : FuncData} (F : FunD K "can_go" "Playing.can_go" (defArgs (inClass (top 28) 2)) (defBody (inClass (top 28) 2)) (defScope (inClass (top 28) 2)) [] [] (He.ma K (He.ga K "Playing") "can_go") fd) : Binds K fd ["self", "hand"] [] := F.bindsN fun _ _ _ _ _ _ us hl => match us, hl with | [_, _], _ => rfl
theorem ok_Playing_can_go (T : Tx P K mg) : OkF P w K mg base 2 (He.ma K (He.ga K "Playing") "can_go") f_Playing_can_go := by
  obtain ⟨fd, F⟩ := T.d_Playing_can_go
  exact ⟨fd, _, fn_Playing_can_go T F, F.kp, bi_Playing_can_go F⟩
noncomputable def m_Playing_ready : SM := (sRet (eLc (iRg (eCall lenA (aCons (eFld "Playing" "hands" (eVar 0)) aNil))) (.nm 1) (asT (eMeth "Playing" "can_go" f_Playing_can_go (eVar 0) (aCons (eVar 1) aNil))) (eVar 1) [1]))
noncomputable def f_Playing_ready : Fn := fnM 1 2 m_Playing_ready
theorem sc_Playing_ready : FnScope ["self", "hand"] ["self"] (defScope (inClass (top 28) 5)) := ⟨rfl, rfl, rfl, by decide +kernel, rfl, by decide +kernel, by decide +kernel⟩
theorem fn_Playing_ready (T : Tx P K mg) {fd : FuncData} (F : FunD K "ready" "Playing.ready" (defArgs (inClass (top 28) 5)) (defBody (inClass (top 28) 5)) (defScope (inClass (top 28) 5)) [] [] (He.ma K (He.ga K "Playing") "ready") fd) : FnOk P w K mg base (L2.CX P w) 3 (He.ma K (He.ga K "Playing") "ready") fd ["self"] (spM K f_Playing_ready) := by
  obtain ⟨fd_Playing_can_go, ps_Playing_can_go, F_Playing_can_go, kp_Playing_can_go, b_Playing_can_go⟩ := (ok_Playing_can_go (P := P) (w := w) (base := base) T).ex
  refine fn_ok F sc_Playing_ready fun cdv A outer s H E hr tk => ?_
  have hN := sc_Playing_ready.nd
  exact (rss_one (rs_ret (re_lc rfl hN (ri_range (re_callB call_lenS (ra_cons (re_fld T.c_Playing T.n_Playing_hands (re_var (i := 0))) ra_nil) bt_len T.b_len) T.b_range) (own := [("hand", 1)]) (blkOk_by (by rfl)) (by decide) ⟨fun _ _ _ _ _ => ⟨(pat_nm (i := 1) hN), (pts_oneS (rt_truth (re_meth T.c_Playing T.m_Playing_can_go F_Playing_can_go (hr.mono (by decide)) b_Playing_can_go (re_var (i := 0)) (ra_cons (re_var (i := 1)) ra_nil)))), (re_var (i := 1))⟩⟩)))
theorem bi_Playing_ready {fd : FuncData} (F : FunD K "ready" "Playing.ready" (defArgs (inClass (top 28) 5)) (defBody (inClass (top 28) 5)) (defScope (inClass (top 28) 5)) [] [] (He.ma K (He.ga K "Playing") "ready") fd) : Binds K fd ["self"] [] := F.bindsN fun _ _ _ _ _ _ us hl => match us, hl with | [_], _ => rfl
theorem ok_Playing_ready (T : Tx P K mg) : OkF P w K mg base 3 (He.ma K (He.ga K "Playing") "ready") f_Playing_ready := by
  obtain ⟨fd, F⟩ := T.d_Playing_ready
  exact ⟨fd, _, fn_Playing_ready T F, F.kp, bi_Playing_ready F⟩
noncomputable def m_Playing_go : SM := (sSeq (sAsg (gTp 3 (gsCons (gNm 2) (gsCons (gNm 3) (gsCons (gNm 4) gsNil)))) (eMeth "Playing" "next_event" f_Playing_next_event (eVar 0) (aCons (eVar 1) aNil)))
    (sSeq (sSet 5 (eIf (asB (eOp (eqA false) (eVar 2) (eC (.str "give")))) (eTup (aCons (eOp ixA (eFld "Playing" "hands" (eVar 0)) (eVar 1)) (aCons (eVar 3) aNil))) (eTup (aCons (eVar 3) (aCons (eOp ixA (eFld "Playing" "hands" (eVar 0)) (eVar 1)) aNil)))))
    (sSeq (sSet 6 (eGet (eFld "Playing" "lying" (eVar 0)) (eVar 5) (eTupS aNil)))
    (sSeq (sIf (asB (eOp (eqA false) (eVar 2) (eC (.str "give")))) (sAsg (gSb (eFld "Playing" "lying" (eVar 0)) (eVar 5)) (eOp addA (eVar 6) (eTupS (aCons (eVar 4) aNil)))) (sSeq (sSet 7 (eTM (fun a as s => if tpsOk a then indexA a as s else none) (eVar 6) (aCons (eVar 4) aNil)))
    (sAsg (gSb (eFld "Playing" "lying" (eVar 0)) (eVar 5)) (eOp addA (eSl (eVar 6) oNone (oSome (eVar 7))) (eSl (eVar 6) (oSome (eOp addA (eVar 7) (eC (.int 1)))) oNone)))))
    (sAugIx (eFld "Playing" "stand" (eVar 0)) (eVar 1) (eC (.int 1)))))))
noncomputable def f_Playing_go : Fn := fnM 2 8 m_Playing_go
theorem sc_Playing_go : FnScope ["self", "hand", "word", "other", "letter", "couple", "letters", "at"] ["self", "hand"] (defScope (inClass (top 28) 3)) := ⟨rfl, rfl, rfl, by decide +kernel, rfl, by decide +kernel, by decide +kernel⟩
theorem fn_Playing_go (T : Tx P K mg) {fd : FuncData} (F : FunD K "go" "Playing.go" (defArgs (inClass (top 28) 3)) (defBody (inClass (top 28) 3)) (defScope (inClass (top 28) 3)) [] [] (He.ma K (He.ga K "Playing") "go") fd) : FnOk P w K mg base (L2.CX P w) 2 (He.ma K (He.ga K "Playing") "go") fd ["self", "hand"] (spM K f_Playing_go) := by
  obtain ⟨fd_Playing_next_event, ps_Playing_next_event, F_Playing_next_event, kp_Playing_next_event, b_Playing_next_event⟩ := (ok_Playing_next_event (P := P) (w := w) (base := base) T).ex
  refine fn_ok F sc_Playing_go fun cdv A outer s H E hr tk => ?_
  have hN := sc_Playing_go.nd
  exact (rss_cons (rs_asg (re_meth T.c_Playing T.m_Playing_next_event F_Playing_next_event (hr.mono (by decide)) b_Playing_next_event (re_var (i := 0)) (ra_cons (re_var (i := 1)) ra_nil)) (rg_tup rfl (rgs_cons (rg_name (i := 2) hN) (rgs_cons (rg_name (i := 3) hN) (rgs_cons (rg_name (i := 4) hN) rgs_nil)))))
    (rss_cons (rs_set (i := 5) hN (re_if (rt_cmp (op_eqS hr.units) (re_var (i := 2)) re_str rfl) (re_tup (ra_cons (re_ix hr.u1 (re_fld T.c_Playing T.n_Playing_hands (re_var (i := 0))) (re_var (i := 1))) (ra_cons (re_var (i := 3)) ra_nil))) (re_tup (ra_cons (re_var (i := 3)) (ra_cons (re_ix hr.u1 (re_fld T.c_Playing T.n_Playing_hands (re_var (i := 0))) (re_var (i := 1))) ra_nil)))))
    (rss_cons (rs_set (i := 6) hN (re_get hr.u1 (re_fld T.c_Playing T.n_Playing_lying (re_var (i := 0))) (re_var (i := 5)) (re_tupS ra_nil)))
    (rss_cons (rs_if (rt_cmp (op_eqS hr.units) (re_var (i := 2)) re_str rfl) (rss_one (rs_asg (re_op op_addS (re_var (i := 6)) (re_tupS (ra_cons (re_var (i := 4)) ra_nil))) (rg_sub (W := never) hr.u1 (re_fld T.c_Playing T.n_Playing_lying (re_var (i := 0))) (re_var (i := 5))))) (rss_cons (rs_set (i := 7) hN (re_tm PySem.F.slot_tuple_index PySem.F.type_tuple_index mt_tindexS (re_var (i := 6)) (ra_cons (re_var (i := 4)) ra_nil)))
    (rss_one (rs_asg (re_op op_addS (re_sl (re_var (i := 6)) ro_none (ro_some (re_var (i := 7)))) (re_sl (re_var (i := 6)) (ro_some (re_op op_addS (re_var (i := 7)) re_int)) ro_none)) (rg_sub (W := never) hr.u1 (re_fld T.c_Playing T.n_Playing_lying (re_var (i := 0))) (re_var (i := 5)))))))
    (rss_one (rs_augIx hr.u1 (re_fld T.c_Playing T.n_Playing_stand (re_var (i := 0))) (re_var (i := 1)) re_int))))))
theorem bi_Playing_go {fd : FuncData} (F : FunD K "go" "Playing.go" (defArgs (inClass (top 28) 3)) (defBody (inClass (top 28) 3)) (defScope (inClass (top 28) 3)) [] [] (He.ma K (He.ga K "Playing") "go") fd) : Binds K fd ["self", "hand"] [] := F.bindsN fun _ _ _ _ _ _ us hl => match us, hl with | [_, _], _ => rfl
theorem ok_Playing_go (T : Tx P K mg) : OkF P w K mg base 2 (He.ma K (He.ga K "Playing") "go") f_Playing_go := by
  obtain ⟨fd, F⟩ := T.d_Playing_go
  exact ⟨fd, _, fn_Playing_go T F, F.kp, bi_Playing_go F⟩
noncomputable def m_played : SM := (sSeq (sPar2 3 4 (aCons (eMake "Playing" f_Playing___init__ (aCons (eVar 0) (aCons (eVar 1) (aCons (eVar 2) aNil)))) (aCons (eLstR aNil) aNil)))
    (sSeq (sSet 5 (eMeth "Playing" "ready" f_Playing_ready (eVar 3) aNil))
    (sSeq (sWh 1000 (asB (eOp (eqA true) (eVar 5) (eLst aNil))) (sSeq (sExpr (eMeth "Playing" "go" f_Playing_go (eVar 3) (aCons (eOp ixA (eVar 5) (eC (.int 0))) aNil)))
    (sSeq (sExpr (eBMT "list" appendA (eVar 4) (aCons (eOp ixA (eVar 5) (eC (.int 0))) aNil)))
    (sSet 5 (eMeth "Playing" "ready" f_Playing_ready (eVar 3) aNil)))))
    (sRet (eTup (aCons (eCall (tupleA false) (aCons (eVar 4) aNil)) (aCons (eVar 3) aNil)))))))
noncomputable def f_played : Fn := fnM 3 6 m_played
theorem sc_played : FnScope ["hands", "manner", "rows", "playing", "found", "ready"] ["hands", "manner", "rows"] (defScope (top 29)) := ⟨rfl, rfl, rfl, by decide +kernel, rfl, by decide +kernel, by decide +kernel⟩
theorem fn_played (T : Tx P K mg) {fd : FuncData} (F : FunD K "played" "played" (defArgs (top 29)) (defBody (top 29)) (defScope (top 29)) [] [] (He.ga K "played") fd) : FnOk P w K mg base (L2.CX P w) 5 (He.ga K "played") fd ["hands", "manner", "rows"] (spM K f_played) := by
  obtain ⟨fd_Playing___init__, ps_Playing___init__, F_Playing___init__, kp_Playing___init__, b_Playing___init__⟩ := (ok_Playing___init__ (P := P) (w := w) (base := base) T).ex
  obtain ⟨fd_Playing_go, ps_Playing_go, F_Playing_go, kp_Playing_go, b_Playing_go⟩ := (ok_Playing_go (P := P) (w := w) (base := base) T).ex
  obtain ⟨fd_Playing_ready, ps_Playing_ready, F_Playing_ready, kp_Playing_ready, b_Playing_ready⟩ := (ok_Playing_ready (P := P) (w := w) (base := base) T).ex
  refine fn_ok F sc_played fun cdv A outer s H E hr tk => ?_
  have hN := sc_played.nd
  exact (rss_cons (rs_par (i := 3) (j := 4) rfl hN (ra_cons (re_make T.mk_Playing F_Playing___init__ (hr.mono (by decide)) T.g_Playing b_Playing___init__ (ra_cons (re_var (i := 0)) (ra_cons (re_var (i := 1)) (ra_cons (re_var (i := 2)) ra_nil)))) (ra_cons (re_lstR ra_nil) ra_nil)))
    (rss_cons (rs_set (i := 5) hN (re_meth0 T.c_Playing T.m_Playing_ready F_Playing_ready (hr.mono (by decide)) b_Playing_ready (re_var (i := 3))))
    (rss_cons (rs_while (n := 1000) (passes_of rfl) (rt_cmp (op_neS hr.units) (re_var (i := 5)) (re_lst ra_nil) rfl) (rss_cons (rs_expr (re_meth T.c_Playing T.m_Playing_go F_Playing_go (hr.mono (by decide)) b_Playing_go (re_var (i := 3)) (ra_cons (re_ix hr.u1 (re_var (i := 5)) re_int) ra_nil)))
    (rss_cons (rs_expr (re_bm PySem.F.plainAttrs_list PySem.F.slot_list_append PySem.F.type_list_append mt_appendS (re_var (i := 4)) (ra_cons (re_ix hr.u1 (re_var (i := 5)) re_int) ra_nil)))
    (rss_one (rs_set (i := 5) hN (re_meth0 T.c_Playing T.m_Playing_ready F_Playing_ready (hr.mono (by decide)) b_Playing_ready (re_var (i := 3))))))))
    (rss_one (rs_ret (re_tup (ra_cons (re_callTy (call_tupleS (sg := false)) (ra_cons (re_var (i := 4)) ra_nil) bt_tuple T.b_tuple) (ra_cons (re_var (i := 3)) ra_nil))))))))
theorem bi_played {fd : FuncData} (F : FunD K "played" "played" (defArgs (top 29)) (defBody (top 29)) (defScope (top 29)) [] [] (He.ga K "played") fd) : Binds K fd ["hands", "manner", "rows"] [] := F.bindsN fun _ _ _ _ _ _ us hl => match us, hl with | [_, _, _], _ => rfl
theorem ok_played (T : Tx P K mg) : OkF P w K mg base 5 (He.ga K "played") f_played := by
  obtain ⟨fd, F⟩ := T.d_played
  exact ⟨fd, _, fn_played T F, F.kp, bi_played F⟩
noncomputable def m_Playing_queues : SM := (sSeq (sLock pkLying (sSet 1 (eLc (iIt (eFld "Playing" "lying" (eVar 0))) (.tp [2, 3]) (asB (eOp (eqA true) (eVar 3) (eTup aNil))) (eTup (aStar (eVar 2) (aCons (eVar 3) aNil))) [2, 3])))
    (sRet (eCall (tupleA false) (aCons (eCall sortedA (aCons (eVar 1) aNil)) aNil))))
noncomputable def f_Playing_queues : Fn := fnM 1 4 m_Playing_queues
theorem sc_Playing_queues : FnScope ["self", "found", "couple", "letters"] ["self"] (defScope (inClass (top 28) 4)) := ⟨rfl, rfl, rfl, by decide +kernel, rfl, by decide +kernel, by decide +kernel⟩
theorem fn_Playing_queues (T : Tx P K mg) {fd : FuncData} (F : FunD K "queues" "Playing.queues" (defArgs (inClass (top 28) 4)) (defBody (inClass (top 28) 4)) (defScope (inClass (top 28) 4)) [] [] (He.ma K (He.ga K "Playing") "queues") fd) : FnOk P w K mg base (L2.CX P w) 1 (He.ma K (He.ga K "Playing") "queues") fd ["self"] (spM K f_Playing_queues) := by
  refine fn_ok F sc_Playing_queues fun cdv A outer s H E hr tk => ?_
  have hN := sc_Playing_queues.nd
  exact (rss_cons (rs_lock (rs_setLc (i := 1) rfl hN (ri_items (re_fld T.c_Playing T.n_Playing_lying (re_var (i := 0)))) (own := [("couple", 2), ("letters", 3)]) (blkOk_by (by rfl)) (by decide) ⟨fun _ _ _ _ _ => ⟨(pat_tp (is := [2, 3]) rfl (pats_cons (i := 2) hN (pats_cons (i := 3) hN pats_nil))), (pts_oneS (rt_cmp (op_neS hr.units) (re_var (i := 3)) (re_tup ra_nil) rfl)), (re_tup (ra_star (re_var (i := 2)) (ra_cons (re_var (i := 3)) ra_nil)))⟩⟩ rfl))
    (rss_one (rs_ret (re_callTy (call_tupleS (sg := false)) (ra_cons (re_callB (call_sortedS hr.u80) (ra_cons (re_var (i := 1)) ra_nil) bt_sorted T.b_sorted) ra_nil) bt_tuple T.b_tuple))))
theorem bi_Playing_queues {fd : FuncData} (F : FunD K "queues" "Playing.queues" (defArgs (inClass (top 28) 4)) (defBody (inClass (top 28) 4)) (defScope (inClass (top 28) 4)) [] [] (He.ma K (He.ga K "Playing") "queues") fd) : Binds K fd ["self"] [] := F.bindsN fun _ _ _ _ _ _ us hl => match us, hl with | [_], _ => rfl
theorem ok_Playing_queues (T : Tx P K mg) : OkF P w K mg base 1 (He.ma K (He.ga K "Playing") "queues") f_Playing_queues := by
  obtain ⟨fd, F⟩ := T.d_Playing_queues
  exact ⟨fd, _, fn_Playing_queues T F, F.kp, bi_Playing_queues F⟩
noncomputable def m_Playing_is_over : SM := (sRet (eAndB (eOp (eqA false) (eMeth "Playing" "queues" f_Playing_queues (eVar 0) aNil) (eTup aNil)) (eOp (eqA false) (eFld "Playing" "stand" (eVar 0)) (eLc (iT (eFld "Playing" "rows" (eVar 0))) (.nm 1) yesM (eCall lenA (aCons (eVar 1) aNil)) [1]))))
noncomputable def f_Playing_is_over : Fn := fnM 1 2 m_Playing_is_over
theorem sc_Playing_is_over : FnScope ["self", "row"] ["self"] (defScope (inClass (top 28) 6)) := ⟨rfl, rfl, rfl, by decide +kernel, rfl, by decide +kernel, by decide +kernel⟩
theorem fn_Playing_is_over (T : Tx P K mg) {fd : FuncData} (F : FunD K "is_over" "Playing.is_over" (defArgs (inClass (top 28) 6)) (defBody (inClass (top 28) 6)) (defScope (inClass (top 28) 6)) [] [] (He.ma K (He.ga K "Playing") "is_over") fd) : FnOk P w K mg base (L2.CX P w) 2 (He.ma K (He.ga K "Playing") "is_over") fd ["self"] (spM K f_Playing_is_over) := by
  obtain ⟨fd_Playing_queues, ps_Playing_queues, F_Playing_queues, kp_Playing_queues, b_Playing_queues⟩ := (ok_Playing_queues (P := P) (w := w) (base := base) T).ex
  refine fn_ok F sc_Playing_is_over fun cdv A outer s H E hr tk => ?_
  have hN := sc_Playing_is_over.nd
  exact (rss_one (rs_ret (re_and (re_cmp (op_eqS hr.units) (re_meth0 T.c_Playing T.m_Playing_queues F_Playing_queues (hr.mono (by decide)) b_Playing_queues (re_var (i := 0))) (re_tup ra_nil) rfl) (re_one (re_cmp (op_eqS hr.units) (re_fld T.c_Playing T.n_Playing_stand (re_var (i := 0))) (re_lc rfl hN (ri_tup (re_fld T.c_Playing T.n_Playing_rows (re_var (i := 0)))) (own := [("row", 1)]) (blkOk_by (by rfl)) (by decide) ⟨fun _ _ _ _ _ => ⟨(pat_nm (i := 1) hN), pts_nilS, (re_callB call_lenS (ra_cons (re_var (i := 1)) ra_nil) bt_len T.b_len)⟩⟩) rfl)))))
theorem bi_Playing_is_over {fd : FuncData} (F : FunD K "is_over" "Playing.is_over" (defArgs (inClass (top 28) 6)) (defBody (inClass (top 28) 6)) (defScope (inClass (top 28) 6)) [] [] (He.ma K (He.ga K "Playing") "is_over") fd) : Binds K fd ["self"] [] := F.bindsN fun _ _ _ _ _ _ us hl => match us, hl with | [_], _ => rfl
theorem ok_Playing_is_over (T : Tx P K mg) : OkF P w K mg base 2 (He.ma K (He.ga K "Playing") "is_over") f_Playing_is_over := by
  obtain ⟨fd, F⟩ := T.d_Playing_is_over
  exact ⟨fd, _, fn_Playing_is_over T F, F.kp, bi_Playing_is_over F⟩
noncomputable def m_checked_chart : SM := (sSeq (sExpr (eFn f_check_manner (aCons (eVar 0) (aCons (eVar 1) aNil))))
    (sSeq (sExpr (eFn f_checked_rows (aCons (eVar 0) (aCons (eVar 2) aNil))))
    (sSeq (sIf (mNot (asT (eMeth "Playing" "is_over" f_Playing_is_over (eOp ixA (eFn f_played (aCons (eVar 0) (aCons (eVar 1) (aCons (eVar 2) aNil)))) (eC (.int 1))) aNil))) (sRaiseF "BadChart" "fault" (aCons (eC (.str "order")) aNil)) sPass)
    (sRet (eVar 2)))))
noncomputable def f_checked_chart : Fn := fnM 3 3 m_checked_chart
theorem sc_checked_chart : FnScope ["hands", "manner", "thing"] ["hands", "manner", "thing"] (defScope (top 30)) := ⟨rfl, rfl, rfl, by decide +kernel, rfl, by decide +kernel, by decide +kernel⟩
theorem fn_checked_chart (T : Tx P K mg) {fd : FuncData} (F : FunD K "checked_chart" "checked_chart" (defArgs (top 30)) (defBody (top 30)) (defScope (top 30)) [] [] (He.ga K "checked_chart") fd) : FnOk P w K mg base (L2.CX P w) 8 (He.ga K "checked_chart") fd ["hands", "manner", "thing"] (spM K f_checked_chart) := by
  obtain ⟨fd_Playing_is_over, ps_Playing_is_over, F_Playing_is_over, kp_Playing_is_over, b_Playing_is_over⟩ := (ok_Playing_is_over (P := P) (w := w) (base := base) T).ex
  obtain ⟨fd_check_manner, ps_check_manner, F_check_manner, kp_check_manner, b_check_manner⟩ := (ok_check_manner (P := P) (w := w) (base := base) T).ex
  obtain ⟨fd_checked_rows, ps_checked_rows, F_checked_rows, kp_checked_rows, b_checked_rows⟩ := (ok_checked_rows (P := P) (w := w) (base := base) T).ex
  obtain ⟨fd_played, ps_played, F_played, kp_played, b_played⟩ := (ok_played (P := P) (w := w) (base := base) T).ex
  refine fn_ok F sc_checked_chart fun cdv A outer s H E hr tk => ?_
  have hN := sc_checked_chart.nd
  exact (rss_cons (rs_expr (re_call F_check_manner (hr.mono (by decide)) T.g_check_manner kp_check_manner b_check_manner tk (ra_cons (re_var (i := 0)) (ra_cons (re_var (i := 1)) ra_nil))))
    (rss_cons (rs_expr (re_call F_checked_rows (hr.mono (by decide)) T.g_checked_rows kp_checked_rows b_checked_rows tk (ra_cons (re_var (i := 0)) (ra_cons (re_var (i := 2)) ra_nil))))
    (rss_cons (rs_if (rt_not (rt_truth (re_meth0 T.c_Playing T.m_Playing_is_over F_Playing_is_over (hr.mono (by decide)) b_Playing_is_over (re_ix hr.u1 (re_call F_played (hr.mono (by decide)) T.g_played kp_played b_played tk (ra_cons (re_var (i := 0)) (ra_cons (re_var (i := 1)) (ra_cons (re_var (i := 2)) ra_nil)))) re_int)))) (rss_one (rs_raiseF rfl tk (pmk_BadChart T.r_BadChart (hr.mono (by decide)) (ra_cons re_str ra_nil)))) rss_nil)
    (rss_one (rs_ret (re_var (i := 2)))))))
theorem bi_checked_chart {fd : FuncData} (F : FunD K "checked_chart" "checked_chart" (defArgs (top 30)) (defBody (top 30)) (defScope (top 30)) [] [] (He.ga K "checked_chart") fd) : Binds K fd ["hands", "manner", "thing"] [] := F.bindsN fun _ _ _ _ _ _ us hl => match us, hl with | [_, _, _], _ => rfl
theorem ok_checked_chart (T : Tx P K mg) : OkF P w K mg base 8 (He.ga K "checked_chart") f_checked_chart := by
  obtain ⟨fd, F⟩ := T.d_checked_chart
  exact ⟨fd, _, fn_checked_chart T F, F.kp, bi_checked_chart F⟩
noncomputable def m_is_chart : SM := (sSeq (sTry sub76 (sExpr (eFn f_checked_chart (aCons (eVar 0) (aCons (eVar 1) (aCons (eVar 2) aNil))))) (sRet (eC (.bl false))))
    (sRet (eC (.bl true))))
noncomputable def f_is_chart : Fn := fnM 3 3 m_is_chart
theorem sc_is_chart : FnScope ["hands", "manner", "thing"] ["hands", "manner", "thing"] (defScope (top 31)) := ⟨rfl, rfl, rfl, by decide +kernel, rfl, by decide +kernel, by decide +kernel⟩
theorem fn_is_chart (T : Tx P K mg) {fd : FuncData} (F : FunD K "is_chart" "is_chart" (defArgs (top 31)) (defBody (top 31)) (defScope (top 31)) [] [] (He.ga K "is_chart") fd) : FnOk P w K mg base (L2.CX P w) 9 (He.ga K "is_chart") fd ["hands", "manner", "thing"] (spM K f_is_chart) := by
  obtain ⟨fd_checked_chart, ps_checked_chart, F_checked_chart, kp_checked_chart, b_checked_chart⟩ := (ok_checked_chart (P := P) (w := w) (base := base) T).ex
  refine fn_ok F sc_is_chart fun cdv A outer s H E hr tk => ?_
  have hN := sc_is_chart.nd
  exact (rss_cons (rs_try2 (sub := sub76) rfl rfl T.g_BadChart T.g_TooLarge T.e_sub tk ⟨fun W pn xe tk2 _ => (rss_one (rs_expr (re_call F_checked_chart (hr.mono (by decide)) T.g_checked_chart kp_checked_chart b_checked_chart tk2 (ra_cons (re_var (i := 0)) (ra_cons (re_var (i := 1)) (ra_cons (re_var (i := 2)) ra_nil))))))⟩ ⟨fun _ _ => (rss_one (rs_ret re_bl))⟩)
    (rss_one (rs_ret re_bl)))
theorem bi_is_chart {fd : FuncData} (F : FunD K "is_chart" "is_chart" (defArgs (top 31)) (defBody (top 31)) (defScope (top 31)) [] [] (He.ga K "is_chart") fd) : Binds K fd ["hands", "manner", "thing"] [] := F.bindsN fun _ _ _ _ _ _ us hl => match us, hl with | [_, _, _], _ => rfl
theorem ok_is_chart (T : Tx P K mg) : OkF P w K mg base 9 (He.ga K "is_chart") f_is_chart := by
  obtain ⟨fd, F⟩ := T.d_is_chart
  exact ⟨fd, _, fn_is_chart T F, F.kp, bi_is_chart F⟩
noncomputable def m__law_alike : SM := (sRet (eAndB (eOp (eqA false) (eCall reprA (aCons (eVar 0) aNil)) (eCall reprA (aCons (eVar 1) aNil))) (eOp (eqA false) (eVar 0) (eVar 1))))
noncomputable def f__law_alike : Fn := fnM 2 2 m__law_alike
theorem sc__law_alike : FnScope ["found", "due"] ["found", "due"] (defScope (top 52)) := ⟨rfl, rfl, rfl, by decide +kernel, rfl, by decide +kernel, by decide +kernel⟩
theorem fn__law_alike (T : Tx P K mg) {fd : FuncData} (F : FunD K "_law_alike" "_law_alike" (defArgs (top 52)) (defBody (top 52)) (defScope (top 52)) [] [] (He.ga K "_law_alike") fd) : FnG P w K mg base (L2.CX P w) 1 (He.ga K "_law_alike") fd ["found", "due"] (spM K f__law_alike) := by
  refine fn_okG F sc__law_alike fun cdv A outer s H E hgd hr tk => ?_
  have hN := sc__law_alike.nd
  exact (rss_one (rs_ret (re_and (re_cmp (op_eqS hr.units) (re_callB (call_reprS hgd hr.u80) (ra_cons (re_var (i := 0)) ra_nil) bt_repr T.b_repr) (re_callB (call_reprS hgd hr.u80) (ra_cons (re_var (i := 1)) ra_nil) bt_repr T.b_repr) rfl) (re_one (re_cmp (op_eqS hr.units) (re_var (i := 0)) (re_var (i := 1)) rfl)))))
theorem bi__law_alike {fd : FuncData} (F : FunD K "_law_alike" "_law_alike" (defArgs (top 52)) (defBody (top 52)) (defScope (top 52)) [] [] (He.ga K "_law_alike") fd) : Binds K fd ["found", "due"] [] := F.bindsN fun _ _ _ _ _ _ us hl => match us, hl with | [_, _], _ => rfl
theorem ok__law_alike (T : Tx P K mg) : OkG P w K mg base 1 (He.ga K "_law_alike") f__law_alike := by
  obtain ⟨fd, F⟩ := T.d__law_alike
  exact ⟨fd, _, fn__law_alike T F, F.kp, bi__law_alike F⟩
noncomputable def m_stopped_at : SM := (sSeq (sExpr (eFn f_check_manner (aCons (eVar 0) (aCons (eVar 1) aNil))))
    (sSeq (sSet 3 (eOp ixA (eFn f_played (aCons (eVar 0) (aCons (eVar 1) (aCons (eFn f_checked_rows (aCons (eVar 0) (aCons (eVar 2) aNil))) aNil)))) (eC (.int 1))))
    (sRet (eIf (asT (eMeth "Playing" "is_over" f_Playing_is_over (eVar 3) aNil)) (eC .non) (eCall (tupleA false) (aCons (eFld "Playing" "stand" (eVar 3)) aNil))))))
noncomputable def f_stopped_at : Fn := fnM 3 4 m_stopped_at
theorem sc_stopped_at : FnScope ["hands", "manner", "rows", "playing"] ["hands", "manner", "rows"] (defScope (top 38)) := ⟨rfl, rfl, rfl, by decide +kernel, rfl, by decide +kernel, by decide +kernel⟩
theorem fn_stopped_at (T : Tx P K mg) {fd : FuncData} (F : FunD K "stopped_at" "stopped_at" (defArgs (top 38)) (defBody (top 38)) (defScope (top 38)) [] [] (He.ga K "stopped_at") fd) : FnOk P w K mg base (L2.CX P w) 8 (He.ga K "stopped_at") fd ["hands", "manner", "rows"] (spM K f_stopped_at) := by
  obtain ⟨fd_Playing_is_over, ps_Playing_is_over, F_Playing_is_over, kp_Playing_is_over, b_Playing_is_over⟩ := (ok_Playing_is_over (P := P) (w := w) (base := base) T).ex
  obtain ⟨fd_check_manner, ps_check_manner, F_check_manner, kp_check_manner, b_check_manner⟩ := (ok_check_manner (P := P) (w := w) (base := base) T).ex
  obtain ⟨fd_checked_rows, ps_checked_rows, F_checked_rows, kp_checked_rows, b_checked_rows⟩ := (ok_checked_rows (P := P) (w := w) (base := base) T).ex
  obtain ⟨fd_played, ps_played, F_played, kp_played, b_played⟩ := (ok_played (P := P) (w := w) (base := base) T).ex
  refine fn_ok F sc_stopped_at fun cdv A outer s H E hr tk => ?_
  have hN := sc_stopped_at.nd
  exact (rss_cons (rs_expr (re_call F_check_manner (hr.mono (by decide)) T.g_check_manner kp_check_manner b_check_manner tk (ra_cons (re_var (i := 0)) (ra_cons (re_var (i := 1)) ra_nil))))
    (rss_cons (rs_set (i := 3) hN (re_ix hr.u1 (re_call F_played (hr.mono (by decide)) T.g_played kp_played b_played tk (ra_cons (re_var (i := 0)) (ra_cons (re_var (i := 1)) (ra_cons (re_call F_checked_rows (hr.mono (by decide)) T.g_checked_rows kp_checked_rows b_checked_rows tk (ra_cons (re_var (i := 0)) (ra_cons (re_var (i := 2)) ra_nil))) ra_nil)))) re_int))
    (rss_one (rs_ret (re_if (rt_truth (re_meth0 T.c_Playing T.m_Playing_is_over F_Playing_is_over (hr.mono (by decide)) b_Playing_is_over (re_var (i := 3)))) re_non (re_callTy (call_tupleS (sg := false)) (ra_cons (re_fld T.c_Playing T.n_Playing_stand (re_var (i := 3))) ra_nil) bt_tuple T.b_tuple))))))
theorem bi_stopped_at {fd : FuncData} (F : FunD K "stopped_at" "stopped_at" (defArgs (top 38)) (defBody (top 38)) (defScope (top 38)) [] [] (He.ga K "stopped_at") fd) : Binds K fd ["hands", "manner", "rows"] [] := F.bindsN fun _ _ _ _ _ _ us hl => match us, hl with | [_, _, _], _ => rfl
theorem ok_stopped_at (T : Tx P K mg) : OkF P w K mg base 8 (He.ga K "stopped_at") f_stopped_at := by
  obtain ⟨fd, F⟩ := T.d_stopped_at
  exact ⟨fd, _, fn_stopped_at T F, F.kp, bi_stopped_at F⟩
noncomputable def m__law_kept : SM := (sSeq (sFor (iRg (eCall lenA (aCons (eVar 0) aNil))) (.nm 2) (sFor (iRg (eCall lenA (aCons (eVar 0) aNil))) (.nm 3) (sSeq (sSet 4 (eLc (iT (eOp ixA (eVar 1) (eVar 2))) (.tp [6, 7, 8]) (asB (eOp (eqA false) (eTup (aCons (eVar 6) (aCons (eVar 7) aNil))) (eTup (aCons (eC (.str "give")) (aCons (eOp ixA (eVar 0) (eVar 3)) aNil))))) (eVar 8) [6, 7, 8]))
    (sSeq (sSet 5 (eLc (iT (eOp ixA (eVar 1) (eVar 3))) (.tp [6, 7, 8]) (asB (eOp (eqA false) (eTup (aCons (eVar 6) (aCons (eVar 7) aNil))) (eTup (aCons (eC (.str "take")) (aCons (eOp ixA (eVar 0) (eVar 2)) aNil))))) (eVar 8) [6, 7, 8]))
    (sIf (asB (eOp (eqA true) (eVar 4) (eVar 5))) (sRet (eC (.bl false))) sPass)))))
    (sRet (eC (.bl true))))
noncomputable def f__law_kept : Fn := fnM 2 9 m__law_kept
theorem sc__law_kept : FnScope ["hands", "rows", "h", "g", "given", "taken", "word", "other", "letter"] ["hands", "rows"] (defScope (top 62)) := ⟨rfl, rfl, rfl, by decide +kernel, rfl, by decide +kernel, by decide +kernel⟩
theorem fn__law_kept (T : Tx P K mg) {fd : FuncData} (F : FunD K "_law_kept" "_law_kept" (defArgs (top 62)) (defBody (top 62)) (defScope (top 62)) [] [] (He.ga K "_law_kept") fd) : FnOk P w K mg base (L2.CX P w) 1 (He.ga K "_law_kept") fd ["hands", "rows"] (spM K f__law_kept) := by
  refine fn_ok F sc__law_kept fun cdv A outer s H E hr tk => ?_
  have hN := sc__law_kept.nd
  exact (rss_cons (rs_for (passes_of rfl) rfl (ri_range (re_callB call_lenS (ra_cons (re_var (i := 0)) ra_nil) bt_len T.b_len) T.b_range) (pat_nm (i := 2) hN) (rss_one (rs_for (passes_of rfl) rfl (ri_range (re_callB call_lenS (ra_cons (re_var (i := 0)) ra_nil) bt_len T.b_len) T.b_range) (pat_nm (i := 3) hN) (rss_cons (rs_setLc (i := 4) rfl hN (ri_tup (re_ix hr.u1 (re_var (i := 1)) (re_var (i := 2)))) (own := [("word", 6), ("other", 7), ("letter", 8)]) (blkOk_by (by rfl)) (by decide) ⟨fun _ _ _ _ _ => ⟨(pat_tp (is := [6, 7, 8]) rfl (pats_cons (i := 6) hN (pats_cons (i := 7) hN (pats_cons (i := 8) hN pats_nil)))), (pts_oneS (rt_cmp (op_eqS hr.units) (re_tup (ra_cons (re_var (i := 6)) (ra_cons (re_var (i := 7)) ra_nil))) (re_tup (ra_cons re_str (ra_cons (re_ix hr.u1 (re_var (i := 0)) (re_var (i := 3))) ra_nil))) rfl)), (re_var (i := 8))⟩⟩ rfl)
    (rss_cons (rs_setLc (i := 5) rfl hN (ri_tup (re_ix hr.u1 (re_var (i := 1)) (re_var (i := 3)))) (own := [("word", 6), ("other", 7), ("letter", 8)]) (blkOk_by (by rfl)) (by decide) ⟨fun _ _ _ _ _ => ⟨(pat_tp (is := [6, 7, 8]) rfl (pats_cons (i := 6) hN (pats_cons (i := 7) hN (pats_cons (i := 8) hN pats_nil)))), (pts_oneS (rt_cmp (op_eqS hr.units) (re_tup (ra_cons (re_var (i := 6)) (ra_cons (re_var (i := 7)) ra_nil))) (re_tup (ra_cons re_str (ra_cons (re_ix hr.u1 (re_var (i := 0)) (re_var (i := 2))) ra_nil))) rfl)), (re_var (i := 8))⟩⟩ rfl)
    (rss_one (rs_if (rt_cmp (op_neS hr.units) (re_var (i := 4)) (re_var (i := 5)) rfl) (rss_one (rs_ret re_bl)) rss_nil)))))))
    (rss_one (rs_ret re_bl)))
theorem bi__law_kept {fd : FuncData} (F : FunD K "_law_kept" "_law_kept" (defArgs (top 62)) (defBody (top 62)) (defScope (top 62)) [] [] (He.ga K "_law_kept") fd) : Binds K fd ["hands", "rows"] [] := F.bindsN fun _ _ _ _ _ _ us hl => match us, hl with | [_, _], _ => rfl
theorem ok__law_kept (T : Tx P K mg) : OkF P w K mg base 1 (He.ga K "_law_kept") f__law_kept := by
  obtain ⟨fd, F⟩ := T.d__law_kept
  exact ⟨fd, _, fn__law_kept T F, F.kp, bi__law_kept F⟩
noncomputable def m_is_of_both : SM := (sRet (eAndB (eFn f_is_chart (aCons (eVar 0) (aCons (eC (.str "order")) (aCons (eVar 1) aNil)))) (eFn f_is_chart (aCons (eVar 0) (aCons (eC (.str "any")) (aCons (eVar 1) aNil))))))
noncomputable def f_is_of_both : Fn := fnM 2 2 m_is_of_both
theorem sc_is_of_both : FnScope ["hands", "chart"] ["hands", "chart"] (defScope (top 40)) := ⟨rfl, rfl, rfl, by decide +kernel, rfl, by decide +kernel, by decide +kernel⟩
theorem fn_is_of_both (T : Tx P K mg) {fd : FuncData} (F : FunD K "is_of_both" "is_of_both" (defArgs (top 40)) (defBody (top 40)) (defScope (top 40)) [] [] (He.ga K "is_of_both") fd) : FnOk P w K mg base (L2.CX P w) 10 (He.ga K "is_of_both") fd ["hands", "chart"] (spM K f_is_of_both) := by
  obtain ⟨fd_is_chart, ps_is_chart, F_is_chart, kp_is_chart, b_is_chart⟩ := (ok_is_chart (P := P) (w := w) (base := base) T).ex
  refine fn_ok F sc_is_of_both fun cdv A outer s H E hr tk => ?_
  have hN := sc_is_of_both.nd
  exact (rss_one (rs_ret (re_and (re_call F_is_chart (hr.mono (by decide)) T.g_is_chart kp_is_chart b_is_chart tk (ra_cons (re_var (i := 0)) (ra_cons re_str (ra_cons (re_var (i := 1)) ra_nil)))) (re_one (re_call F_is_chart (hr.mono (by decide)) T.g_is_chart kp_is_chart b_is_chart tk (ra_cons (re_var (i := 0)) (ra_cons re_str (ra_cons (re_var (i := 1)) ra_nil))))))))
theorem bi_is_of_both {fd : FuncData} (F : FunD K "is_of_both" "is_of_both" (defArgs (top 40)) (defBody (top 40)) (defScope (top 40)) [] [] (He.ga K "is_of_both") fd) : Binds K fd ["hands", "chart"] [] := F.bindsN fun _ _ _ _ _ _ us hl => match us, hl with | [_, _], _ => rfl
theorem ok_is_of_both (T : Tx P K mg) : OkF P w K mg base 10 (He.ga K "is_of_both") f_is_of_both := by
  obtain ⟨fd, F⟩ := T.d_is_of_both
  exact ⟨fd, _, fn_is_of_both T F, F.kp, bi_is_of_both F⟩
noncomputable def m_unlike_takes : SM := (sSeq (sExpr (eFn f_check_hands (aCons (eVar 0) aNil)))
    (sSeq (sExpr (eFn f_checked_chart (aCons (eVar 0) (aCons (eC (.str "any")) (aCons (eVar 1) aNil)))))
    (sSeq (sPar2 2 3 (aCons (eMake "Playing" f_Playing___init__ (aCons (eVar 0) (aCons (eC (.str "any")) (aCons (eVar 1) aNil)))) (aCons (eLstR aNil) aNil)))
    (sSeq (sSet 4 (eMeth "Playing" "ready" f_Playing_ready (eVar 2) aNil))
    (sSeq (sWh 1000 (asB (eOp (eqA true) (eVar 4) (eLst aNil))) (sSeq (sAsg (gTp 3 (gsCons (gNm 5) (gsCons (gNm 6) (gsCons (gNm 7) gsNil)))) (eMeth "Playing" "next_event" f_Playing_next_event (eVar 2) (aCons (eOp ixA (eVar 4) (eC (.int 0))) aNil)))
    (sSeq (sIf (mAnd (asB (eOp (eqA false) (eVar 5) (eC (.str "take")))) (asB (eOp (eqA true) (eOp ixA (eOp ixA (eFld "Playing" "lying" (eVar 2)) (eTup (aCons (eVar 6) (aCons (eOp ixA (eVar 0) (eOp ixA (eVar 4) (eC (.int 0)))) aNil)))) (eC (.int 0))) (eVar 7)))) (sExpr (eBMT "list" appendA (eVar 3) (aCons (eTup (aCons (eOp ixA (eVar 4) (eC (.int 0))) (aCons (eOp ixA (eFld "Playing" "stand" (eVar 2)) (eOp ixA (eVar 4) (eC (.int 0)))) aNil))) aNil))) sPass)
    (sSeq (sExpr (eMeth "Playing" "go" f_Playing_go (eVar 2) (aCons (eOp ixA (eVar 4) (eC (.int 0))) aNil)))
    (sSet 4 (eMeth "Playing" "ready" f_Playing_ready (eVar 2) aNil))))))
    (sRet (eCall (tupleA false) (aCons (eCall sortedA (aCons (eVar 3) aNil)) aNil))))))))
noncomputable def f_unlike_takes : Fn := fnM 2 8 m_unlike_takes
theorem sc_unlike_takes : FnScope ["hands", "chart", "playing", "found", "ready", "word", "other", "letter"] ["hands", "chart"] (defScope (top 41)) := ⟨rfl, rfl, rfl, by decide +kernel, rfl, by decide +kernel, by decide +kernel⟩
theorem fn_unlike_takes (T : Tx P K mg) {fd : FuncData} (F : FunD K "unlike_takes" "unlike_takes" (defArgs (top 41)) (defBody (top 41)) (defScope (top 41)) [] [] (He.ga K "unlike_takes") fd) : FnOk P w K mg base (L2.CX P w) 10 (He.ga K "unlike_takes") fd ["hands", "chart"] (spM K f_unlike_takes) := by
  obtain ⟨fd_Playing___init__, ps_Playing___init__, F_Playing___init__, kp_Playing___init__, b_Playing___init__⟩ := (ok_Playing___init__ (P := P) (w := w) (base := base) T).ex
  obtain ⟨fd_Playing_go, ps_Playing_go, F_Playing_go, kp_Playing_go, b_Playing_go⟩ := (ok_Playing_go (P := P) (w := w) (base := base) T).ex
  obtain ⟨fd_Playing_next_event, ps_Playing_next_event, F_Playing_next_event, kp_Playing_next_event, b_Playing_next_event⟩ := (ok_Playing_next_event (P := P) (w := w) (base := base) T).ex
  obtain ⟨fd_Playing_ready, ps_Playing_ready, F_Playing_ready, kp_Playing_ready, b_Playing_ready⟩ := (ok_Playing_ready (P := P) (w := w) (base := base) T).ex
  obtain ⟨fd_check_hands, ps_check_hands, F_check_hands, kp_check_hands, b_check_hands⟩ := (ok_check_hands (P := P) (w := w) (base := base) T).ex
  obtain ⟨fd_checked_chart, ps_checked_chart, F_checked_chart, kp_checked_chart, b_checked_chart⟩ := (ok_checked_chart (P := P) (w := w) (base := base) T).ex
  refine fn_ok F sc_unlike_takes fun cdv A outer s H E hr tk => ?_
  have hN := sc_unlike_takes.nd
  exact (rss_cons (rs_expr (re_call F_check_hands (hr.mono (by decide)) T.g_check_hands kp_check_hands b_check_hands tk (ra_cons (re_var (i := 0)) ra_nil)))
    (rss_cons (rs_expr (re_call F_checked_chart (hr.mono (by decide)) T.g_checked_chart kp_checked_chart b_checked_chart tk (ra_cons (re_var (i := 0)) (ra_cons re_str (ra_cons (re_var (i := 1)) ra_nil)))))
    (rss_cons (rs_par (i := 2) (j := 3) rfl hN (ra_cons (re_make T.mk_Playing F_Playing___init__ (hr.mono (by decide)) T.g_Playing b_Playing___init__ (ra_cons (re_var (i := 0)) (ra_cons re_str (ra_cons (re_var (i := 1)) ra_nil)))) (ra_cons (re_lstR ra_nil) ra_nil)))
    (rss_cons (rs_set (i := 4) hN (re_meth0 T.c_Playing T.m_Playing_ready F_Playing_ready (hr.mono (by decide)) b_Playing_ready (re_var (i := 2))))
    (rss_cons (rs_while (n := 1000) (passes_of rfl) (rt_cmp (op_neS hr.units) (re_var (i := 4)) (re_lst ra_nil) rfl) (rss_cons (rs_asg (re_meth T.c_Playing T.m_Playing_next_event F_Playing_next_event (hr.mono (by decide)) b_Playing_next_event (re_var (i := 2)) (ra_cons (re_ix hr.u1 (re_var (i := 4)) re_int) ra_nil)) (rg_tup rfl (rgs_cons (rg_name (i := 5) hN) (rgs_cons (rg_name (i := 6) hN) (rgs_cons (rg_name (i := 7) hN) rgs_nil)))))
    (rss_cons (rs_if (rt_bool (rw_and (rt_cmp (op_eqS hr.units) (re_var (i := 5)) re_str rfl) (rw_and1 (rt_cmp (op_neS hr.units) (re_ix hr.u1 (re_ix hr.u1 (re_fld T.c_Playing T.n_Playing_lying (re_var (i := 2))) (re_tup (ra_cons (re_var (i := 6)) (ra_cons (re_ix hr.u1 (re_var (i := 0)) (re_ix hr.u1 (re_var (i := 4)) re_int)) ra_nil)))) re_int) (re_var (i := 7)) rfl)))) (rss_one (rs_expr (re_bm PySem.F.plainAttrs_list PySem.F.slot_list_append PySem.F.type_list_append mt_appendS (re_var (i := 3)) (ra_cons (re_tup (ra_cons (re_ix hr.u1 (re_var (i := 4)) re_int) (ra_cons (re_ix hr.u1 (re_fld T.c_Playing T.n_Playing_stand (re_var (i := 2))) (re_ix hr.u1 (re_var (i := 4)) re_int)) ra_nil))) ra_nil)))) rss_nil)
    (rss_cons (rs_expr (re_meth T.c_Playing T.m_Playing_go F_Playing_go (hr.mono (by decide)) b_Playing_go (re_var (i := 2)) (ra_cons (re_ix hr.u1 (re_var (i := 4)) re_int) ra_nil)))
    (rss_one (rs_set (i := 4) hN (re_meth0 T.c_Playing T.m_Playing_ready F_Playing_ready (hr.mono (by decide)) b_Playing_ready (re_var (i := 2)))))))))
    (rss_one (rs_ret (re_callTy (call_tupleS (sg := false)) (ra_cons (re_callB (call_sortedS hr.u80) (ra_cons (re_var (i := 3)) ra_nil) bt_sorted T.b_sorted) ra_nil) bt_tuple T.b_tuple))))))))
theorem bi_unlike_takes {fd : FuncData} (F : FunD K "unlike_takes" "unlike_takes" (defArgs (top 41)) (defBody (top 41)) (defScope (top 41)) [] [] (He.ga K "unlike_takes") fd) : Binds K fd ["hands", "chart"] [] := F.bindsN fun _ _ _ _ _ _ us hl => match us, hl with | [_, _], _ => rfl
theorem ok_unlike_takes (T : Tx P K mg) : OkF P w K mg base 10 (He.ga K "unlike_takes") f_unlike_takes := by
  obtain ⟨fd, F⟩ := T.d_unlike_takes
  exact ⟨fd, _, fn_unlike_takes T F, F.kp, bi_unlike_takes F⟩
noncomputable def m__law_headed : SM := (sSeq (sAsg (gTp 2 (gsCons (gNm 2) (gsCons (gNm 3) gsNil))) (eFn f__law_greedy (aCons (eVar 0) (aCons (eC (.str "any")) (aCons (eVar 1) aNil)))))
    (sSeq (sFor (iEn true (aCons (eVar 2) aNil)) (.tp [4, 5]) (sSeq (sSet 6 (eLc (iRg (eCall lenA (aCons (eVar 0) aNil))) (.nm 10) yesM (eTM countA (eSl (eVar 2) oNone (oSome (eVar 4))) (aCons (eVar 10) aNil)) [10]))
    (sSeq (sSet 7 (eOp ixA (eOp ixA (eVar 1) (eVar 5)) (eOp ixA (eVar 6) (eVar 5))))
    (sIf (asB (eOp (eqA false) (eOp ixA (eVar 7) (eC (.int 0))) (eC (.str "take")))) (sSeq (sSet 8 (eFn f__law_lying (aCons (eVar 0) (aCons (eC (.str "any")) (aCons (eCall (tupleA false) (aCons (eLc (iZip true false (aCons (eVar 1) (aCons (eVar 6) aNil))) (.tp [14, 15]) yesM (eSl (eVar 14) oNone (oSome (eVar 15))) [14, 15]) aNil)) aNil)))))
    (sSeq (sSet 9 (eLc (iL (eVar 8)) (.tp [11, 12, 13]) (asB (eOp (eqA false) (eTup (aCons (eVar 11) (aCons (eVar 12) aNil))) (eTup (aCons (eOp ixA (eVar 7) (eC (.int 1))) (aCons (eOp ixA (eVar 0) (eVar 5)) aNil))))) (eVar 13) [11, 12, 13]))
    (sIf (mOr (asB (eOp (eqA false) (eVar 9) (eLst aNil))) (asB (eOp (eqA true) (eOp ixA (eOp ixA (eVar 9) (eC (.int 0))) (eC (.int 0))) (eOp ixA (eVar 7) (eC (.int 2)))))) (sRet (eC (.bl false))) sPass))) sPass))))
    (sRet (eC (.bl true)))))
noncomputable def f__law_headed : Fn := fnM 2 16 m__law_headed
theorem sc__law_headed : FnScope ["hands", "rows", "order", "stand", "many", "h", "done", "event", "queues", "letters", "g", "one", "other", "its", "row", "k"] ["hands", "rows"] (defScope (top 63)) := ⟨rfl, rfl, rfl, by decide +kernel, rfl, by decide +kernel, by decide +kernel⟩
theorem fn__law_headed (T : Tx P K mg) {fd : FuncData} (F : FunD K "_law_headed" "_law_headed" (defArgs (top 63)) (defBody (top 63)) (defScope (top 63)) [] [] (He.ga K "_law_headed") fd) : FnOk P w K mg base (L2.CX P w) 4 (He.ga K "_law_headed") fd ["hands", "rows"] (spM K f__law_headed) := by
  obtain ⟨fd__law_greedy, ps__law_greedy, F__law_greedy, kp__law_greedy, b__law_greedy⟩ := (ok__law_greedy (P := P) (w := w) (base := base) T).ex
  obtain ⟨fd__law_lying, ps__law_lying, F__law_lying, kp__law_lying, b__law_lying⟩ := (ok__law_lying (P := P) (w := w) (base := base) T).ex
  refine fn_ok F sc__law_headed fun cdv A outer s H E hr tk => ?_
  have hN := sc__law_headed.nd
  exact (rss_cons (rs_asg (re_call F__law_greedy (hr.mono (by decide)) T.g__law_greedy kp__law_greedy b__law_greedy tk (ra_cons (re_var (i := 0)) (ra_cons re_str (ra_cons (re_var (i := 1)) ra_nil)))) (rg_tup rfl (rgs_cons (rg_name (i := 2) hN) (rgs_cons (rg_name (i := 3) hN) rgs_nil))))
    (rss_cons (rs_for (passes_of rfl) rfl (ri_enumT (ra_cons (re_var (i := 2)) ra_nil) T.b_enumerate) (pat_tp (is := [4, 5]) rfl (pats_cons (i := 4) hN (pats_cons (i := 5) hN pats_nil))) (rss_cons (rs_setLc (i := 6) rfl hN (ri_range (re_callB call_lenS (ra_cons (re_var (i := 0)) ra_nil) bt_len T.b_len) T.b_range) (own := [("g", 10)]) (blkOk_by (by rfl)) (by decide) ⟨fun _ _ _ _ _ => ⟨(pat_nm (i := 10) hN), pts_nilS, (re_tm PySem.F.slot_tuple_count PySem.F.type_tuple_count (mt_tcountS hr.units) (re_sl (re_var (i := 2)) ro_none (ro_some (re_var (i := 4)))) (ra_cons (re_var (i := 10)) ra_nil))⟩⟩ rfl)
    (rss_cons (rs_set (i := 7) hN (re_ix hr.u1 (re_ix hr.u1 (re_var (i := 1)) (re_var (i := 5))) (re_ix hr.u1 (re_var (i := 6)) (re_var (i := 5)))))
    (rss_one (rs_if (rt_cmp (op_eqS hr.units) (re_ix hr.u1 (re_var (i := 7)) re_int) re_str rfl) (rss_cons (rs_set (i := 8) hN (re_call F__law_lying (hr.mono (by decide)) T.g__law_lying kp__law_lying b__law_lying tk (ra_cons (re_var (i := 0)) (ra_cons re_str (ra_cons (re_callTy (call_tupleS (sg := false)) (ra_cons (re_lc rfl hN (ri_zip (ra_cons (re_var (i := 1)) (ra_cons (re_var (i := 6)) ra_nil)) T.b_zip) (own := [("row", 14), ("k", 15)]) (blkOk_by (by rfl)) (by decide) ⟨fun _ _ _ _ _ => ⟨(pat_tp (is := [14, 15]) rfl (pats_cons (i := 14) hN (pats_cons (i := 15) hN pats_nil))), pts_nilS, (re_sl (re_var (i := 14)) ro_none (ro_some (re_var (i := 15))))⟩⟩) ra_nil) bt_tuple T.b_tuple) ra_nil)))))
    (rss_cons (rs_setLc (i := 9) rfl hN (ri_list (re_var (i := 8))) (own := [("one", 11), ("other", 12), ("its", 13)]) (blkOk_by (by rfl)) (by decide) ⟨fun _ _ _ _ _ => ⟨(pat_tp (is := [11, 12, 13]) rfl (pats_cons (i := 11) hN (pats_cons (i := 12) hN (pats_cons (i := 13) hN pats_nil)))), (pts_oneS (rt_cmp (op_eqS hr.units) (re_tup (ra_cons (re_var (i := 11)) (ra_cons (re_var (i := 12)) ra_nil))) (re_tup (ra_cons (re_ix hr.u1 (re_var (i := 7)) re_int) (ra_cons (re_ix hr.u1 (re_var (i := 0)) (re_var (i := 5))) ra_nil))) rfl)), (re_var (i := 13))⟩⟩ rfl)
    (rss_one (rs_if (rt_bool (rw_or (rt_cmp (op_eqS hr.units) (re_var (i := 9)) (re_lst ra_nil) rfl) (rw_or1 (rt_cmp (op_neS hr.units) (re_ix hr.u1 (re_ix hr.u1 (re_var (i := 9)) re_int) re_int) (re_ix hr.u1 (re_var (i := 7)) re_int) rfl)))) (rss_one (rs_ret re_bl)) rss_nil)))) rss_nil)))))
    (rss_one (rs_ret re_bl))))
theorem bi__law_headed {fd : FuncData} (F : FunD K "_law_headed" "_law_headed" (defArgs (top 63)) (defBody (top 63)) (defScope (top 63)) [] [] (He.ga K "_law_headed") fd) : Binds K fd ["hands", "rows"] [] := F.bindsN fun _ _ _ _ _ _ us hl => match us, hl with | [_, _], _ => rfl
theorem ok__law_headed (T : Tx P K mg) : OkF P w K mg base 4 (He.ga K "_law_headed") f__law_headed := by
  obtain ⟨fd, F⟩ := T.d__law_headed
  exact ⟨fd, _, fn__law_headed T F, F.kp, bi__law_headed F⟩
noncomputable def m_is_tuple_of_of_is_rows : SM := (sRet (eAndB (eIsi .tup (eVar 0)) (eCall allA (aCons (eLc (iT (eVar 0)) (.nm 2) yesM (eCallA 1 [("is_rows", f_is_rows)] (aCons (eVar 2) aNil)) [2]) aNil))))
noncomputable def f_is_tuple_of_of_is_rows : Fn := fnM 2 3 m_is_tuple_of_of_is_rows
theorem sc_is_tuple_of_of_is_rows : FnScope ["thing", "is_one", "one"] ["thing", "is_one"] (defScope (top 16)) := ⟨rfl, rfl, rfl, by decide +kernel, rfl, by decide +kernel, by decide +kernel⟩
theorem fn_is_tuple_of_of_is_rows (T : Tx P K mg) {fd : FuncData} (F : FunD K "is_tuple_of" "is_tuple_of" (defArgs (top 16)) (defBody (top 16)) (defScope (top 16)) [] [] (He.ga K "is_tuple_of") fd) : FnOk P w K mg base (L2.CX P w) 7 (He.ga K "is_tuple_of") fd ["thing", "is_one"] (spM K f_is_tuple_of_of_is_rows) := by
  have H_is_rows := ok_is_rows (P := P) (w := w) (base := base) T
  obtain ⟨fd_is_rows, ps_is_rows, F_is_rows, kp_is_rows, b_is_rows⟩ := (ok_is_rows (P := P) (w := w) (base := base) T).ex
  refine fn_ok F sc_is_tuple_of_of_is_rows fun cdv A outer s H E hr tk => ?_
  have hN := sc_is_tuple_of_of_is_rows.nd
  exact (rss_one (rs_ret (re_and (re_isi (T := .tup) (re_var (i := 0)) T.b_isinstance T.b_tuple) (re_one (re_callB (call_allS rfl) (ra_cons (re_lc rfl hN (ri_tup (re_var (i := 0))) (own := [("one", 2)]) (blkOk_by (by rfl)) (by decide) ⟨fun _ _ _ _ _ => ⟨(pat_nm (i := 2) hN), pts_nilS, (re_callA (k := 6) (i := 1) (T := [("is_rows", f_is_rows)]) (held1 H_is_rows) (hr.mono (by decide)) (ra_cons (re_var (i := 2)) ra_nil))⟩⟩) ra_nil) bt_all T.b_all)))))
theorem bi_is_tuple_of_of_is_rows {fd : FuncData} (F : FunD K "is_tuple_of" "is_tuple_of" (defArgs (top 16)) (defBody (top 16)) (defScope (top 16)) [] [] (He.ga K "is_tuple_of") fd) : Binds K fd ["thing", "is_one"] [] := F.bindsN fun _ _ _ _ _ _ us hl => match us, hl with | [_, _], _ => rfl
theorem ok_is_tuple_of_of_is_rows (T : Tx P K mg) : OkF P w K mg base 7 (He.ga K "is_tuple_of") f_is_tuple_of_of_is_rows := by
  obtain ⟨fd, F⟩ := T.d_is_tuple_of
  exact ⟨fd, _, fn_is_tuple_of_of_is_rows T F, F.kp, bi_is_tuple_of_of_is_rows F⟩
noncomputable def m_is_lot_form : SM := (sSeq (sIf (mOr (mNot (asT (eFn f_is_sized (aCons (eVar 0) (aCons (eC (.int 3)) aNil))))) (mOr (mNot (asT (eFn f_is_hands (aCons (eOp ixA (eVar 0) (eC (.int 0))) aNil)))) (mNot (asT (eIsi .str (eOp ixA (eVar 0) (eC (.int 1)))))))) (sRet (eC (.bl false))) sPass)
    (sRet (eFn f_is_tuple_of_of_is_rows (aCons (eOp ixA (eVar 0) (eC (.int 2))) (aCons (eC (.fn "is_rows")) aNil)))))
noncomputable def f_is_lot_form : Fn := fnM 1 1 m_is_lot_form
theorem sc_is_lot_form : FnScope ["thing"] ["thing"] (defScope (top 34)) := ⟨rfl, rfl, rfl, by decide +kernel, rfl, by decide +kernel, by decide +kernel⟩
theorem fn_is_lot_form (T : Tx P K mg) {fd : FuncData} (F : FunD K "is_lot_form" "is_lot_form" (defArgs (top 34)) (defBody (top 34)) (defScope (top 34)) [] [] (He.ga K "is_lot_form") fd) : FnOk P w K mg base (L2.CX P w) 8 (He.ga K "is_lot_form") fd ["thing"] (spM K f_is_lot_form) := by
  obtain ⟨fd_is_hands, ps_is_hands, F_is_hands, kp_is_hands, b_is_hands⟩ := (ok_is_hands (P := P) (w := w) (base := base) T).ex
  obtain ⟨fd_is_sized, ps_is_sized, F_is_sized, kp_is_sized, b_is_sized⟩ := (ok_is_sized (P := P) (w := w) (base := base) T).ex
  obtain ⟨fd_is_tuple_of_of_is_rows, ps_is_tuple_of_of_is_rows, F_is_tuple_of_of_is_rows, kp_is_tuple_of_of_is_rows, b_is_tuple_of_of_is_rows⟩ := (ok_is_tuple_of_of_is_rows (P := P) (w := w) (base := base) T).ex
  refine fn_ok F sc_is_lot_form fun cdv A outer s H E hr tk => ?_
  have hN := sc_is_lot_form.nd
  exact (rss_cons (rs_if (rt_bool (rw_or (rt_not (rt_truth (re_call F_is_sized (hr.mono (by decide)) T.g_is_sized kp_is_sized b_is_sized tk (ra_cons (re_var (i := 0)) (ra_cons re_int ra_nil))))) (rw_or (rt_not (rt_truth (re_call F_is_hands (hr.mono (by decide)) T.g_is_hands kp_is_hands b_is_hands tk (ra_cons (re_ix hr.u1 (re_var (i := 0)) re_int) ra_nil)))) (rw_or1 (rt_not (rt_truth (re_isi (T := .str) (re_ix hr.u1 (re_var (i := 0)) re_int) T.b_isinstance T.b_str))))))) (rss_one (rs_ret re_bl)) rss_nil)
    (rss_one (rs_ret (re_call F_is_tuple_of_of_is_rows (hr.mono (by decide)) T.g_is_tuple_of kp_is_tuple_of_of_is_rows b_is_tuple_of_of_is_rows tk (ra_cons (re_ix hr.u1 (re_var (i := 0)) re_int) (ra_cons (re_fn T.g_is_rows) ra_nil))))))
theorem bi_is_lot_form {fd : FuncData} (F : FunD K "is_lot_form" "is_lot_form" (defArgs (top 34)) (defBody (top 34)) (defScope (top 34)) [] [] (He.ga K "is_lot_form") fd) : Binds K fd ["thing"] [] := F.bindsN fun _ _ _ _ _ _ us hl => match us, hl with | [_], _ => rfl
theorem ok_is_lot_form (T : Tx P K mg) : OkF P w K mg base 8 (He.ga K "is_lot_form") f_is_lot_form := by
  obtain ⟨fd, F⟩ := T.d_is_lot_form
  exact ⟨fd, _, fn_is_lot_form T F, F.kp, bi_is_lot_form F⟩
noncomputable def m_fault_of : SM := (sSeq (sTryN (sExpr (eFn f_checked_chart (aCons (eVar 0) (aCons (eVar 1) (aCons (eVar 2) aNil))))))
    (sRet (eC .non)))
noncomputable def f_fault_of : Fn := fnM 3 4 m_fault_of
theorem sc_fault_of : FnScope ["hands", "manner", "chart", "error"] ["hands", "manner", "chart"] (defScope (top 36)) := ⟨rfl, rfl, rfl, by decide +kernel, rfl, by decide +kernel, by decide +kernel⟩
theorem fn_fault_of (T : Tx P K mg) {fd : FuncData} (F : FunD K "fault_of" "fault_of" (defArgs (top 36)) (defBody (top 36)) (defScope (top 36)) [] [] (He.ga K "fault_of") fd) : FnOk P w K mg base (L2.CX P w) 9 (He.ga K "fault_of") fd ["hands", "manner", "chart"] (spM K f_fault_of) := by
  obtain ⟨fd_checked_chart, ps_checked_chart, F_checked_chart, kp_checked_chart, b_checked_chart⟩ := (ok_checked_chart (P := P) (w := w) (base := base) T).ex
  refine fn_ok F sc_fault_of fun cdv A outer s H E hr tk => ?_
  have hN := sc_fault_of.nd
  exact (rss_cons (rs_tryAs (i := 3) rfl rfl hN T.g_BadChart tk ⟨fun W pn xe tk2 _ => (rss_one (rs_expr (re_call F_checked_chart (hr.mono (by decide)) T.g_checked_chart kp_checked_chart b_checked_chart tk2 (ra_cons (re_var (i := 0)) (ra_cons (re_var (i := 1)) (ra_cons (re_var (i := 2)) ra_nil))))))⟩)
    (rss_one (rs_ret re_non)))
theorem bi_fault_of {fd : FuncData} (F : FunD K "fault_of" "fault_of" (defArgs (top 36)) (defBody (top 36)) (defScope (top 36)) [] [] (He.ga K "fault_of") fd) : Binds K fd ["hands", "manner", "chart"] [] := F.bindsN fun _ _ _ _ _ _ us hl => match us, hl with | [_, _, _], _ => rfl
theorem ok_fault_of (T : Tx P K mg) : OkF P w K mg base 9 (He.ga K "fault_of") f_fault_of := by
  obtain ⟨fd, F⟩ := T.d_fault_of
  exact ⟨fd, _, fn_fault_of T F, F.kp, bi_fault_of F⟩
noncomputable def m_checked_lot : SM := (sSeq (sIf (mNot (asT (eFn f_is_lot_form (aCons (eVar 0) aNil)))) sNever sPass)
    (sSeq (sAsg (gTp 3 (gsCons (gNm 1) (gsCons (gNm 2) (gsCons (gNm 3) gsNil)))) (eVar 0))
    (sSeq (sIf (asB (eInG true ["order", "any"] (eVar 2))) sNever sPass)
    (sSeq (sIf (asB (eOp (ordA gtD) (eCall lenA (aCons (eVar 3) aNil)) (eC (.int 12)))) sNever sPass)
    (sSeq (sIf (mOr (asB (eOp (eqA false) (eVar 3) (eTup aNil))) (mNot (asT (eCall allA (aCons (eLc (iZip true true (aCons (eVar 3) (aCons (eSl (eVar 3) (oSome (eC (.int 1))) oNone) aNil))) (.tp [8, 9]) yesM (eOp (ordA ltD) (eVar 8) (eVar 9)) [8, 9]) aNil))))) sNever sPass)
    (sSeq (sFor (iEn true (aCons (eVar 3) aNil)) (.tp [4, 5]) (sSeq (sSet 6 (eFn f_fault_of (aCons (eVar 1) (aCons (eVar 2) (aCons (eVar 5) aNil)))))
    (sIf (asB (eOp (isNA true) (eVar 6) (eC .non))) sNever sPass)))
    (sSeq (sIf (asB (eOp (ordA gtD) (eCall sumA (aCons (eLc (iRg (eCall lenA (aCons (eVar 1) aNil))) (.nm 7) yesM (eCall maxA (aCons (eLc (iT (eVar 3)) (.nm 5) yesM (eCall lenA (aCons (eOp ixA (eVar 5) (eVar 7)) aNil)) [5]) aNil)) [7]) aNil)) (eC (.int 60)))) sNever sPass)
    (sRet (eVar 0)))))))))
noncomputable def f_checked_lot : Fn := fnM 1 10 m_checked_lot
theorem sc_checked_lot : FnScope ["thing", "hands", "manner", "charts", "number", "chart", "fault", "at", "one", "other"] ["thing"] (defScope (top 35)) := ⟨rfl, rfl, rfl, by decide +kernel, rfl, by decide +kernel, by decide +kernel⟩
theorem fn_checked_lot (T : Tx P K mg) {fd : FuncData} (F : FunD K "checked_lot" "checked_lot" (defArgs (top 35)) (defBody (top 35)) (defScope (top 35)) [] [] (He.ga K "checked_lot") fd) : FnOk P w K mg base (L2.CX P w) 10 (He.ga K "checked_lot") fd ["thing"] (spM K f_checked_lot) := by
  obtain ⟨fd_fault_of, ps_fault_of, F_fault_of, kp_fault_of, b_fault_of⟩ := (ok_fault_of (P := P) (w := w) (base := base) T).ex
  obtain ⟨fd_is_lot_form, ps_is_lot_form, F_is_lot_form, kp_is_lot_form, b_is_lot_form⟩ := (ok_is_lot_form (P := P) (w := w) (base := base) T).ex
  refine fn_ok F sc_checked_lot fun cdv A outer s H E hr tk => ?_
  have hN := sc_checked_lot.nd
  exact (rss_cons (rs_if (rt_not (rt_truth (re_call F_is_lot_form (hr.mono (by decide)) T.g_is_lot_form kp_is_lot_form b_is_lot_form tk (ra_cons (re_var (i := 0)) ra_nil)))) (rss_one rs_never) rss_nil)
    (rss_cons (rs_asg (re_var (i := 0)) (rg_tup rfl (rgs_cons (rg_name (i := 1) hN) (rgs_cons (rg_name (i := 2) hN) (rgs_cons (rg_name (i := 3) hN) rgs_nil)))))
    (rss_cons (rs_if (rt_notInG T.g_MANNERS T.t_MANNERS (re_var (i := 2))) (rss_one rs_never) rss_nil)
    (rss_cons (rs_if (rt_cmp (op_gtS hr.units) (re_callB call_lenS (ra_cons (re_var (i := 3)) ra_nil) bt_len T.b_len) (re_gint T.i_MOST_CHARTS) rfl) (rss_one rs_never) rss_nil)
    (rss_cons (rs_if (rt_bool (rw_or (rt_cmp (op_eqS hr.units) (re_var (i := 3)) (re_tup ra_nil) rfl) (rw_or1 (rt_not (rt_truth (re_callB (call_allS rfl) (ra_cons (re_lc rfl hN (ri_zip (ra_cons (re_var (i := 3)) (ra_cons (re_sl (re_var (i := 3)) (ro_some re_int) ro_none) ra_nil)) T.b_zip) (own := [("one", 8), ("other", 9)]) (blkOk_by (by rfl)) (by decide) ⟨fun _ _ _ _ _ => ⟨(pat_tp (is := [8, 9]) rfl (pats_cons (i := 8) hN (pats_cons (i := 9) hN pats_nil))), pts_nilS, (re_cmp (op_ltS hr.units) (re_var (i := 8)) (re_var (i := 9)) rfl)⟩⟩) ra_nil) bt_all T.b_all)))))) (rss_one rs_never) rss_nil)
    (rss_cons (rs_for (passes_of rfl) rfl (ri_enumT (ra_cons (re_var (i := 3)) ra_nil) T.b_enumerate) (pat_tp (is := [4, 5]) rfl (pats_cons (i := 4) hN (pats_cons (i := 5) hN pats_nil))) (rss_cons (rs_set (i := 6) hN (re_call F_fault_of (hr.mono (by decide)) T.g_fault_of kp_fault_of b_fault_of tk (ra_cons (re_var (i := 1)) (ra_cons (re_var (i := 2)) (ra_cons (re_var (i := 5)) ra_nil)))))
    (rss_one (rs_if (rt_cmp op_notNS (re_var (i := 6)) re_non rfl) (rss_one rs_never) rss_nil))))
    (rss_cons (rs_if (rt_cmp (op_gtS hr.units) (re_callB (call_sumS rfl) (ra_cons (re_lc rfl hN (ri_range (re_callB call_lenS (ra_cons (re_var (i := 1)) ra_nil) bt_len T.b_len) T.b_range) (own := [("at", 7)]) (blkOk_by (by rfl)) (by decide) ⟨fun _ _ _ _ _ => ⟨(pat_nm (i := 7) hN), pts_nilS, (re_callB (call_maxS rfl) (ra_cons (re_lc rfl hN (ri_tup (re_var (i := 3))) (own := [("chart", 5)]) (blkOk_by (by rfl)) (by decide) ⟨fun _ _ _ _ _ => ⟨(pat_nm (i := 5) hN), pts_nilS, (re_callB call_lenS (ra_cons (re_ix hr.u1 (re_var (i := 5)) (re_var (i := 7))) ra_nil) bt_len T.b_len)⟩⟩) ra_nil) bt_max T.b_max)⟩⟩) ra_nil) bt_sum T.b_sum) (re_gint T.i_MOST_TOGETHER) rfl) (rss_one rs_never) rss_nil)
    (rss_one (rs_ret (re_var (i := 0)))))))))))
theorem bi_checked_lot {fd : FuncData} (F : FunD K "checked_lot" "checked_lot" (defArgs (top 35)) (defBody (top 35)) (defScope (top 35)) [] [] (He.ga K "checked_lot") fd) : Binds K fd ["thing"] [] := F.bindsN fun _ _ _ _ _ _ us hl => match us, hl with | [_], _ => rfl
theorem ok_checked_lot (T : Tx P K mg) : OkF P w K mg base 10 (He.ga K "checked_lot") f_checked_lot := by
  obtain ⟨fd, F⟩ := T.d_checked_lot
  exact ⟨fd, _, fn_checked_lot T F, F.kp, bi_checked_lot F⟩
noncomputable def m_charts_in_order : SM := (sSeq (sAsg (gTp 3 (gsCons (gNm 1) (gsCons (gNm 2) (gsCons (gNm 3) gsNil)))) (eFn f_checked_lot (aCons (eVar 0) aNil)))
    (sRet (eCall (tupleA false) (aCons (eLc (iEn true (aCons (eVar 3) aNil)) (.tp [4, 5]) (asT (eFnN f_is_chart (aCons (eVar 1) (aCons (eC (.str "order")) (aCons (eVar 5) aNil))))) (eVar 4) [4, 5]) aNil))))
noncomputable def f_charts_in_order : Fn := fnM 1 6 m_charts_in_order
theorem sc_charts_in_order : FnScope ["lot", "hands", "manner", "charts", "number", "chart"] ["lot"] (defScope (top 39)) := ⟨rfl, rfl, rfl, by decide +kernel, rfl, by decide +kernel, by decide +kernel⟩
theorem fn_charts_in_order (T : Tx P K mg) {fd : FuncData} (F : FunD K "charts_in_order" "charts_in_order" (defArgs (top 39)) (defBody (top 39)) (defScope (top 39)) [] [] (He.ga K "charts_in_order") fd) : FnOk P w K mg base (L2.CX P w) 11 (He.ga K "charts_in_order") fd ["lot"] (spM K f_charts_in_order) := by
  obtain ⟨fd_checked_lot, ps_checked_lot, F_checked_lot, kp_checked_lot, b_checked_lot⟩ := (ok_checked_lot (P := P) (w := w) (base := base) T).ex
  obtain ⟨fd_is_chart, ps_is_chart, F_is_chart, kp_is_chart, b_is_chart⟩ := (ok_is_chart (P := P) (w := w) (base := base) T).ex
  refine fn_ok F sc_charts_in_order fun cdv A outer s H E hr tk => ?_
  have hN := sc_charts_in_order.nd
  exact (rss_cons (rs_asg (re_call F_checked_lot (hr.mono (by decide)) T.g_checked_lot kp_checked_lot b_checked_lot tk (ra_cons (re_var (i := 0)) ra_nil)) (rg_tup rfl (rgs_cons (rg_name (i := 1) hN) (rgs_cons (rg_name (i := 2) hN) (rgs_cons (rg_name (i := 3) hN) rgs_nil)))))
    (rss_one (rs_ret (re_callTy (call_tupleS (sg := false)) (ra_cons (re_lc rfl hN (ri_enumT (ra_cons (re_var (i := 3)) ra_nil) T.b_enumerate) (own := [("number", 4), ("chart", 5)]) (blkOk_by (by rfl)) (by decide) ⟨fun _ _ _ _ _ => ⟨(pat_tp (is := [4, 5]) rfl (pats_cons (i := 4) hN (pats_cons (i := 5) hN pats_nil))), (pts_oneS (rt_truth (re_callN F_is_chart (hr.mono (by decide)) T.g_is_chart kp_is_chart b_is_chart (ra_cons (re_var (i := 1)) (ra_cons re_str (ra_cons (re_var (i := 5)) ra_nil)))))), (re_var (i := 4))⟩⟩) ra_nil) bt_tuple T.b_tuple))))
theorem bi_charts_in_order {fd : FuncData} (F : FunD K "charts_in_order" "charts_in_order" (defArgs (top 39)) (defBody (top 39)) (defScope (top 39)) [] [] (He.ga K "charts_in_order") fd) : Binds K fd ["lot"] [] := F.bindsN fun _ _ _ _ _ _ us hl => match us, hl with | [_], _ => rfl
theorem ok_charts_in_order (T : Tx P K mg) : OkF P w K mg base 11 (He.ga K "charts_in_order") f_charts_in_order := by
  obtain ⟨fd, F⟩ := T.d_charts_in_order
  exact ⟨fd, _, fn_charts_in_order T F, F.kp, bi_charts_in_order F⟩
noncomputable def m__law_orders : SM := (sSeq (sPar2 4 5 (aCons (eCall sumA (aCons (eLc (iT (eVar 2)) (.nm 12) yesM (eCall lenA (aCons (eVar 12) aNil)) [12]) aNil)) (aCons (eLst (aCons (eTupS aNil) aNil)) aNil)))
    (sSeq (sFor (iRg (eVar 4)) (.nm 6) (sSeq (sSet 7 (eLstR aNil))
    (sSeq (sFor (iL (eVar 5)) (.nm 8) (sSeq (sSet 9 (eLc (iRg (eCall lenA (aCons (eVar 0) aNil))) (.nm 11) yesM (eTM countA (eVar 8) (aCons (eVar 11) aNil)) [11]))
    (sSeq (sSet 10 (eCall (tupleA false) (aCons (eLc (iZip true false (aCons (eVar 2) (aCons (eVar 9) aNil))) (.tp [12, 13]) yesM (eSl (eVar 12) oNone (oSome (eVar 13))) [12, 13]) aNil)))
    (sFor (iRg (eCall lenA (aCons (eVar 0) aNil))) (.nm 11) (sIf (mAnd (asB (eOp (ordA ltD) (eOp ixA (eVar 9) (eVar 11)) (eCall lenA (aCons (eOp ixA (eVar 2) (eVar 11)) aNil)))) (asT (eFn f__law_can (aCons (eVar 0) (aCons (eVar 1) (aCons (eVar 10) (aCons (eVar 11) (aCons (eOp ixA (eOp ixA (eVar 2) (eVar 11)) (eOp ixA (eVar 9) (eVar 11))) aNil)))))))) (sExpr (eBMT "list" appendA (eVar 7) (aCons (eOp addA (eVar 8) (eTupS (aCons (eVar 11) aNil))) aNil))) sPass)))))
    (sSeq (sIf (asB (eOp (ordA gtD) (eCall lenA (aCons (eVar 7) aNil)) (eVar 3))) (sRet (eC .non)) sPass)
    (sSet 5 (eVar 7))))))
    (sRet (eCall sortedA (aCons (eVar 5) aNil)))))
noncomputable def f__law_orders : Fn := fnM 4 14 m__law_orders
theorem sc__law_orders : FnScope ["hands", "manner", "chart", "limit", "whole", "line", "lap", "longer", "order", "done", "begins", "h", "row", "k"] ["hands", "manner", "chart", "limit"] (defScope (top 57)) := ⟨rfl, rfl, rfl, by decide +kernel, rfl, by decide +kernel, by decide +kernel⟩
theorem fn__law_orders (T : Tx P K mg) {fd : FuncData} (F : FunD K "_law_orders" "_law_orders" (defArgs (top 57)) (defBody (top 57)) (defScope (top 57)) [] [] (He.ga K "_law_orders") fd) : FnOk P w K mg base (L2.CX P w) 3 (He.ga K "_law_orders") fd ["hands", "manner", "chart", "limit"] (spM K f__law_orders) := by
  obtain ⟨fd__law_can, ps__law_can, F__law_can, kp__law_can, b__law_can⟩ := (ok__law_can (P := P) (w := w) (base := base) T).ex
  refine fn_ok F sc__law_orders fun cdv A outer s H E hr tk => ?_
  have hN := sc__law_orders.nd
  exact (rss_cons (rs_par (i := 4) (j := 5) rfl hN (ra_cons (re_callB (call_sumS rfl) (ra_cons (re_lc rfl hN (ri_tup (re_var (i := 2))) (own := [("row", 12)]) (blkOk_by (by rfl)) (by decide) ⟨fun _ _ _ _ _ => ⟨(pat_nm (i := 12) hN), pts_nilS, (re_callB call_lenS (ra_cons (re_var (i := 12)) ra_nil) bt_len T.b_len)⟩⟩) ra_nil) bt_sum T.b_sum) (ra_cons (re_lst (ra_cons (re_tupS ra_nil) ra_nil)) ra_nil)))
    (rss_cons (rs_for (passes_of rfl) rfl (ri_range (re_var (i := 4)) T.b_range) (pat_nm (i := 6) hN) (rss_cons (rs_set (i := 7) hN (re_lstR ra_nil))
    (rss_cons (rs_for (passes_of rfl) rfl (ri_list (re_var (i := 5))) (pat_nm (i := 8) hN) (rss_cons (rs_setLc (i := 9) rfl hN (ri_range (re_callB call_lenS (ra_cons (re_var (i := 0)) ra_nil) bt_len T.b_len) T.b_range) (own := [("h", 11)]) (blkOk_by (by rfl)) (by decide) ⟨fun _ _ _ _ _ => ⟨(pat_nm (i := 11) hN), pts_nilS, (re_tm PySem.F.slot_tuple_count PySem.F.type_tuple_count (mt_tcountS hr.units) (re_var (i := 8)) (ra_cons (re_var (i := 11)) ra_nil))⟩⟩ rfl)
    (rss_cons (rs_set (i := 10) hN (re_callTy (call_tupleS (sg := false)) (ra_cons (re_lc rfl hN (ri_zip (ra_cons (re_var (i := 2)) (ra_cons (re_var (i := 9)) ra_nil)) T.b_zip) (own := [("row", 12), ("k", 13)]) (blkOk_by (by rfl)) (by decide) ⟨fun _ _ _ _ _ => ⟨(pat_tp (is := [12, 13]) rfl (pats_cons (i := 12) hN (pats_cons (i := 13) hN pats_nil))), pts_nilS, (re_sl (re_var (i := 12)) ro_none (ro_some (re_var (i := 13))))⟩⟩) ra_nil) bt_tuple T.b_tuple))
    (rss_one (rs_for (passes_of rfl) rfl (ri_range (re_callB call_lenS (ra_cons (re_var (i := 0)) ra_nil) bt_len T.b_len) T.b_range) (pat_nm (i := 11) hN) (rss_one (rs_if (rt_bool (rw_and (rt_cmp (op_ltS hr.units) (re_ix hr.u1 (re_var (i := 9)) (re_var (i := 11))) (re_callB call_lenS (ra_cons (re_ix hr.u1 (re_var (i := 2)) (re_var (i := 11))) ra_nil) bt_len T.b_len) rfl) (rw_and1 (rt_truth (re_call F__law_can (hr.mono (by decide)) T.g__law_can kp__law_can b__law_can tk (ra_cons (re_var (i := 0)) (ra_cons (re_var (i := 1)) (ra_cons (re_var (i := 10)) (ra_cons (re_var (i := 11)) (ra_cons (re_ix hr.u1 (re_ix hr.u1 (re_var (i := 2)) (re_var (i := 11))) (re_ix hr.u1 (re_var (i := 9)) (re_var (i := 11)))) ra_nil)))))))))) (rss_one (rs_expr (re_bm PySem.F.plainAttrs_list PySem.F.slot_list_append PySem.F.type_list_append mt_appendS (re_var (i := 7)) (ra_cons (re_op op_addS (re_var (i := 8)) (re_tupS (ra_cons (re_var (i := 11)) ra_nil))) ra_nil)))) rss_nil)))))))
    (rss_cons (rs_if (rt_cmp (op_gtS hr.units) (re_callB call_lenS (ra_cons (re_var (i := 7)) ra_nil) bt_len T.b_len) (re_var (i := 3)) rfl) (rss_one (rs_ret re_non)) rss_nil)
    (rss_one (rs_set (i := 5) hN (re_var (i := 7))))))))
    (rss_one (rs_ret (re_callB (call_sortedS hr.u80) (ra_cons (re_var (i := 5)) ra_nil) bt_sorted T.b_sorted)))))
theorem bi__law_orders {fd : FuncData} (F : FunD K "_law_orders" "_law_orders" (defArgs (top 57)) (defBody (top 57)) (defScope (top 57)) [] [] (He.ga K "_law_orders") fd) : Binds K fd ["hands", "manner", "chart", "limit"] [] := F.bindsN fun _ _ _ _ _ _ us hl => match us, hl with | [_, _, _, _], _ => rfl
theorem ok__law_orders (T : Tx P K mg) : OkF P w K mg base 3 (He.ga K "_law_orders") f__law_orders := by
  obtain ⟨fd, F⟩ := T.d__law_orders
  exact ⟨fd, _, fn__law_orders T F, F.kp, bi__law_orders F⟩
noncomputable def m_put_at : SM := (sSeq (sAsg (gTp 2 (gsCons (gFd "Playing" "stand" (eVar 0)) (gsCons (gFd "Playing" "lying" (eVar 0)) gsNil))) (eTup (aCons (eOp (mulA true) (eLst (aCons (eC (.int 0)) aNil)) (eCall lenA (aCons (eVar 1) aNil))) (aCons eDT aNil))))
    (sWh 1000 (asB (eOp (eqA true) (eCall (tupleA false) (aCons (eFld "Playing" "stand" (eVar 0)) aNil)) (eVar 1))) (sSeq (sSet 2 (eLc (iL (eMeth "Playing" "ready" f_Playing_ready (eVar 0) aNil)) (.nm 3) (asB (eOp (ordA ltD) (eOp ixA (eFld "Playing" "stand" (eVar 0)) (eVar 3)) (eOp ixA (eVar 1) (eVar 3)))) (eVar 3) [3]))
    (sExpr (eMeth "Playing" "go" f_Playing_go (eVar 0) (aCons (eOp ixA (eVar 2) (eC (.int 0))) aNil))))))
noncomputable def f_put_at : Fn := fnM 2 4 m_put_at
theorem sc_put_at : FnScope ["playing", "stand", "hands", "hand"] ["playing", "stand"] (defScope (top 44)) := ⟨rfl, rfl, rfl, by decide +kernel, rfl, by decide +kernel, by decide +kernel⟩
theorem fn_put_at (T : Tx P K mg) {fd : FuncData} (F : FunD K "put_at" "put_at" (defArgs (top 44)) (defBody (top 44)) (defScope (top 44)) [] [] (He.ga K "put_at") fd) : FnOk P w K mg base (L2.CX P w) 4 (He.ga K "put_at") fd ["playing", "stand"] (spM K f_put_at) := by
  obtain ⟨fd_Playing_go, ps_Playing_go, F_Playing_go, kp_Playing_go, b_Playing_go⟩ := (ok_Playing_go (P := P) (w := w) (base := base) T).ex
  obtain ⟨fd_Playing_ready, ps_Playing_ready, F_Playing_ready, kp_Playing_ready, b_Playing_ready⟩ := (ok_Playing_ready (P := P) (w := w) (base := base) T).ex
  refine fn_ok F sc_put_at fun cdv A outer s H E hr tk => ?_
  have hN := sc_put_at.nd
  exact (rss_cons (rs_asg (re_tup (ra_cons (re_op (op_mulS (alloc := true)) (re_lst (ra_cons re_int ra_nil)) (re_callB call_lenS (ra_cons (re_var (i := 1)) ra_nil) bt_len T.b_len)) (ra_cons re_dT ra_nil))) (rg_tup rfl (rgs_cons (rg_fld (W := never) T.c_Playing T.n_Playing_stand (re_var (i := 0))) (rgs_cons (rg_fld (W := never) T.c_Playing T.n_Playing_lying (re_var (i := 0))) rgs_nil))))
    (rss_one (rs_while (n := 1000) (passes_of rfl) (rt_cmp (op_neS hr.units) (re_callTy (call_tupleS (sg := false)) (ra_cons (re_fld T.c_Playing T.n_Playing_stand (re_var (i := 0))) ra_nil) bt_tuple T.b_tuple) (re_var (i := 1)) rfl) (rss_cons (rs_setLc (i := 2) rfl hN (ri_list (re_meth0 T.c_Playing T.m_Playing_ready F_Playing_ready (hr.mono (by decide)) b_Playing_ready (re_var (i := 0)))) (own := [("hand", 3)]) (blkOk_by (by rfl)) (by decide) ⟨fun _ _ _ _ _ => ⟨(pat_nm (i := 3) hN), (pts_oneS (rt_cmp (op_ltS hr.units) (re_ix hr.u1 (re_fld T.c_Playing T.n_Playing_stand (re_var (i := 0))) (re_var (i := 3))) (re_ix hr.u1 (re_var (i := 1)) (re_var (i := 3))) rfl)), (re_var (i := 3))⟩⟩ rfl)
    (rss_one (rs_expr (re_meth T.c_Playing T.m_Playing_go F_Playing_go (hr.mono (by decide)) b_Playing_go (re_var (i := 0)) (ra_cons (re_ix hr.u1 (re_var (i := 2)) re_int) ra_nil))))))))
theorem bi_put_at {fd : FuncData} (F : FunD K "put_at" "put_at" (defArgs (top 44)) (defBody (top 44)) (defScope (top 44)) [] [] (He.ga K "put_at") fd) : Binds K fd ["playing", "stand"] [] := F.bindsN fun _ _ _ _ _ _ us hl => match us, hl with | [_, _], _ => rfl
theorem ok_put_at (T : Tx P K mg) : OkF P w K mg base 4 (He.ga K "put_at") f_put_at := by
  obtain ⟨fd, F⟩ := T.d_put_at
  exact ⟨fd, _, fn_put_at T F, F.kp, bi_put_at F⟩
noncomputable def m_Stands_led : SM := (sRet (eOp addA (eOp addA (eSl (eVar 1) oNone (oSome (eVar 2))) (eTup (aCons (eOp addA (eOp ixA (eVar 1) (eVar 2)) (eC (.int 1))) aNil))) (eSl (eVar 1) (oSome (eOp addA (eVar 2) (eC (.int 1)))) oNone)))
noncomputable def f_Stands_led : Fn := fnM 3 3 m_Stands_led
theorem sc_Stands_led : FnScope ["self", "stand", "hand"] ["self", "stand", "hand"] (defScope (inClass (top 45) 2)) := ⟨rfl, rfl, rfl, by decide +kernel, rfl, by decide +kernel, by decide +kernel⟩
theorem fn_Stands_led (T : Tx P K mg) {fd : FuncData} (F : FunD K "led" "Stands.led" (defArgs (inClass (top 45) 2)) (defBody (inClass (top 45) 2)) (defScope (inClass (top 45) 2)) [] [] (He.ma K (He.ga K "Stands") "led") fd) : FnOk P w K mg base (L2.CX P w) 1 (He.ma K (He.ga K "Stands") "led") fd ["self", "stand", "hand"] (spM K f_Stands_led) := by
  refine fn_ok F sc_Stands_led fun cdv A outer s H E hr tk => ?_
  have hN := sc_Stands_led.nd
  exact (rss_one (rs_ret (re_op op_addS (re_op op_addS (re_sl (re_var (i := 1)) ro_none (ro_some (re_var (i := 2)))) (re_tup (ra_cons (re_op op_addS (re_ix hr.u1 (re_var (i := 1)) (re_var (i := 2))) re_int) ra_nil))) (re_sl (re_var (i := 1)) (ro_some (re_op op_addS (re_var (i := 2)) re_int)) ro_none))))
theorem bi_Stands_led {fd : FuncData} (F : FunD K "led" "Stands.led" (defArgs (inClass (top 45) 2)) (defBody (inClass (top 45) 2)) (defScope (inClass (top 45) 2)) [] [] (He.ma K (He.ga K "Stands") "led") fd) : Binds K fd ["self", "stand", "hand"] [] := F.bindsN fun _ _ _ _ _ _ us hl => match us, hl with | [_, _, _], _ => rfl
theorem ok_Stands_led (T : Tx P K mg) : OkF P w K mg base 1 (He.ma K (He.ga K "Stands") "led") f_Stands_led := by
  obtain ⟨fd, F⟩ := T.d_Stands_led
  exact ⟨fd, _, fn_Stands_led T F, F.kp, bi_Stands_led F⟩
noncomputable def m_Stands_behind : SM := (sSeq (sExpr (eFn f_put_at (aCons (eFld "Stands" "playing" (eVar 0)) (aCons (eVar 1) aNil))))
    (sSeq (sAsg (gTp 2 (gsCons (gSb (eFld "Stands" "moves" (eVar 0)) (eVar 1)) (gsCons (gSb (eFld "Stands" "queues" (eVar 0)) (eVar 1)) gsNil))) (eTup (aCons (eMeth "Playing" "ready" f_Playing_ready (eFld "Stands" "playing" (eVar 0)) aNil) (aCons (eMeth "Playing" "queues" f_Playing_queues (eFld "Stands" "playing" (eVar 0)) aNil) aNil))))
    (sRet (eLc (iL (eOp ixA (eFld "Stands" "moves" (eVar 0)) (eVar 1))) (.nm 2) yesM (eMeth "Stands" "led" f_Stands_led (eVar 0) (aCons (eVar 1) (aCons (eVar 2) aNil))) [2]))))
noncomputable def f_Stands_behind : Fn := fnM 2 3 m_Stands_behind
theorem sc_Stands_behind : FnScope ["self", "stand", "hand"] ["self", "stand"] (defScope (inClass (top 45) 3)) := ⟨rfl, rfl, rfl, by decide +kernel, rfl, by decide +kernel, by decide +kernel⟩
theorem fn_Stands_behind (T : Tx P K mg) {fd : FuncData} (F : FunD K "behind" "Stands.behind" (defArgs (inClass (top 45) 3)) (defBody (inClass (top 45) 3)) (defScope (inClass (top 45) 3)) [] [] (He.ma K (He.ga K "Stands") "behind") fd) : FnOk P w K mg base (L2.CX P w) 5 (He.ma K (He.ga K "Stands") "behind") fd ["self", "stand"] (spM K f_Stands_behind) := by
  obtain ⟨fd_Playing_queues, ps_Playing_queues, F_Playing_queues, kp_Playing_queues, b_Playing_queues⟩ := (ok_Playing_queues (P := P) (w := w) (base := base) T).ex
  obtain ⟨fd_Playing_ready, ps_Playing_ready, F_Playing_ready, kp_Playing_ready, b_Playing_ready⟩ := (ok_Playing_ready (P := P) (w := w) (base := base) T).ex
  obtain ⟨fd_Stands_led, ps_Stands_led, F_Stands_led, kp_Stands_led, b_Stands_led⟩ := (ok_Stands_led (P := P) (w := w) (base := base) T).ex
  obtain ⟨fd_put_at, ps_put_at, F_put_at, kp_put_at, b_put_at⟩ := (ok_put_at (P := P) (w := w) (base := base) T).ex
  refine fn_ok F sc_Stands_behind fun cdv A outer s H E hr tk => ?_
  have hN := sc_Stands_behind.nd
  exact (rss_cons (rs_expr (re_call F_put_at (hr.mono (by decide)) T.g_put_at kp_put_at b_put_at tk (ra_cons (re_fld T.c_Stands T.n_Stands_playing (re_var (i := 0))) (ra_cons (re_var (i := 1)) ra_nil))))
    (rss_cons (rs_asg (re_tup (ra_cons (re_meth0 T.c_Playing T.m_Playing_ready F_Playing_ready (hr.mono (by decide)) b_Playing_ready (re_fld T.c_Stands T.n_Stands_playing (re_var (i := 0)))) (ra_cons (re_meth0 T.c_Playing T.m_Playing_queues F_Playing_queues (hr.mono (by decide)) b_Playing_queues (re_fld T.c_Stands T.n_Stands_playing (re_var (i := 0)))) ra_nil))) (rg_tup rfl (rgs_cons (rg_sub (W := never) hr.u1 (re_fld T.c_Stands T.n_Stands_moves (re_var (i := 0))) (re_var (i := 1))) (rgs_cons (rg_sub (W := never) hr.u1 (re_fld T.c_Stands T.n_Stands_queues (re_var (i := 0))) (re_var (i := 1))) rgs_nil))))
    (rss_one (rs_ret (re_lc rfl hN (ri_list (re_ix hr.u1 (re_fld T.c_Stands T.n_Stands_moves (re_var (i := 0))) (re_var (i := 1)))) (own := [("hand", 2)]) (blkOk_by (by rfl)) (by decide) ⟨fun _ _ _ _ _ => ⟨(pat_nm (i := 2) hN), pts_nilS, (re_meth T.c_Stands T.m_Stands_led F_Stands_led (hr.mono (by decide)) b_Stands_led (re_var (i := 0)) (ra_cons (re_var (i := 1)) (ra_cons (re_var (i := 2)) ra_nil)))⟩⟩)))))
theorem bi_Stands_behind {fd : FuncData} (F : FunD K "behind" "Stands.behind" (defArgs (inClass (top 45) 3)) (defBody (inClass (top 45) 3)) (defScope (inClass (top 45) 3)) [] [] (He.ma K (He.ga K "Stands") "behind") fd) : Binds K fd ["self", "stand"] [] := F.bindsN fun _ _ _ _ _ _ us hl => match us, hl with | [_, _], _ => rfl
theorem ok_Stands_behind (T : Tx P K mg) : OkF P w K mg base 5 (He.ma K (He.ga K "Stands") "behind") f_Stands_behind := by
  obtain ⟨fd, F⟩ := T.d_Stands_behind
  exact ⟨fd, _, fn_Stands_behind T F, F.kp, bi_Stands_behind F⟩
noncomputable def m_Stands_sum_behind : SM := (sRet (eCall sumA (aCons (eLc (iL (eOp ixA (eFld "Stands" "moves" (eVar 0)) (eVar 1))) (.nm 2) yesM (eOp ixA (eFld "Stands" "counts" (eVar 0)) (eMeth "Stands" "led" f_Stands_led (eVar 0) (aCons (eVar 1) (aCons (eVar 2) aNil)))) [2]) aNil)))
noncomputable def f_Stands_sum_behind : Fn := fnM 2 3 m_Stands_sum_behind
theorem sc_Stands_sum_behind : FnScope ["self", "stand", "hand"] ["self", "stand"] (defScope (inClass (top 45) 1)) := ⟨rfl, rfl, rfl, by decide +kernel, rfl, by decide +kernel, by decide +kernel⟩
theorem fn_Stands_sum_behind (T : Tx P K mg) {fd : FuncData} (F : FunD K "sum_behind" "Stands.sum_behind" (defArgs (inClass (top 45) 1)) (defBody (inClass (top 45) 1)) (defScope (inClass (top 45) 1)) [] [] (He.ma K (He.ga K "Stands") "sum_behind") fd) : FnOk P w K mg base (L2.CX P w) 2 (He.ma K (He.ga K "Stands") "sum_behind") fd ["self", "stand"] (spM K f_Stands_sum_behind) := by
  obtain ⟨fd_Stands_led, ps_Stands_led, F_Stands_led, kp_Stands_led, b_Stands_led⟩ := (ok_Stands_led (P := P) (w := w) (base := base) T).ex
  refine fn_ok F sc_Stands_sum_behind fun cdv A outer s H E hr tk => ?_
  have hN := sc_Stands_sum_behind.nd
  exact (rss_one (rs_ret (re_callB (call_sumS rfl) (ra_cons (re_lc rfl hN (ri_list (re_ix hr.u1 (re_fld T.c_Stands T.n_Stands_moves (re_var (i := 0))) (re_var (i := 1)))) (own := [("hand", 2)]) (blkOk_by (by rfl)) (by decide) ⟨fun _ _ _ _ _ => ⟨(pat_nm (i := 2) hN), pts_nilS, (re_ix hr.u1 (re_fld T.c_Stands T.n_Stands_counts (re_var (i := 0))) (re_meth T.c_Stands T.m_Stands_led F_Stands_led (hr.mono (by decide)) b_Stands_led (re_var (i := 0)) (ra_cons (re_var (i := 1)) (ra_cons (re_var (i := 2)) ra_nil))))⟩⟩) ra_nil) bt_sum T.b_sum)))
theorem bi_Stands_sum_behind {fd : FuncData} (F : FunD K "sum_behind" "Stands.sum_behind" (defArgs (inClass (top 45) 1)) (defBody (inClass (top 45) 1)) (defScope (inClass (top 45) 1)) [] [] (He.ma K (He.ga K "Stands") "sum_behind") fd) : Binds K fd ["self", "stand"] [] := F.bindsN fun _ _ _ _ _ _ us hl => match us, hl with | [_, _], _ => rfl
theorem ok_Stands_sum_behind (T : Tx P K mg) : OkF P w K mg base 2 (He.ma K (He.ga K "Stands") "sum_behind") f_Stands_sum_behind := by
  obtain ⟨fd, F⟩ := T.d_Stands_sum_behind
  exact ⟨fd, _, fn_Stands_sum_behind T F, F.kp, bi_Stands_sum_behind F⟩
noncomputable def m_Stands___init__ : SM := (sSeq (sExpr (eFn f_check_manner (aCons (eVar 1) (aCons (eVar 2) aNil))))
    (sSeq (sExpr (eFn f_checked_chart (aCons (eVar 1) (aCons (eVar 2) (aCons (eVar 3) aNil)))))
    (sSeq (sFldM "Stands" "playing" (eVar 0) (eMake "Playing" f_Playing___init__ (aCons (eVar 1) (aCons (eVar 2) (aCons (eVar 3) aNil)))))
    (sSeq (sFldM "Stands" "begin" (eVar 0) (eOp (mulA false) (eTup (aCons (eC (.int 0)) aNil)) (eCall lenA (aCons (eVar 1) aNil))))
    (sSeq (sAsg (gTp 3 (gsCons (gFd "Stands" "line" (eVar 0)) (gsCons (gFd "Stands" "moves" (eVar 0)) (gsCons (gFd "Stands" "queues" (eVar 0)) gsNil)))) (eTup (aCons (eLstR (aCons (eFld "Stands" "begin" (eVar 0)) aNil)) (aCons eDT (aCons eDT aNil)))))
    (sSeq (sPar2 4 5 (aCons (eD1 (eFld "Stands" "begin" (eVar 0)) (eC (.bl true))) (aCons (eC (.int 0)) aNil)))
    (sSeq (sWh 30000 (asB (eOp (ordA ltD) (eVar 5) (eCall lenA (aCons (eFld "Stands" "line" (eVar 0)) aNil)))) (sSeq (sFor (iL (eMeth "Stands" "behind" f_Stands_behind (eVar 0) (aCons (eOp ixA (eFld "Stands" "line" (eVar 0)) (eVar 5)) aNil))) (.nm 6) (sIf (asB (eOp (inA true) (eVar 6) (eVar 4))) (sSeq (sIf (asB (eOp (eqA false) (eCall lenA (aCons (eFld "Stands" "line" (eVar 0)) aNil)) (eC (.int 20000)))) sNever sPass)
    (sSeq (sAsg (gSb (eVar 4) (eVar 6)) (eC (.bl true)))
    (sExpr (eBMT "list" appendA (eFld "Stands" "line" (eVar 0)) (aCons (eVar 6) aNil))))) sPass))
    (sAug 5 1 (eC (.int 1)))))
    (sSeq (sFldM "Stands" "counts" (eVar 0) eDT)
    (sFor (iL (eRev (eFld "Stands" "line" (eVar 0)))) (.nm 7) (sAsg (gSb (eFld "Stands" "counts" (eVar 0)) (eVar 7)) (eIf (asB (eOp (eqA false) (eOp ixA (eFld "Stands" "moves" (eVar 0)) (eVar 7)) (eLst aNil))) (eC (.int 1)) (eMeth "Stands" "sum_behind" f_Stands_sum_behind (eVar 0) (aCons (eVar 7) aNil)))))))))))))
noncomputable def f_Stands___init__ : Fn := fnM 4 8 m_Stands___init__
theorem sc_Stands___init__ : FnScope ["self", "hands", "manner", "chart", "there", "at", "later", "stand"] ["self", "hands", "manner", "chart"] (defScope (inClass (top 45) 0)) := ⟨rfl, rfl, rfl, by decide +kernel, rfl, by decide +kernel, by decide +kernel⟩
theorem fn_Stands___init__ (T : Tx P K mg) {fd : FuncData} (F : FunD K "__init__" "Stands.__init__" (defArgs (inClass (top 45) 0)) (defBody (inClass (top 45) 0)) (defScope (inClass (top 45) 0)) [] [] (He.ma K (He.ga K "Stands") "__init__") fd) : FnOk P w K mg base (L2.CX P w) 10 (He.ma K (He.ga K "Stands") "__init__") fd ["self", "hands", "manner", "chart"] (spM K f_Stands___init__) := by
  obtain ⟨fd_Playing___init__, ps_Playing___init__, F_Playing___init__, kp_Playing___init__, b_Playing___init__⟩ := (ok_Playing___init__ (P := P) (w := w) (base := base) T).ex
  obtain ⟨fd_Stands_behind, ps_Stands_behind, F_Stands_behind, kp_Stands_behind, b_Stands_behind⟩ := (ok_Stands_behind (P := P) (w := w) (base := base) T).ex
  obtain ⟨fd_Stands_sum_behind, ps_Stands_sum_behind, F_Stands_sum_behind, kp_Stands_sum_behind, b_Stands_sum_behind⟩ := (ok_Stands_sum_behind (P := P) (w := w) (base := base) T).ex
  obtain ⟨fd_check_manner, ps_check_manner, F_check_manner, kp_check_manner, b_check_manner⟩ := (ok_check_manner (P := P) (w := w) (base := base) T).ex
  obtain ⟨fd_checked_chart, ps_checked_chart, F_checked_chart, kp_checked_chart, b_checked_chart⟩ := (ok_checked_chart (P := P) (w := w) (base := base) T).ex
  refine fn_ok F sc_Stands___init__ fun cdv A outer s H E hr tk => ?_
  have hN := sc_Stands___init__.nd
  exact (rss_cons (rs_expr (re_call F_check_manner (hr.mono (by decide)) T.g_check_manner kp_check_manner b_check_manner tk (ra_cons (re_var (i := 1)) (ra_cons (re_var (i := 2)) ra_nil))))
    (rss_cons (rs_expr (re_call F_checked_chart (hr.mono (by decide)) T.g_checked_chart kp_checked_chart b_checked_chart tk (ra_cons (re_var (i := 1)) (ra_cons (re_var (i := 2)) (ra_cons (re_var (i := 3)) ra_nil)))))
    (rss_cons (rs_fld T.c_Stands T.n_Stands_playing (re_var (i := 0)) (re_make T.mk_Playing F_Playing___init__ (hr.mono (by decide)) T.g_Playing b_Playing___init__ (ra_cons (re_var (i := 1)) (ra_cons (re_var (i := 2)) (ra_cons (re_var (i := 3)) ra_nil)))))
    (rss_cons (rs_fld T.c_Stands T.n_Stands_begin (re_var (i := 0)) (re_op (op_mulS (alloc := false)) (re_tup (ra_cons re_int ra_nil)) (re_callB call_lenS (ra_cons (re_var (i := 1)) ra_nil) bt_len T.b_len)))
    (rss_cons (rs_asg (re_tup (ra_cons (re_lstR (ra_cons (re_fld T.c_Stands T.n_Stands_begin (re_var (i := 0))) ra_nil)) (ra_cons re_dT (ra_cons re_dT ra_nil)))) (rg_tup rfl (rgs_cons (rg_fld (W := never) T.c_Stands T.n_Stands_line (re_var (i := 0))) (rgs_cons (rg_fld (W := never) T.c_Stands T.n_Stands_moves (re_var (i := 0))) (rgs_cons (rg_fld (W := never) T.c_Stands T.n_Stands_queues (re_var (i := 0))) rgs_nil)))))
    (rss_cons (rs_par (i := 4) (j := 5) rfl hN (ra_cons (re_d1 hr.u1 (re_fld T.c_Stands T.n_Stands_begin (re_var (i := 0))) re_bl) (ra_cons re_int ra_nil)))
    (rss_cons (rs_while (n := 30000) (passes_of rfl) (rt_cmp (op_ltS hr.units) (re_var (i := 5)) (re_callB call_lenS (ra_cons (re_fld T.c_Stands T.n_Stands_line (re_var (i := 0))) ra_nil) bt_len T.b_len) rfl) (rss_cons (rs_for (passes_of rfl) rfl (ri_list (re_meth T.c_Stands T.m_Stands_behind F_Stands_behind (hr.mono (by decide)) b_Stands_behind (re_var (i := 0)) (ra_cons (re_ix hr.u1 (re_fld T.c_Stands T.n_Stands_line (re_var (i := 0))) (re_var (i := 5))) ra_nil))) (pat_nm (i := 6) hN) (rss_one (rs_if (rt_cmp (op_notInS hr.u66) (re_var (i := 6)) (re_var (i := 4)) rfl) (rss_cons (rs_if (rt_cmp (op_eqS hr.units) (re_callB call_lenS (ra_cons (re_fld T.c_Stands T.n_Stands_line (re_var (i := 0))) ra_nil) bt_len T.b_len) (re_gint T.i_MOST_STANDS) rfl) (rss_one rs_never) rss_nil)
    (rss_cons (rs_asg re_bl (rg_sub (W := never) hr.u1 (re_var (i := 4)) (re_var (i := 6))))
    (rss_one (rs_expr (re_bm PySem.F.plainAttrs_list PySem.F.slot_list_append PySem.F.type_list_append mt_appendS (re_fld T.c_Stands T.n_Stands_line (re_var (i := 0))) (ra_cons (re_var (i := 6)) ra_nil)))))) rss_nil)))
    (rss_one (rs_augAdd (i := 5) hN re_int))))
    (rss_cons (rs_fld T.c_Stands T.n_Stands_counts (re_var (i := 0)) re_dT)
    (rss_one (rs_for (passes_of rfl) rfl (ri_list (re_rev (re_fld T.c_Stands T.n_Stands_line (re_var (i := 0))))) (pat_nm (i := 7) hN) (rss_one (rs_asg (re_if (rt_cmp (op_eqS hr.units) (re_ix hr.u1 (re_fld T.c_Stands T.n_Stands_moves (re_var (i := 0))) (re_var (i := 7))) (re_lst ra_nil) rfl) re_int (re_meth T.c_Stands T.m_Stands_sum_behind F_Stands_sum_behind (hr.mono (by decide)) b_Stands_sum_behind (re_var (i := 0)) (ra_cons (re_var (i := 7)) ra_nil))) (rg_sub (W := never) hr.u1 (re_fld T.c_Stands T.n_Stands_counts (re_var (i := 0))) (re_var (i := 7)))))))))))))))
theorem bi_Stands___init__ {fd : FuncData} (F : FunD K "__init__" "Stands.__init__" (defArgs (inClass (top 45) 0)) (defBody (inClass (top 45) 0)) (defScope (inClass (top 45) 0)) [] [] (He.ma K (He.ga K "Stands") "__init__") fd) : Binds K fd ["self", "hands", "manner", "chart"] [] := F.bindsN fun _ _ _ _ _ _ us hl => match us, hl with | [_, _, _, _], _ => rfl
theorem ok_Stands___init__ (T : Tx P K mg) : OkF P w K mg base 10 (He.ma K (He.ga K "Stands") "__init__") f_Stands___init__ := by
  obtain ⟨fd, F⟩ := T.d_Stands___init__
  exact ⟨fd, _, fn_Stands___init__ T F, F.kp, bi_Stands___init__ F⟩
noncomputable def m_many_orders : SM := (sSeq (sSet 3 (eMake "Stands" f_Stands___init__ (aCons (eVar 0) (aCons (eVar 1) (aCons (eVar 2) aNil)))))
    (sRet (eOp ixA (eFld "Stands" "counts" (eVar 3)) (eFld "Stands" "begin" (eVar 3)))))
noncomputable def f_many_orders : Fn := fnM 3 4 m_many_orders
theorem sc_many_orders : FnScope ["hands", "manner", "chart", "stands"] ["hands", "manner", "chart"] (defScope (top 46)) := ⟨rfl, rfl, rfl, by decide +kernel, rfl, by decide +kernel, by decide +kernel⟩
theorem fn_many_orders (T : Tx P K mg) {fd : FuncData} (F : FunD K "many_orders" "many_orders" (defArgs (top 46)) (defBody (top 46)) (defScope (top 46)) [] [] (He.ga K "many_orders") fd) : FnOk P w K mg base (L2.CX P w) 12 (He.ga K "many_orders") fd ["hands", "manner", "chart"] (spM K f_many_orders) := by
  obtain ⟨fd_Stands___init__, ps_Stands___init__, F_Stands___init__, kp_Stands___init__, b_Stands___init__⟩ := (ok_Stands___init__ (P := P) (w := w) (base := base) T).ex
  refine fn_ok F sc_many_orders fun cdv A outer s H E hr tk => ?_
  have hN := sc_many_orders.nd
  exact (rss_cons (rs_set (i := 3) hN (re_make T.mk_Stands F_Stands___init__ (hr.mono (by decide)) T.g_Stands b_Stands___init__ (ra_cons (re_var (i := 0)) (ra_cons (re_var (i := 1)) (ra_cons (re_var (i := 2)) ra_nil)))))
    (rss_one (rs_ret (re_ix hr.u1 (re_fld T.c_Stands T.n_Stands_counts (re_var (i := 3))) (re_fld T.c_Stands T.n_Stands_begin (re_var (i := 3)))))))
theorem bi_many_orders {fd : FuncData} (F : FunD K "many_orders" "many_orders" (defArgs (top 46)) (defBody (top 46)) (defScope (top 46)) [] [] (He.ga K "many_orders") fd) : Binds K fd ["hands", "manner", "chart"] [] := F.bindsN fun _ _ _ _ _ _ us hl => match us, hl with | [_, _, _], _ => rfl
theorem ok_many_orders (T : Tx P K mg) : OkF P w K mg base 12 (He.ga K "many_orders") f_many_orders := by
  obtain ⟨fd, F⟩ := T.d_many_orders
  exact ⟨fd, _, fn_many_orders T F, F.kp, bi_many_orders F⟩
noncomputable def m_law : SM := (sSeq (sSet 1 (eFn f__law_bag (aCons (eVar 0) aNil)))
    (sSeq (sFor (iRg (eC (.int 6))) (.nm 2) (sSeq (sSet 3 (eSl (eTupS (aCons (eC (.str "a")) (aCons (eC (.str "b")) (aCons (eC (.str "c")) aNil)))) oNone (oSome (eOp addA (eC (.int 2)) (eFn f__law_take (aCons (eVar 1) (aCons (eC (.int 2)) aNil)))))))
    (sSeq (sSet 4 (eFn f__law_loose (aCons (eVar 1) (aCons (eVar 3) aNil))))
    (sSeq (sSet 5 (eLstR aNil))
    (sSeq (sFor (iT (eTup (aCons (eC (.str "order")) (aCons (eC (.str "any")) aNil)))) (.nm 6) (sSeq (sAsg (gTp 2 (gsCons (gNm 7) (gsCons (gNm 8) gsNil))) (eFn f__law_greedy (aCons (eVar 3) (aCons (eVar 6) (aCons (eVar 4) aNil)))))
    (sSeq (sSet 9 (eFn f__law_is_chart (aCons (eVar 3) (aCons (eVar 6) (aCons (eVar 4) aNil)))))
    (sSeq (sIf (mNot (asT (eFn f__law_alike (aCons (eFn f_is_chart (aCons (eVar 3) (aCons (eVar 6) (aCons (eVar 4) aNil)))) (aCons (eVar 9) aNil))))) (sRet (eC (.bl false))) sPass)
    (sSeq (sIf (mNot (asT (eFn f__law_alike (aCons (eFn f_stopped_at (aCons (eVar 3) (aCons (eVar 6) (aCons (eVar 4) aNil)))) (aCons (eIf (asT (eVar 9)) (eC .non) (eVar 8)) aNil))))) (sRet (eC (.bl false))) sPass)
    (sExpr (eBMT "list" appendA (eVar 5) (aCons (eVar 9) aNil))))))))
    (sSeq (sIf (mOr (mAnd (asT (eOp ixA (eVar 5) (eC (.int 0)))) (mNot (asT (eOp ixA (eVar 5) (eC (.int 1)))))) (mAnd (asT (eOp ixA (eVar 5) (eC (.int 1)))) (asB (eOp (eqA true) (eOp ixA (eVar 5) (eC (.int 0))) (eFn f__law_kept (aCons (eVar 3) (aCons (eVar 4) aNil))))))) (sRet (eC (.bl false))) sPass)
    (sSeq (sIf (mNot (asT (eFn f__law_alike (aCons (eFn f_is_of_both (aCons (eVar 3) (aCons (eVar 4) aNil))) (aCons (eAndB (eOp ixA (eVar 5) (eC (.int 0))) (eOp ixA (eVar 5) (eC (.int 1)))) aNil))))) (sRet (eC (.bl false))) sPass)
    (sSeq (sIf (asT (eOp ixA (eVar 5) (eC (.int 1)))) (sSeq (sSet 10 (eFn f_unlike_takes (aCons (eVar 3) (aCons (eVar 4) aNil))))
    (sIf (mOr (asB (eOp (eqA true) (eOp (eqA false) (eVar 10) (eTup aNil)) (eFn f__law_headed (aCons (eVar 3) (aCons (eVar 4) aNil))))) (mNot (asT (eFn f__law_alike (aCons (eFn f_charts_in_order (aCons (eTup (aCons (eVar 3) (aCons (eC (.str "any")) (aCons (eTup (aCons (eVar 4) aNil)) aNil)))) aNil)) (aCons (eIf (asT (eOp ixA (eVar 5) (eC (.int 0)))) (eTup (aCons (eC (.int 0)) aNil)) (eTup aNil)) aNil)))))) (sRet (eC (.bl false))) sPass)) sPass)
    (sIf (mAnd (asT (eOp ixA (eVar 5) (eC (.int 0)))) (asT (eOp ixA (eVar 5) (eC (.int 1))))) (sSeq (sSet 11 (eLc (iT (eTup (aCons (eC (.str "order")) (aCons (eC (.str "any")) aNil)))) (.nm 6) yesM (eFnN f__law_orders (aCons (eVar 3) (aCons (eVar 6) (aCons (eVar 4) (aCons (eC (.int 300)) aNil))))) [6]))
    (sIf (mAnd (asB (eOp (inA true) (eC .non) (eVar 11))) (asB (eOp (eqA true) (eLst (aCons (eFn f_many_orders (aCons (eVar 3) (aCons (eC (.str "order")) (aCons (eVar 4) aNil)))) (aCons (eFn f_many_orders (aCons (eVar 3) (aCons (eC (.str "any")) (aCons (eVar 4) aNil)))) aNil))) (eLc (iL (eVar 11)) (.nm 12) yesM (eCall lenA (aCons (eVar 12) aNil)) [12])))) (sRet (eC (.bl false))) sPass)) sPass)))))))))
    (sRet (eC (.bl true)))))
noncomputable def f_law : Fn := fnM 1 13 m_law
theorem sc_law : FnScope ["script", "bag", "lap", "hands", "rows", "both", "manner", "order", "stand", "due", "late", "orders", "its"] ["script"] (defScope (top 64)) := ⟨rfl, rfl, rfl, by decide +kernel, rfl, by decide +kernel, by decide +kernel⟩
theorem fn_law (T : Tx P K mg) {fd : FuncData} (F : FunD K "law" "law" (defArgs (top 64)) (defBody (top 64)) (defScope (top 64)) [] [] (He.ga K "law") fd) : FnG P w K mg base (L2.CX P w) 13 (He.ga K "law") fd ["script"] (spM K f_law) := by
  obtain ⟨fd__law_alike, ps__law_alike, F__law_alike, kp__law_alike, b__law_alike⟩ := (ok__law_alike (P := P) (w := w) (base := base) T).ex
  obtain ⟨fd__law_bag, ps__law_bag, F__law_bag, kp__law_bag, b__law_bag⟩ := (ok__law_bag (P := P) (w := w) (base := base) T).ex
  obtain ⟨fd__law_greedy, ps__law_greedy, F__law_greedy, kp__law_greedy, b__law_greedy⟩ := (ok__law_greedy (P := P) (w := w) (base := base) T).ex
  obtain ⟨fd__law_headed, ps__law_headed, F__law_headed, kp__law_headed, b__law_headed⟩ := (ok__law_headed (P := P) (w := w) (base := base) T).ex
  obtain ⟨fd__law_is_chart, ps__law_is_chart, F__law_is_chart, kp__law_is_chart, b__law_is_chart⟩ := (ok__law_is_chart (P := P) (w := w) (base := base) T).ex
  obtain ⟨fd__law_kept, ps__law_kept, F__law_kept, kp__law_kept, b__law_kept⟩ := (ok__law_kept (P := P) (w := w) (base := base) T).ex
  obtain ⟨fd__law_loose, ps__law_loose, F__law_loose, kp__law_loose, b__law_loose⟩ := (ok__law_loose (P := P) (w := w) (base := base) T).ex
  obtain ⟨fd__law_orders, ps__law_orders, F__law_orders, kp__law_orders, b__law_orders⟩ := (ok__law_orders (P := P) (w := w) (base := base) T).ex
  obtain ⟨fd__law_take, ps__law_take, F__law_take, kp__law_take, b__law_take⟩ := (ok__law_take (P := P) (w := w) (base := base) T).ex
  obtain ⟨fd_charts_in_order, ps_charts_in_order, F_charts_in_order, kp_charts_in_order, b_charts_in_order⟩ := (ok_charts_in_order (P := P) (w := w) (base := base) T).ex
  obtain ⟨fd_is_chart, ps_is_chart, F_is_chart, kp_is_chart, b_is_chart⟩ := (ok_is_chart (P := P) (w := w) (base := base) T).ex
  obtain ⟨fd_is_of_both, ps_is_of_both, F_is_of_both, kp_is_of_both, b_is_of_both⟩ := (ok_is_of_both (P := P) (w := w) (base := base) T).ex
  obtain ⟨fd_many_orders, ps_many_orders, F_many_orders, kp_many_orders, b_many_orders⟩ := (ok_many_orders (P := P) (w := w) (base := base) T).ex
  obtain ⟨fd_stopped_at, ps_stopped_at, F_stopped_at, kp_stopped_at, b_stopped_at⟩ := (ok_stopped_at (P := P) (w := w) (base := base) T).ex
  obtain ⟨fd_unlike_takes, ps_unlike_takes, F_unlike_takes, kp_unlike_takes, b_unlike_takes⟩ := (ok_unlike_takes (P := P) (w := w) (base := base) T).ex
  refine fn_okG F sc_law fun cdv A outer s H E hgd hr tk => ?_
  have hN := sc_law.nd
  exact (rss_cons (rs_set (i := 1) hN (re_call F__law_bag (hr.mono (by decide)) T.g__law_bag kp__law_bag b__law_bag tk (ra_cons (re_var (i := 0)) ra_nil)))
    (rss_cons (rs_for (passes_of rfl) rfl (ri_range re_int T.b_range) (pat_nm (i := 2) hN) (rss_cons (rs_set (i := 3) hN (re_sl (re_tupS (ra_cons re_str (ra_cons re_str (ra_cons re_str ra_nil)))) ro_none (ro_some (re_op op_addS re_int (re_call F__law_take (hr.mono (by decide)) T.g__law_take kp__law_take b__law_take tk (ra_cons (re_var (i := 1)) (ra_cons re_int ra_nil)))))))
    (rss_cons (rs_set (i := 4) hN (re_call F__law_loose (hr.mono (by decide)) T.g__law_loose kp__law_loose b__law_loose tk (ra_cons (re_var (i := 1)) (ra_cons (re_var (i := 3)) ra_nil))))
    (rss_cons (rs_set (i := 5) hN (re_lstR ra_nil))
    (rss_cons (rs_for (passes_of rfl) rfl (ri_tup (re_tup (ra_cons re_str (ra_cons re_str ra_nil)))) (pat_nm (i := 6) hN) (rss_cons (rs_asg (re_call F__law_greedy (hr.mono (by decide)) T.g__law_greedy kp__law_greedy b__law_greedy tk (ra_cons (re_var (i := 3)) (ra_cons (re_var (i := 6)) (ra_cons (re_var (i := 4)) ra_nil)))) (rg_tup rfl (rgs_cons (rg_name (i := 7) hN) (rgs_cons (rg_name (i := 8) hN) rgs_nil))))
    (rss_cons (rs_set (i := 9) hN (re_call F__law_is_chart (hr.mono (by decide)) T.g__law_is_chart kp__law_is_chart b__law_is_chart tk (ra_cons (re_var (i := 3)) (ra_cons (re_var (i := 6)) (ra_cons (re_var (i := 4)) ra_nil)))))
    (rss_cons (rs_if (rt_not (rt_truth (re_callG hgd F__law_alike (hr.mono (by decide)) T.g__law_alike kp__law_alike b__law_alike tk (ra_cons (re_call F_is_chart (hr.mono (by decide)) T.g_is_chart kp_is_chart b_is_chart tk (ra_cons (re_var (i := 3)) (ra_cons (re_var (i := 6)) (ra_cons (re_var (i := 4)) ra_nil)))) (ra_cons (re_var (i := 9)) ra_nil))))) (rss_one (rs_ret re_bl)) rss_nil)
    (rss_cons (rs_if (rt_not (rt_truth (re_callG hgd F__law_alike (hr.mono (by decide)) T.g__law_alike kp__law_alike b__law_alike tk (ra_cons (re_call F_stopped_at (hr.mono (by decide)) T.g_stopped_at kp_stopped_at b_stopped_at tk (ra_cons (re_var (i := 3)) (ra_cons (re_var (i := 6)) (ra_cons (re_var (i := 4)) ra_nil)))) (ra_cons (re_if (rt_truth (re_var (i := 9))) re_non (re_var (i := 8))) ra_nil))))) (rss_one (rs_ret re_bl)) rss_nil)
    (rss_one (rs_expr (re_bm PySem.F.plainAttrs_list PySem.F.slot_list_append PySem.F.type_list_append mt_appendS (re_var (i := 5)) (ra_cons (re_var (i := 9)) ra_nil)))))))))
    (rss_cons (rs_if (rt_bool (rw_or (rt_bool (rw_and (rt_truth (re_ix hr.u1 (re_var (i := 5)) re_int)) (rw_and1 (rt_not (rt_truth (re_ix hr.u1 (re_var (i := 5)) re_int)))))) (rw_or1 (rt_bool (rw_and (rt_truth (re_ix hr.u1 (re_var (i := 5)) re_int)) (rw_and1 (rt_cmp (op_neS hr.units) (re_ix hr.u1 (re_var (i := 5)) re_int) (re_call F__law_kept (hr.mono (by decide)) T.g__law_kept kp__law_kept b__law_kept tk (ra_cons (re_var (i := 3)) (ra_cons (re_var (i := 4)) ra_nil))) rfl))))))) (rss_one (rs_ret re_bl)) rss_nil)
    (rss_cons (rs_if (rt_not (rt_truth (re_callG hgd F__law_alike (hr.mono (by decide)) T.g__law_alike kp__law_alike b__law_alike tk (ra_cons (re_call F_is_of_both (hr.mono (by decide)) T.g_is_of_both kp_is_of_both b_is_of_both tk (ra_cons (re_var (i := 3)) (ra_cons (re_var (i := 4)) ra_nil))) (ra_cons (re_and (re_ix hr.u1 (re_var (i := 5)) re_int) (re_one (re_ix hr.u1 (re_var (i := 5)) re_int))) ra_nil))))) (rss_one (rs_ret re_bl)) rss_nil)
    (rss_cons (rs_if (rt_truth (re_ix hr.u1 (re_var (i := 5)) re_int)) (rss_cons (rs_set (i := 10) hN (re_call F_unlike_takes (hr.mono (by decide)) T.g_unlike_takes kp_unlike_takes b_unlike_takes tk (ra_cons (re_var (i := 3)) (ra_cons (re_var (i := 4)) ra_nil))))
    (rss_one (rs_if (rt_bool (rw_or (rt_cmp (op_neS hr.units) (re_cmp (op_eqS hr.units) (re_var (i := 10)) (re_tup ra_nil) rfl) (re_call F__law_headed (hr.mono (by decide)) T.g__law_headed kp__law_headed b__law_headed tk (ra_cons (re_var (i := 3)) (ra_cons (re_var (i := 4)) ra_nil))) rfl) (rw_or1 (rt_not (rt_truth (re_callG hgd F__law_alike (hr.mono (by decide)) T.g__law_alike kp__law_alike b__law_alike tk (ra_cons (re_call F_charts_in_order (hr.mono (by decide)) T.g_charts_in_order kp_charts_in_order b_charts_in_order tk (ra_cons (re_tup (ra_cons (re_var (i := 3)) (ra_cons re_str (ra_cons (re_tup (ra_cons (re_var (i := 4)) ra_nil)) ra_nil)))) ra_nil)) (ra_cons (re_if (rt_truth (re_ix hr.u1 (re_var (i := 5)) re_int)) (re_tup (ra_cons re_int ra_nil)) (re_tup ra_nil)) ra_nil)))))))) (rss_one (rs_ret re_bl)) rss_nil))) rss_nil)
    (rss_one (rs_if (rt_bool (rw_and (rt_truth (re_ix hr.u1 (re_var (i := 5)) re_int)) (rw_and1 (rt_truth (re_ix hr.u1 (re_var (i := 5)) re_int))))) (rss_cons (rs_setLc (i := 11) rfl hN (ri_tup (re_tup (ra_cons re_str (ra_cons re_str ra_nil)))) (own := [("manner", 6)]) (blkOk_by (by rfl)) (by decide) ⟨fun _ _ _ _ _ => ⟨(pat_nm (i := 6) hN), pts_nilS, (re_callN F__law_orders (hr.mono (by decide)) T.g__law_orders kp__law_orders b__law_orders (ra_cons (re_var (i := 3)) (ra_cons (re_var (i := 6)) (ra_cons (re_var (i := 4)) (ra_cons re_int ra_nil)))))⟩⟩ rfl)
    (rss_one (rs_if (rt_bool (rw_and (rt_cmp (op_notInS hr.u66) re_non (re_var (i := 11)) rfl) (rw_and1 (rt_cmp (op_neS hr.units) (re_lst (ra_cons (re_call F_many_orders (hr.mono (by decide)) T.g_many_orders kp_many_orders b_many_orders tk (ra_cons (re_var (i := 3)) (ra_cons re_str (ra_cons (re_var (i := 4)) ra_nil)))) (ra_cons (re_call F_many_orders (hr.mono (by decide)) T.g_many_orders kp_many_orders b_many_orders tk (ra_cons (re_var (i := 3)) (ra_cons re_str (ra_cons (re_var (i := 4)) ra_nil)))) ra_nil))) (re_lc rfl hN (ri_list (re_var (i := 11))) (own := [("its", 12)]) (blkOk_by (by rfl)) (by decide) ⟨fun _ _ _ _ _ => ⟨(pat_nm (i := 12) hN), pts_nilS, (re_callB call_lenS (ra_cons (re_var (i := 12)) ra_nil) bt_len T.b_len)⟩⟩) rfl)))) (rss_one (rs_ret re_bl)) rss_nil))) rss_nil))))))))))
    (rss_one (rs_ret re_bl))))
theorem bi_law {fd : FuncData} (F : FunD K "law" "law" (defArgs (top 64)) (defBody (top 64)) (defScope (top 64)) [] [] (He.ga K "law") fd) : Binds K fd ["script"] [] := F.bindsN fun _ _ _ _ _ _ us hl => match us, hl with | [_], _ => rfl
theorem ok_law (T : Tx P K mg) : OkG P w K mg base 13 (He.ga K "law") f_law := by
  obtain ⟨fd, F⟩ := T.d_law
  exact ⟨fd, _, fn_law T F, F.kp, bi_law F⟩
end
end K76
end S
set_option Elab.async false
set_option linter.all false
set_option maxRecDepth 100000
namespace S
namespace K76
open PySem PySem.Spec PyProof.Rows L2
theorem e_law (a0 : AV) (s : Sto) : f_law [a0] s = fin (m_law [some a0, none, none, none, none, none, none, none, none, none, none, none, none] s) := (fn_at (n := 1) (N := 13) (m := m_law) (as := [a0]) (s := s) rfl).trans (congrArg (fun z => fin (m_law z s)) rfl)
theorem e__law_bag (a0 : AV) (s : Sto) : f__law_bag [a0] s = fin (m__law_bag [some a0, none] s) := (fn_at (n := 1) (N := 2) (m := m__law_bag) (as := [a0]) (s := s) rfl).trans (congrArg (fun z => fin (m__law_bag z s)) rfl)
theorem e__law_take (a0 a1 : AV) (s : Sto) : f__law_take [a0, a1] s = fin (m__law_take [some a0, some a1, none, none, none, none, none] s) := (fn_at (n := 2) (N := 7) (m := m__law_take) (as := [a0, a1]) (s := s) rfl).trans (congrArg (fun z => fin (m__law_take z s)) rfl)
theorem e__law_loose (a0 a1 : AV) (s : Sto) : f__law_loose [a0, a1] s = fin (m__law_loose [some a0, some a1, none, none, none, none, none] s) := (fn_at (n := 2) (N := 7) (m := m__law_loose) (as := [a0, a1]) (s := s) rfl).trans (congrArg (fun z => fin (m__law_loose z s)) rfl)
theorem e__law_chart (a0 a1 a2 : AV) (s : Sto) : f__law_chart [a0, a1, a2] s = fin (m__law_chart [some a0, some a1, some a2, none, none, none, none, none, none, none, none, none, none, none] s) := (fn_at (n := 3) (N := 14) (m := m__law_chart) (as := [a0, a1, a2]) (s := s) rfl).trans (congrArg (fun z => fin (m__law_chart z s)) rfl)
theorem e__law_message (a0 a1 : AV) (s : Sto) : f__law_message [a0, a1] s = fin (m__law_message [some a0, some a1, none, none] s) := (fn_at (n := 2) (N := 4) (m := m__law_message) (as := [a0, a1]) (s := s) rfl).trans (congrArg (fun z => fin (m__law_message z s)) rfl)
theorem e__law_some (a0 a1 : AV) (s : Sto) : f__law_some [a0, a1] s = fin (m__law_some [some a0, some a1] s) := (fn_at (n := 2) (N := 2) (m := m__law_some) (as := [a0, a1]) (s := s) rfl).trans (congrArg (fun z => fin (m__law_some z s)) rfl)
theorem e__law_mixed (a0 a1 : AV) (s : Sto) : f__law_mixed [a0, a1] s = fin (m__law_mixed [some a0, some a1, none, none] s) := (fn_at (n := 2) (N := 4) (m := m__law_mixed) (as := [a0, a1]) (s := s) rfl).trans (congrArg (fun z => fin (m__law_mixed z s)) rfl)
theorem e__law_greedy (a0 a1 a2 : AV) (s : Sto) : f__law_greedy [a0, a1, a2] s = fin (m__law_greedy [some a0, some a1, some a2, none, none, none, none, none, none, none] s) := (fn_at (n := 3) (N := 10) (m := m__law_greedy) (as := [a0, a1, a2]) (s := s) rfl).trans (congrArg (fun z => fin (m__law_greedy z s)) rfl)
theorem e__law_can (a0 a1 a2 a3 a4 : AV) (s : Sto) : f__law_can [a0, a1, a2, a3, a4] s = fin (m__law_can [some a0, some a1, some a2, some a3, some a4, none] s) := (fn_at (n := 5) (N := 6) (m := m__law_can) (as := [a0, a1, a2, a3, a4]) (s := s) rfl).trans (congrArg (fun z => fin (m__law_can z s)) rfl)
theorem e__law_queue (a0 a1 a2 a3 a4 : AV) (s : Sto) : f__law_queue [a0, a1, a2, a3, a4] s = fin (m__law_queue [some a0, some a1, some a2, some a3, some a4, none, none, none, none, none, none] s) := (fn_at (n := 5) (N := 11) (m := m__law_queue) (as := [a0, a1, a2, a3, a4]) (s := s) rfl).trans (congrArg (fun z => fin (m__law_queue z s)) rfl)
theorem e__law_is_chart (a0 a1 a2 : AV) (s : Sto) : f__law_is_chart [a0, a1, a2] s = fin (m__law_is_chart [some a0, some a1, some a2, none, none, none] s) := (fn_at (n := 3) (N := 6) (m := m__law_is_chart) (as := [a0, a1, a2]) (s := s) rfl).trans (congrArg (fun z => fin (m__law_is_chart z s)) rfl)
theorem e__law_lying (a0 a1 a2 : AV) (s : Sto) : f__law_lying [a0, a1, a2] s = fin (m__law_lying [some a0, some a1, some a2, none, none, none, none] s) := (fn_at (n := 3) (N := 7) (m := m__law_lying) (as := [a0, a1, a2]) (s := s) rfl).trans (congrArg (fun z => fin (m__law_lying z s)) rfl)
theorem e_is_chart (a0 a1 a2 : AV) (s : Sto) : f_is_chart [a0, a1, a2] s = fin (m_is_chart [some a0, some a1, some a2] s) := (fn_at (n := 3) (N := 3) (m := m_is_chart) (as := [a0, a1, a2]) (s := s) rfl).trans (congrArg (fun z => fin (m_is_chart z s)) rfl)
theorem e_checked_chart (a0 a1 a2 : AV) (s : Sto) : f_checked_chart [a0, a1, a2] s = fin (m_checked_chart [some a0, some a1, some a2] s) := (fn_at (n := 3) (N := 3) (m := m_checked_chart) (as := [a0, a1, a2]) (s := s) rfl).trans (congrArg (fun z => fin (m_checked_chart z s)) rfl)
theorem e_check_manner (a0 a1 : AV) (s : Sto) : f_check_manner [a0, a1] s = fin (m_check_manner [some a0, some a1] s) := (fn_at (n := 2) (N := 2) (m := m_check_manner) (as := [a0, a1]) (s := s) rfl).trans (congrArg (fun z => fin (m_check_manner z s)) rfl)
theorem e_check_hands (a0 : AV) (s : Sto) : f_check_hands [a0] s = fin (m_check_hands [some a0] s) := (fn_at (n := 1) (N := 1) (m := m_check_hands) (as := [a0]) (s := s) rfl).trans (congrArg (fun z => fin (m_check_hands z s)) rfl)
theorem e_is_hands (a0 : AV) (s : Sto) : f_is_hands [a0] s = fin (m_is_hands [some a0, none, none] s) := (fn_at (n := 1) (N := 3) (m := m_is_hands) (as := [a0]) (s := s) rfl).trans (congrArg (fun z => fin (m_is_hands z s)) rfl)
theorem e_is_tuple_of_of_is_name (a0 a1 : AV) (s : Sto) : f_is_tuple_of_of_is_name [a0, a1] s = fin (m_is_tuple_of_of_is_name [some a0, some a1, none] s) := (fn_at (n := 2) (N := 3) (m := m_is_tuple_of_of_is_name) (as := [a0, a1]) (s := s) rfl).trans (congrArg (fun z => fin (m_is_tuple_of_of_is_name z s)) rfl)
theorem e_is_name (a0 : AV) (s : Sto) : f_is_name [a0] s = fin (m_is_name [some a0, none] s) := (fn_at (n := 1) (N := 2) (m := m_is_name) (as := [a0]) (s := s) rfl).trans (congrArg (fun z => fin (m_is_name z s)) rfl)
theorem e_checked_rows (a0 a1 : AV) (s : Sto) : f_checked_rows [a0, a1] s = fin (m_checked_rows [some a0, some a1, none, none, none, none, none] s) := (fn_at (n := 2) (N := 7) (m := m_checked_rows) (as := [a0, a1]) (s := s) rfl).trans (congrArg (fun z => fin (m_checked_rows z s)) rfl)
theorem e_is_rows (a0 : AV) (s : Sto) : f_is_rows [a0] s = fin (m_is_rows [some a0] s) := (fn_at (n := 1) (N := 1) (m := m_is_rows) (as := [a0]) (s := s) rfl).trans (congrArg (fun z => fin (m_is_rows z s)) rfl)
theorem e_is_tuple_of_of_is_row (a0 a1 : AV) (s : Sto) : f_is_tuple_of_of_is_row [a0, a1] s = fin (m_is_tuple_of_of_is_row [some a0, some a1, none] s) := (fn_at (n := 2) (N := 3) (m := m_is_tuple_of_of_is_row) (as := [a0, a1]) (s := s) rfl).trans (congrArg (fun z => fin (m_is_tuple_of_of_is_row z s)) rfl)
theorem e_is_row (a0 : AV) (s : Sto) : f_is_row [a0] s = fin (m_is_row [some a0] s) := (fn_at (n := 1) (N := 1) (m := m_is_row) (as := [a0]) (s := s) rfl).trans (congrArg (fun z => fin (m_is_row z s)) rfl)
theorem e_is_tuple_of_of_is_event (a0 a1 : AV) (s : Sto) : f_is_tuple_of_of_is_event [a0, a1] s = fin (m_is_tuple_of_of_is_event [some a0, some a1, none] s) := (fn_at (n := 2) (N := 3) (m := m_is_tuple_of_of_is_event) (as := [a0, a1]) (s := s) rfl).trans (congrArg (fun z => fin (m_is_tuple_of_of_is_event z s)) rfl)
theorem e_is_event (a0 : AV) (s : Sto) : f_is_event [a0] s = fin (m_is_event [some a0] s) := (fn_at (n := 1) (N := 1) (m := m_is_event) (as := [a0]) (s := s) rfl).trans (congrArg (fun z => fin (m_is_event z s)) rfl)
theorem e_is_sized (a0 a1 : AV) (s : Sto) : f_is_sized [a0, a1] s = fin (m_is_sized [some a0, some a1] s) := (fn_at (n := 2) (N := 2) (m := m_is_sized) (as := [a0, a1]) (s := s) rfl).trans (congrArg (fun z => fin (m_is_sized z s)) rfl)
theorem e_played (a0 a1 a2 : AV) (s : Sto) : f_played [a0, a1, a2] s = fin (m_played [some a0, some a1, some a2, none, none, none] s) := (fn_at (n := 3) (N := 6) (m := m_played) (as := [a0, a1, a2]) (s := s) rfl).trans (congrArg (fun z => fin (m_played z s)) rfl)
theorem e_Playing___init__ (a0 a1 a2 a3 : AV) (s : Sto) : f_Playing___init__ [a0, a1, a2, a3] s = fin (m_Playing___init__ [some a0, some a1, some a2, some a3] s) := (fn_at (n := 4) (N := 4) (m := m_Playing___init__) (as := [a0, a1, a2, a3]) (s := s) rfl).trans (congrArg (fun z => fin (m_Playing___init__ z s)) rfl)
theorem e_Playing_ready (a0 : AV) (s : Sto) : f_Playing_ready [a0] s = fin (m_Playing_ready [some a0, none] s) := (fn_at (n := 1) (N := 2) (m := m_Playing_ready) (as := [a0]) (s := s) rfl).trans (congrArg (fun z => fin (m_Playing_ready z s)) rfl)
theorem e_Playing_can_go (a0 a1 : AV) (s : Sto) : f_Playing_can_go [a0, a1] s = fin (m_Playing_can_go [some a0, some a1, none, none, none, none, none] s) := (fn_at (n := 2) (N := 7) (m := m_Playing_can_go) (as := [a0, a1]) (s := s) rfl).trans (congrArg (fun z => fin (m_Playing_can_go z s)) rfl)
theorem e_Playing_next_event (a0 a1 : AV) (s : Sto) : f_Playing_next_event [a0, a1] s = fin (m_Playing_next_event [some a0, some a1, none] s) := (fn_at (n := 2) (N := 3) (m := m_Playing_next_event) (as := [a0, a1]) (s := s) rfl).trans (congrArg (fun z => fin (m_Playing_next_event z s)) rfl)
theorem e_Playing_go (a0 a1 : AV) (s : Sto) : f_Playing_go [a0, a1] s = fin (m_Playing_go [some a0, some a1, none, none, none, none, none, none] s) := (fn_at (n := 2) (N := 8) (m := m_Playing_go) (as := [a0, a1]) (s := s) rfl).trans (congrArg (fun z => fin (m_Playing_go z s)) rfl)
theorem e_Playing_is_over (a0 : AV) (s : Sto) : f_Playing_is_over [a0] s = fin (m_Playing_is_over [some a0, none] s) := (fn_at (n := 1) (N := 2) (m := m_Playing_is_over) (as := [a0]) (s := s) rfl).trans (congrArg (fun z => fin (m_Playing_is_over z s)) rfl)
theorem e_Playing_queues (a0 : AV) (s : Sto) : f_Playing_queues [a0] s = fin (m_Playing_queues [some a0, none, none, none] s) := (fn_at (n := 1) (N := 4) (m := m_Playing_queues) (as := [a0]) (s := s) rfl).trans (congrArg (fun z => fin (m_Playing_queues z s)) rfl)
theorem e__law_alike (a0 a1 : AV) (s : Sto) : f__law_alike [a0, a1] s = fin (m__law_alike [some a0, some a1] s) := (fn_at (n := 2) (N := 2) (m := m__law_alike) (as := [a0, a1]) (s := s) rfl).trans (congrArg (fun z => fin (m__law_alike z s)) rfl)
theorem e_stopped_at (a0 a1 a2 : AV) (s : Sto) : f_stopped_at [a0, a1, a2] s = fin (m_stopped_at [some a0, some a1, some a2, none] s) := (fn_at (n := 3) (N := 4) (m := m_stopped_at) (as := [a0, a1, a2]) (s := s) rfl).trans (congrArg (fun z => fin (m_stopped_at z s)) rfl)
theorem e__law_kept (a0 a1 : AV) (s : Sto) : f__law_kept [a0, a1] s = fin (m__law_kept [some a0, some a1, none, none, none, none, none, none, none] s) := (fn_at (n := 2) (N := 9) (m := m__law_kept) (as := [a0, a1]) (s := s) rfl).trans (congrArg (fun z => fin (m__law_kept z s)) rfl)
theorem e_is_of_both (a0 a1 : AV) (s : Sto) : f_is_of_both [a0, a1] s = fin (m_is_of_both [some a0, some a1] s) := (fn_at (n := 2) (N := 2) (m := m_is_of_both) (as := [a0, a1]) (s := s) rfl).trans (congrArg (fun z => fin (m_is_of_both z s)) rfl)
theorem e_unlike_takes (a0 a1 : AV) (s : Sto) : f_unlike_takes [a0, a1] s = fin (m_unlike_takes [some a0, some a1, none, none, none, none, none, none] s) := (fn_at (n := 2) (N := 8) (m := m_unlike_takes) (as := [a0, a1]) (s := s) rfl).trans (congrArg (fun z => fin (m_unlike_takes z s)) rfl)
theorem e__law_headed (a0 a1 : AV) (s : Sto) : f__law_headed [a0, a1] s = fin (m__law_headed [some a0, some a1, none, none, none, none, none, none, none, none, none, none, none, none, none, none] s) := (fn_at (n := 2) (N := 16) (m := m__law_headed) (as := [a0, a1]) (s := s) rfl).trans (congrArg (fun z => fin (m__law_headed z s)) rfl)
theorem e_charts_in_order (a0 : AV) (s : Sto) : f_charts_in_order [a0] s = fin (m_charts_in_order [some a0, none, none, none, none, none] s) := (fn_at (n := 1) (N := 6) (m := m_charts_in_order) (as := [a0]) (s := s) rfl).trans (congrArg (fun z => fin (m_charts_in_order z s)) rfl)
theorem e_checked_lot (a0 : AV) (s : Sto) : f_checked_lot [a0] s = fin (m_checked_lot [some a0, none, none, none, none, none, none, none, none, none] s) := (fn_at (n := 1) (N := 10) (m := m_checked_lot) (as := [a0]) (s := s) rfl).trans (congrArg (fun z => fin (m_checked_lot z s)) rfl)
theorem e_is_lot_form (a0 : AV) (s : Sto) : f_is_lot_form [a0] s = fin (m_is_lot_form [some a0] s) := (fn_at (n := 1) (N := 1) (m := m_is_lot_form) (as := [a0]) (s := s) rfl).trans (congrArg (fun z => fin (m_is_lot_form z s)) rfl)
theorem e_is_tuple_of_of_is_rows (a0 a1 : AV) (s : Sto) : f_is_tuple_of_of_is_rows [a0, a1] s = fin (m_is_tuple_of_of_is_rows [some a0, some a1, none] s) := (fn_at (n := 2) (N := 3) (m := m_is_tuple_of_of_is_rows) (as := [a0, a1]) (s := s) rfl).trans (congrArg (fun z => fin (m_is_tuple_of_of_is_rows z s)) rfl)
theorem e_fault_of (a0 a1 a2 : AV) (s : Sto) : f_fault_of [a0, a1, a2] s = fin (m_fault_of [some a0, some a1, some a2, none] s) := (fn_at (n := 3) (N := 4) (m := m_fault_of) (as := [a0, a1, a2]) (s := s) rfl).trans (congrArg (fun z => fin (m_fault_of z s)) rfl)
theorem e__law_orders (a0 a1 a2 a3 : AV) (s : Sto) : f__law_orders [a0, a1, a2, a3] s = fin (m__law_orders [some a0, some a1, some a2, some a3, none, none, none, none, none, none, none, none, none, none] s) := (fn_at (n := 4) (N := 14) (m := m__law_orders) (as := [a0, a1, a2, a3]) (s := s) rfl).trans (congrArg (fun z => fin (m__law_orders z s)) rfl)
theorem e_many_orders (a0 a1 a2 : AV) (s : Sto) : f_many_orders [a0, a1, a2] s = fin (m_many_orders [some a0, some a1, some a2, none] s) := (fn_at (n := 3) (N := 4) (m := m_many_orders) (as := [a0, a1, a2]) (s := s) rfl).trans (congrArg (fun z => fin (m_many_orders z s)) rfl)
theorem e_Stands___init__ (a0 a1 a2 a3 : AV) (s : Sto) : f_Stands___init__ [a0, a1, a2, a3] s = fin (m_Stands___init__ [some a0, some a1, some a2, some a3, none, none, none, none] s) := (fn_at (n := 4) (N := 8) (m := m_Stands___init__) (as := [a0, a1, a2, a3]) (s := s) rfl).trans (congrArg (fun z => fin (m_Stands___init__ z s)) rfl)
theorem e_Stands_behind (a0 a1 : AV) (s : Sto) : f_Stands_behind [a0, a1] s = fin (m_Stands_behind [some a0, some a1, none] s) := (fn_at (n := 2) (N := 3) (m := m_Stands_behind) (as := [a0, a1]) (s := s) rfl).trans (congrArg (fun z => fin (m_Stands_behind z s)) rfl)
theorem e_put_at (a0 a1 : AV) (s : Sto) : f_put_at [a0, a1] s = fin (m_put_at [some a0, some a1, none, none] s) := (fn_at (n := 2) (N := 4) (m := m_put_at) (as := [a0, a1]) (s := s) rfl).trans (congrArg (fun z => fin (m_put_at z s)) rfl)
theorem e_Stands_led (a0 a1 a2 : AV) (s : Sto) : f_Stands_led [a0, a1, a2] s = fin (m_Stands_led [some a0, some a1, some a2] s) := (fn_at (n := 3) (N := 3) (m := m_Stands_led) (as := [a0, a1, a2]) (s := s) rfl).trans (congrArg (fun z => fin (m_Stands_led z s)) rfl)
theorem e_Stands_sum_behind (a0 a1 : AV) (s : Sto) : f_Stands_sum_behind [a0, a1] s = fin (m_Stands_sum_behind [some a0, some a1, none] s) := (fn_at (n := 2) (N := 3) (m := m_Stands_sum_behind) (as := [a0, a1]) (s := s) rfl).trans (congrArg (fun z => fin (m_Stands_sum_behind z s)) rfl)
end K76
end S
set_option Elab.async false
set_option linter.all false
set_option maxRecDepth 100000
set_option maxHeartbeats 4000000
namespace S
namespace K76
open PySem PySem.Spec PyProof.Rows L2
/-- the law's bag -/
def bagL (x0 x1 x2 : Int) (cs : List Int) : List AV := [.int x0, .int x1, .int x2, .lst (cs.map AV.int)]
structure BagOk (l : List AV) : Prop where
  ex : ∃ x0 x1 x2 cs, l = bagL x0 x1 x2 cs ∧ 0 ≤ x0 ∧ 0 ≤ x1 ∧ x1 < 2147483647 ∧ 0 ≤ x2 ∧ (∀ c ∈ cs, 0 ≤ c) ∧ cs.length ≤ 63
/-- what is stirred, as a number -/
def rnd (z : Int) : Int := ((z + 1) * 39373 % 1000000007 * ((z + 1) * 39373 % 1000000007)) % 998244353 * 30011 % 998244353 / 7
theorem take_eq {s : Sto} {b : Nat} {l : List AV} {many : Int} (hs : s[b]? = some (.lst l)) (hb : BagOk l) (hm : 0 < many) (hm2 : many < 1000) :
    ∃ r l', f__law_take [.ref b, .int many] s = .ok (.int r) (s.set b (.lst l')) ∧ 0 ≤ r ∧ r < many ∧ BagOk l' := by
  obtain ⟨x0, x1, x2, cs, rfl, p0, p1, p1', p2, pc, pl⟩ := hb.ex
  have bl : b < s.length := (List.getElem?_eq_some_iff.mp hs).1
  rw [← self_set hs]
  generalize s = s at bl
  have m2 : 0 < many ∧ many < 1073741824 := ⟨hm, by omega⟩
  have u1 : ∀ (z : Int) s, mulA false (.int z) (.int 39373) s = some (.int (z * 39373), s) := fun z s => x_mulI (.inr (by decide))
  have u2 : ∀ (z : Int) s, mulA false (.int (z % 1000000007)) (.int (z % 1000000007)) s = some (.int (z % 1000000007 * (z % 1000000007)), s) := fun z s => x_mulI (.inl (by omega))
  have u3 : ∀ (z : Int) s, mulA false (.int z) (.int 30011) s = some (.int (z * 30011), s) := fun z s => x_mulI (.inr (by decide))
  have u4 : ∀ (z : Int) s, mulA false (.int z) (.int 48271) s = some (.int (z * 48271), s) := fun z s => x_mulI (.inr (by decide))
  have u5 : ∀ (z : Int) s, mulA false (.int 7919) (.int z) s = some (.int (7919 * z), s) := fun z s => x_mulI (.inl (by decide))
  rw [e__law_take]
  unfold m__law_take
  by_cases z : x0 = 0
  · subst z
    obtain ⟨c, hc0, hc⟩ : ∃ c : Int, 0 ≤ c ∧ L2.atI (cutL (cs.map AV.int) (some x2) none ++ [.int 0]) 0 = some (.int c) := by
      have q : cutL (cs.map AV.int) (some x2) none = (cs.drop x2.toNat).map AV.int := by
        have := cutL_drop (cs.map AV.int) x2.toNat
        rw [Int.toNat_of_nonneg p2] at this
        rw [this, List.map_drop]
      rw [q]
      cases h : cs.drop x2.toNat with
      | nil => exact ⟨0, by decide, rfl⟩
      | cons c r => exact ⟨c, pc c (List.mem_of_mem_drop (by rw [h]; simp)), atI_some (k := 0) rfl⟩
    have ad : ∀ s, addA (.lst (cutL (cs.map AV.int) (some x2) none)) (.lst [.int 0]) s = some (.lst (cutL (cs.map AV.int) (some x2) none ++ [.int 0]), s) := fun s => x_addL (by
      have : (cutL (cs.map AV.int) (some x2) none).length ≤ cs.length := by
        unfold cutL
        rw [List.length_take, List.length_drop, List.length_map]
        omega
      simp only [List.length_cons, List.length_nil]
      omega)
    have ag : ∀ e, aug2 (eC (.int 1)) (.ref b) (.int 2) e (s.set b (.lst [.int 0, .int x1, .int x2, .lst (cs.map AV.int)])) = bS (eC (.int 1) e (s.set b (.lst [.int 0, .int x1, .int x2, .lst (cs.map AV.int)]))) e (aug3 (.ref b) (.int 2) x2) := fun e => x_aug2I (List.getElem?_set_self bl) (by decide) rfl
    by_cases w : 1000000000000000000 ≤ c
    · refine ⟨c % many, bagL (c / many) ((x1 * 48271 + c % 2147483647 + 7919 * (x2 + 1)) % 2147483647) (x2 + 1) cs, ?_, Int.emod_nonneg _ (by omega), Int.emod_lt_of_pos _ hm, ⟨⟨c / many, _, x2 + 1, cs, rfl, Int.ediv_nonneg (by omega) (by omega), by omega, by omega, by omega, pc, pl⟩⟩⟩
      simp [ixA_at bl, setA_at bl, ad, ixA_lst hc, ag, w, bagL, L2.atI, L2.ixN, m2, hm, u4, u5, show 0 < c by omega]
    · refine ⟨_, bagL 0 ((x1 * 48271 + c % 2147483647 + 7919 * (x2 + 1)) % 2147483647) (x2 + 1) cs, ?_, Int.emod_nonneg (rnd ((x1 * 48271 + c % 2147483647 + 7919 * (x2 + 1)) % 2147483647)) (by omega), Int.emod_lt_of_pos _ hm, ⟨⟨0, _, x2 + 1, cs, rfl, by decide, by omega, by omega, by omega, pc, pl⟩⟩⟩
      simp [ixA_at bl, setA_at bl, ad, ixA_lst hc, ag, w, bagL, L2.atI, L2.ixN, m2, hm, u1, u2, u3, u4, u5, rnd]
  · refine ⟨x0 % many, bagL (x0 / many) x1 x2 cs, ?_, Int.emod_nonneg _ (by omega), Int.emod_lt_of_pos _ hm, ⟨⟨x0 / many, x1, x2, cs, rfl, Int.ediv_nonneg (by omega) (by omega), p1, p1', p2, pc, pl⟩⟩⟩
    simp [ixA_at bl, setA_at bl, z, bagL, L2.atI, L2.ixN, show 0 < x0 by omega, m2, hm]
end K76
end S
set_option Elab.async false
set_option linter.all false
set_option maxRecDepth 100000
set_option maxHeartbeats 4000000
/-! Mathematics, C: the law's own functions over charts. -/
namespace S
namespace K76
open PySem PySem.Spec PyProof.Rows L2 Pm
/-! ### charts as values -/
def hnS : Nat → Str
  | 0 => "a"
  | 1 => "b"
  | _ => "c"
def ltS (l : Fin 3) : Str := match l with
  | 0 => "x"
  | 1 => "y"
  | 2 => "z"
theorem hnS_ok (h : Nat) : PyData.strOk (hnS h) = true := by
  unfold hnS
  split <;> decide +kernel
theorem ltS_ok (l : Fin 3) : PyData.strOk (ltS l) = true := by revert l; decide +kernel
theorem hnS_inj {h g : Nat} (hh : h < 3) (hg : g < 3) (e : hnS h = hnS g) : h = g := by
  have : ∀ h, h < 3 → ∀ g, g < 3 → hnS h = hnS g → h = g := by decide
  exact this h hh g hg e
theorem ltS_inj {l k : Fin 3} (e : ltS l = ltS k) : l = k := by
  have : ∀ l k : Fin 3, ltS l = ltS k → l = k := by decide
  exact this l k e
def wdS (b : Bool) : Str := if b then "give" else "take"
def evA (e : Ev) : AV := .tup [.str (wdS e.g), .str (hnS e.o), .str (ltS e.l)]
def rowA (r : Pm.Row) : AV := .tup (r.map evA)
def rowsA (rs : Rows) : AV := .tup (rs.map rowA)
def hnA (h : Nat) : AV := .str (hnS h)
def handsA (n : Nat) : AV := .tpS ((List.range n).map hnA)
def mnS (m : Bool) : Str := if m then "order" else "any"
def mnA (m : Bool) : AV := .str (mnS m)
def ltA (l : Fin 3) : AV := .str (ltS l)
def qO (o : Option (List (Fin 3))) : AV := match o with
  | some q => .tup (q.map ltA)
  | none => .non
theorem wd_give (b : Bool) (n : Bool) (s : Sto) : eqA n (.str (wdS b)) (.str "give") s = some (.bl (if n then !b else b), s) := by
  cases b <;> cases n <;> exact eqA_str _ (by decide +kernel) (by decide +kernel)
theorem wd_take (b : Bool) (n : Bool) (s : Sto) : eqA n (.str (wdS b)) (.str "take") s = some (.bl (if n then b else !b), s) := by
  cases b <;> cases n <;> exact eqA_str _ (by decide +kernel) (by decide +kernel)
theorem mn_order (m : Bool) (s : Sto) : eqA false (.str (mnS m)) (.str "order") s = some (.bl m, s) := by
  cases m <;> exact eqA_str _ (by decide +kernel) (by decide +kernel)
theorem hn_eq {h g : Nat} (hh : h < 3) (hg : g < 3) (n : Bool) (s : Sto) : eqA n (.str (hnS h)) (.str (hnS g)) s = some (.bl (if n then !decide (h = g) else decide (h = g)), s) := by
  rw [eqA_str n (hnS_ok h) (hnS_ok g)]
  have : (hnS h = hnS g) ↔ h = g := ⟨hnS_inj hh hg, fun e => by rw [e]⟩
  simp only [this]
theorem rows_at {n : Nat} {rs : Rows} (w : Wf n rs) {h : Nat} (hh : h < n) (s : Sto) : ixA (rowsA rs) (.int (h : Nat)) s = some (rowA (rs.getD h []), s) := by
  refine ixA_tup (atI_some ?_)
  rw [List.getElem?_map, (w.row hh).1]; rfl
theorem hands_at {n h : Nat} (hh : h < n) (s : Sto) : ixA (handsA n) (.int (h : Nat)) s = some (hnA h, s) := by
  refine ixA_tpS (atI_some ?_)
  rw [List.getElem?_map, List.getElem?_range hh]; rfl
theorem row_at {r : Pm.Row} {k : Nat} {e : Ev} (h : r[k]? = some e) (s : Sto) : ixA (rowA r) (.int (k : Nat)) s = some (evA e, s) := by
  refine ixA_tup (atI_some ?_)
  rw [List.getElem?_map, h]; rfl
theorem pl_lts : ∀ q : List (Fin 3), Pls 0 (q.map ltA) (q.map fun l => PyData.str (ltS l)) := fun q => Pls.map q fun l _ => Pl.str (ltS_ok l) 0
theorem lts_inj {q r : List (Fin 3)} : (q.map fun l => PyData.str (ltS l)) = (r.map fun l => PyData.str (ltS l)) ↔ q = r := by
  induction q generalizing r with
  | nil => cases r <;> simp
  | cons a q ih =>
    cases r with
    | nil => simp
    | cons b r =>
      simp only [List.map_cons, List.cons.injEq, ih]
      constructor
      · rintro ⟨h, rfl⟩
        exact ⟨ltS_inj (by injection h), rfl⟩
      · rintro ⟨rfl, rfl⟩
        exact ⟨rfl, rfl⟩
/-- a letter in letters -/
theorem in_lts (q : List (Fin 3)) (l : Fin 3) (n : Bool) (s : Sto) (a : AV) (ha : a = .lst (q.map ltA) ∨ a = .tup (q.map ltA) ∨ a = .tpS (q.map ltA)) : inA n (ltA l) a s = some (.bl (if n then !decide (l ∈ q) else decide (l ∈ q)), s) := by
  have key : ((q.map fun l => PyData.str (ltS l)).any fun z => PyData.eqv z (.str (ltS l))) = decide (l ∈ q) := by
    rw [Bool.eq_iff_iff, List.any_eq_true, decide_eq_true_iff]
    constructor
    · rintro ⟨z, hz, e⟩
      obtain ⟨k, hk, rfl⟩ := List.mem_map.mp hz
      have : PyData.str (ltS k) = PyData.str (ltS l) := (eqv_gd _ _ (by simpa [gd] using ltS_ok k) (by simpa [gd] using ltS_ok l)).mp e
      have : k = l := ltS_inj (by injection this)
      exact this ▸ hk
    · intro hl
      exact ⟨_, List.mem_map.mpr ⟨l, hl, rfl⟩, (eqv_gd _ _ (by simpa [gd] using ltS_ok l) (by simpa [gd] using ltS_ok l)).mpr rfl⟩
  have p := pl_lts q
  have sl : SeqAt.shaped (.str (ltS l)) = true := (Pl.str (ltS_ok l) 0).s (s := s) |>.shaped
  rcases ha with rfl | rfl | rfl
  · have sh := (Pl.lst p).s (s := s) |>.shaped
    simp only [inA, inB, dgetA, pdA, ltA, pd, p.1, Option.map_some, Option.bind_some, seqD, sh, sl, and_self, if_true, key]
  · have sh := (Pl.tup p).s (s := s) |>.shaped
    simp only [inA, inB, dgetA, pdA, ltA, pd, p.1, Option.map_some, Option.bind_some, seqD, sh, sl, and_self, if_true, key]
  · have sh := (Pl.tpS p).s (s := s) |>.shaped
    simp only [inA, inB, dgetA, pdA, ltA, pd, p.1, Option.map_some, Option.bind_some, seqD, sh, sl, and_self, if_true, key]
theorem eq_lts (q r : List (Fin 3)) (n : Bool) (s : Sto) : eqA n (.lst (q.map ltA)) (.lst (r.map ltA)) s = some (.bl (if n then !decide (q = r) else decide (q = r)), s) :=
  eqA_pl n ((Pl.lst (pl_lts q)).s (s := s)) ((Pl.lst (pl_lts r)).s (s := s)) (by rw [PyData.list.injEq, lts_inj])
theorem idx_lts (q : List (Fin 3)) (l : Fin 3) (h : l ∈ q) (s : Sto) (a : AV) (ha : seqA a s = some (q.map ltA)) : indexA a [ltA l] s = some (.int (q.idxOf l : Nat), s) := by
  have st : ∀ q : List (Fin 3), strsA (q.map ltA) = some (q.map ltS) := fun q => by
    induction q with
    | nil => rfl
    | cons x q ih => show (strsA (q.map ltA)).map _ = _; rw [ih]; rfl
  have ix : ∀ q : List (Fin 3), (q.map ltS).idxOf (ltS l) = q.idxOf l := fun q => by
    induction q with
    | nil => rfl
    | cons x q ih =>
      rw [List.map_cons, List.idxOf_cons, List.idxOf_cons, ih]
      have : (ltS x == ltS l) = (x == l) := by
        rw [Bool.eq_iff_iff, beq_iff_eq, beq_iff_eq]
        exact ⟨ltS_inj, fun e => by rw [e]⟩
      rw [this]
  unfold indexA
  simp only [ltA, ha, Option.bind_some, st, idxS]
  rw [if_pos (List.mem_map.mpr ⟨l, h, rfl⟩), Option.map_some, ix]
theorem mnA_order (m : Bool) (s : Sto) : eqA false (mnA m) (.str "order") s = some (.bl m, s) := mn_order m s
theorem hands_tm {n : Nat} {g : GM} {ms : AM} {e : AE} {s : Sto} : tmC g ms (handsA n) e s = bEA (ms e s) e (bmD g (handsA n)) := rfl
theorem hands_tps {n : Nat} : tpsOk (handsA n) = true := rfl
theorem hands_len {n : Nat} {s : Sto} : lenA [handsA n] s = some (.int (n : Nat), s) := by
  show some (AV.int (((List.range n).map hnA).length : Nat), s) = _
  rw [List.length_map, List.length_range]
theorem rows_len {rs : Rows} {s : Sto} : lenA [rowsA rs] s = some (.int (rs.length : Nat), s) := by
  show some (AV.int ((rs.map rowA).length : Nat), s) = _
  rw [List.length_map]
theorem row_len {r : Pm.Row} {s : Sto} : lenA [rowA r] s = some (.int (r.length : Nat), s) := by
  show some (AV.int ((r.map evA).length : Nat), s) = _
  rw [List.length_map]
theorem row_take (r : Pm.Row) (k : Nat) (s : Sto) : slA (rowA r) none (some (k : Int)) s = some (rowA (r.take k), s) := by
  show some (AV.tup (cutL (r.map evA) none (some (k : Int))), s) = _
  rw [cutL_take, ← List.map_take]; rfl
theorem rows_src {rs : Rows} {s : Sto} : tSrc (.ok (rowsA rs) s) = .ok ⟨rs.map rowA, []⟩ s := rfl
theorem row_src {r : Pm.Row} {s : Sto} : tSrc (.ok (rowA r) s) = .ok ⟨r.map evA, []⟩ s := rfl
theorem hands_src {n : Nat} {s : Sto} : tSrc (.ok (handsA n) s) = .ok ⟨(List.range n).map hnA, []⟩ s := rfl
theorem zeros_mul {n : Nat} (h : n ≤ 3) (s : Sto) : mulA true (.lst [.int 0]) (.int (n : Nat)) s = some (.ref s.length, s ++ [.lst ((zeros n).map natA)]) := by
  rw [x_mulLR (by omega) (by simp; omega), repA_zeros]
  rfl
theorem total_le {n : Nat} {rs : Rows} (w : Wf n rs) : total rs ≤ 72 := by
  have key : ∀ l : Rows, (∀ r ∈ l, r.length ≤ 24) → (l.map List.length).sum ≤ 24 * l.length := fun l => by
    induction l with
    | nil => intro _; simp
    | cons r l ih =>
      intro h
      have a := h r (by simp)
      have b := ih fun q hq => h q (by simp [hq])
      rw [List.map_cons, List.sum_cons, List.length_cons]
      omega
  have := key rs w.sz
  have := w.len
  have := w.le
  unfold total
  omega
theorem lens_sum {n : Nat} {rs : Rows} (w : Wf n rs) (s : Sto) : sumA [.lst (rs.map fun r => AV.int (r.length : Nat))] s = some (.int (total rs : Nat), s) := by
  have e : (rs.map fun r => AV.int (r.length : Nat)) = (rs.map List.length).map natA := by rw [List.map_map]; rfl
  rw [e, x_sumL]
  rfl
end K76
end S
set_option Elab.async false
set_option linter.all false
set_option maxRecDepth 100000
set_option maxHeartbeats 4000000
/-! Mathematics, D: the law's queue, what can be done. -/
namespace S
namespace K76
open PySem PySem.Spec PyProof.Rows L2 Pm
theorem queue_loop {mb : SM} {src : Src} {b0 b1 b2 b3 b4 b6 b9 b10 : Option AV} {s : Sto} (hs : src.ok s)
    (h1 : ∀ (l : Fin 3) (q : List (Fin 3)) b8, q.length ≤ 24 → l ∈ q → ∃ b8', mb [b0, b1, b2, b3, b4, some (.lst (q.map ltA)), b6, some (ltA l), b8, b9, b10] s = .nx [b0, b1, b2, b3, b4, some (.lst ((q.erase l).map ltA)), b6, some (ltA l), b8', b9, b10] s)
    (h2 : ∀ (l : Fin 3) (q : List (Fin 3)) b8, q.length ≤ 24 → l ∉ q → mb [b0, b1, b2, b3, b4, some (.lst (q.map ltA)), b6, some (ltA l), b8, b9, b10] s = .rt .non s) : ∀ (ta q : List (Fin 3)) (b7 b8 : Option AV), q.length ≤ 24 →
    (∃ q' b7' b8', rem q ta = some q' ∧ forGo src (.nm 7) mb (ta.map ltA) [b0, b1, b2, b3, b4, some (.lst (q.map ltA)), b6, b7, b8, b9, b10] s = .nx [b0, b1, b2, b3, b4, some (.lst (q'.map ltA)), b6, b7', b8', b9, b10] s) ∨
    (rem q ta = none ∧ forGo src (.nm 7) mb (ta.map ltA) [b0, b1, b2, b3, b4, some (.lst (q.map ltA)), b6, b7, b8, b9, b10] s = .rt .non s)
  | [], q, b7, b8, _ => .inl ⟨q, b7, b8, rfl, by simp [forGo, hs]⟩
  | l :: ta, q, b7, b8, hq => by
    rw [List.map_cons, forGo, if_pos hs, rem]
    by_cases hl : l ∈ q
    · obtain ⟨b8', e1⟩ := h1 l q b8 hq hl
      rw [if_pos hl]
      have ih := queue_loop hs h1 h2 ta (q.erase l) (some (ltA l)) b8' (by rw [List.length_erase_of_mem hl]; omega)
      simp only [setP, List.set_cons_succ, List.set_cons_zero, e1]
      exact ih
    · rw [if_neg hl]
      simp only [setP, List.set_cons_succ, List.set_cons_zero, h2 l q b8 hq hl]
      exact .inr (by simp)
theorem queue_tail {mb : SM} {src : Src} {b0 b1 b2 b3 b4 b6 b9 b10 : Option AV} {s : Sto} (hs : src.ok s) (ta q : List (Fin 3)) (b7 b8 : Option AV) (hq : q.length ≤ 24)
    (h1 : ∀ (l : Fin 3) (q : List (Fin 3)) b8, q.length ≤ 24 → l ∈ q → ∃ b8', mb [b0, b1, b2, b3, b4, some (.lst (q.map ltA)), b6, some (ltA l), b8, b9, b10] s = .nx [b0, b1, b2, b3, b4, some (.lst ((q.erase l).map ltA)), b6, some (ltA l), b8', b9, b10] s)
    (h2 : ∀ (l : Fin 3) (q : List (Fin 3)) b8, q.length ≤ 24 → l ∉ q → mb [b0, b1, b2, b3, b4, some (.lst (q.map ltA)), b6, some (ltA l), b8, b9, b10] s = .rt .non s) :
    fin (bQ (forGo src (.nm 7) mb (ta.map ltA) [b0, b1, b2, b3, b4, some (.lst (q.map ltA)), b6, b7, b8, b9, b10] s) (sRet (eCall (tupleA false) (aCons (eVar 5) aNil)))) = .ok (qO (rem q ta)) s := by
  rcases queue_loop hs h1 h2 ta q b7 b8 hq with ⟨q', b7', b8', h3, h4⟩ | ⟨h3, h4⟩
  · rw [h4]
    simp [h3, qO]
  · rw [h4]
    simp [h3, qO]
theorem givs_len (r : Pm.Row) (g : Nat) : (givs r g).length ≤ r.length := by
  unfold givs
  rw [List.length_map]
  exact List.length_filter_le _ _
theorem taks_len (r : Pm.Row) (g : Nat) : (taks r g).length ≤ r.length := by
  unfold taks
  rw [List.length_map]
  exact List.length_filter_le _ _
theorem queue_eq {m : Bool} {n : Nat} {bg : Rows} {h g : Nat} {s : Sto} (w : Wf n bg) (hh : h < n) (hg : g < n) : f__law_queue [handsA n, mnA m, rowsA bg, .int (h : Nat), .int (g : Nat)] s = .ok (qO (queue m bg h g)) s := by
  have le := w.le
  have r1 := w.sz _ (w.row hh).2
  have r2 := w.sz _ (w.row hg).2
  have o1 := w.ev _ (w.row hh).2
  have o2 := w.ev _ (w.row hg).2
  have i1 := fun s => rows_at w hh s
  have i2 := fun s => rows_at w hg s
  unfold queue
  generalize bg.getD h [] = R1 at r1 o1 i1
  generalize bg.getD g [] = R2 at r2 o2 i2
  have fg : (List.filter (fun e => e.g && decide (e.o = g)) R1).map (fun e => ltA e.l) = (givs R1 g).map ltA := by unfold givs; rw [List.map_map]; rfl
  have ft : (List.filter (fun e => !e.g && decide (e.o = h)) R2).map (fun e => ltA e.l) = (taks R2 h).map ltA := by unfold taks; rw [List.map_map]; rfl
  rw [e__law_queue]
  unfold m__law_queue
  simp [i1, rowA]
  rw [lc_map (gd := []) R1 evA (fun e => e.g && decide (e.o = g)) (fun e => ltA e.l) rfl (by simp) (by omega) (fun x hx => ⟨_, rfl, by
    have o := o1 x hx
    simp [wipeA, setL, wd_give, hands_at hg, hnA, hn_eq (show x.o < 3 by omega) (show g < 3 by omega)]
    exact bN_and (by simp [hands_at hg, hnA, hn_eq (show x.o < 3 by omega) (show g < 3 by omega)]), fun _ => rfl⟩), fg]
  simp [i2, rowA]
  rw [lc_map (gd := []) R2 evA (fun e => !e.g && decide (e.o = h)) (fun e => ltA e.l) rfl (by simp) (by omega) (fun x hx => ⟨_, rfl, by
    have o := o2 x hx
    simp [wipeA, setL, wd_take, hands_at hh, hnA, hn_eq (show x.o < 3 by omega) (show h < 3 by omega)]
    exact bN_and (by simp [hands_at hh, hnA, hn_eq (show x.o < 3 by omega) (show h < 3 by omega)]), fun _ => rfl⟩), ft]
  have lg := givs_len R1 g
  have lt := taks_len R2 h
  generalize givs R1 g = gi at lg
  generalize taks R2 h = ta at lt
  cases m with
  | true =>
    simp [mnA, mn_order, cutL_take, cutL_drop, ← List.map_take, ← List.map_drop, eq_lts]
    by_cases c : gi.take ta.length = ta
    · simp [c, qu, qO, cutL_drop]
    · simp [c, qu, qO]
  | false =>
    simp [mnA, mn_order, forC]
    rw [show qu false gi ta = rem gi ta from rfl]
    refine queue_tail (by intro q hq; cases hq) ta gi none none (by omega) ?_ ?_
    · intro l q b8 hq hl
      refine ⟨some (.int (q.idxOf l : Nat)), ?_⟩
      have ii := fun s => idx_lts q l hl s (.lst (q.map ltA)) rfl
      have hi : q.idxOf l < q.length := List.idxOf_lt_length_of_mem hl
      have er : (q.take (q.idxOf l)).map ltA ++ (q.drop (q.idxOf l + 1)).map ltA = (q.erase l).map ltA := by
        rw [← List.map_append, List.erase_eq_eraseIdx_of_idxOf rfl, List.eraseIdx_eq_take_drop_succ]
      have ad : ∀ s, addA (.lst ((q.map ltA).take (q.idxOf l))) (.lst ((q.map ltA).drop (q.idxOf l + 1))) s = some (.lst ((q.erase l).map ltA), s) := fun s => by
        rw [x_addL (by simp; omega), ← er, List.map_take, List.map_drop]
      simp [in_lts q l _ _ (.lst (q.map ltA)) (.inl rfl), hl, x_bmC, bmOk, lstA, ii, cutL_take, cutL_drop1, ad]
    · intro l q b8 hq hl
      simp [in_lts q l _ _ (.lst (q.map ltA)) (.inl rfl), hl]
end K76
end S
set_option Elab.async false
set_option linter.all false
set_option maxRecDepth 100000
set_option maxHeartbeats 4000000
/-! Mathematics, F: the law's greedy. -/
namespace S
namespace K76
open PySem PySem.Spec PyProof.Rows L2 Pm
theorem idx_hands {n o : Nat} (hn : n ≤ 3) (ho : o < n) (s : Sto) : indexA (handsA n) [.str (hnS o)] s = some (.int (o : Nat), s) := by
  have st : ∀ l : List Nat, strsA (l.map hnA) = some (l.map hnS) := fun l => by
    induction l with
    | nil => rfl
    | cons x l ih => show (strsA (l.map hnA)).map _ = _; rw [ih]; rfl
  have ix : idxS ((List.range n).map hnS) (hnS o) = some o := by
    have : ∀ n, n < 4 → ∀ o, o < n → idxS ((List.range n).map hnS) (hnS o) = some o := by decide +kernel
    exact this n (by omega) o ho
  show ((some ((List.range n).map hnA)).bind strsA).bind _ = _
  rw [Option.bind_some, st, Option.bind_some, ix]
  rfl
theorem ev_0 (e : Ev) (s : Sto) : ixA (evA e) (.int 0) s = some (.str (wdS e.g), s) := ixA_tup (atI_some (k := 0) rfl)
theorem ev_1 (e : Ev) (s : Sto) : ixA (evA e) (.int 1) s = some (.str (hnS e.o), s) := ixA_tup (atI_some (k := 1) rfl)
theorem ev_2 (e : Ev) (s : Sto) : ixA (evA e) (.int 2) s = some (ltA e.l, s) := ixA_tup (atI_some (k := 2) rfl)
theorem can_eq {m : Bool} {n : Nat} {bg : Rows} {h : Nat} {e : Ev} {s : Sto} (w : Wf n bg) (hh : h < n) (ho : e.o < n) (hq : e.g = false → ∃ q, queue m bg e.o h = some q) :
    f__law_can [handsA n, mnA m, rowsA bg, .int (h : Nat), evA e] s = .ok (.bl (can m bg h e)) s := by
  rw [e__law_can]
  unfold m__law_can can
  cases hg : e.g with
  | true => simp [ev_0, wd_give, hg]
  | false =>
    obtain ⟨q, hq⟩ := hq hg
    have ih := fun s => idx_hands w.le ho s
    have qe := fun s => queue_eq (m := m) (s := s) w ho hh
    rw [hq] at qe
    simp [ev_0, ev_1, wd_give, hg, hands_tm, hands_tps, ih, qe, hq, qO, mnA_order]
    cases m with
    | true =>
      simp [ev_2, mnA_order, cutL_1, ← List.map_take, in_lts (q.take 1) e.l _ _ (.tup ((q.take 1).map ltA)) (.inr (.inl rfl)), avail]
    | false =>
      simp [ev_2, mnA_order, in_lts q e.l _ _ (.tup (q.map ltA)) (.inr (.inl rfl)), avail]
theorem zs_rows {rs : Rows} {st : List Nat} {k : Nat} {s : Sto} (h : s[k]? = some (.lst (st.map natA))) : zS1 true false (.ok [rowsA rs, .ref k] s) = .ok ⟨(rs.zip st).map (fun q => .tup [rowA q.1, natA q.2]), [(k, .lst (st.map natA))]⟩ s := by
  rw [zS1_ok (u := ⟨rs.map rowA, []⟩) (v := ⟨st.map natA, [(k, .lst (st.map natA))]⟩) rfl (by simp only [seqSrc, h]) rfl rfl, pairsA_map]
  rfl
theorem zs_rowsL {rs : Rows} {st : List Nat} {s : Sto} : zS1 true false (.ok [rowsA rs, .lst (st.map natA)] s) = .ok ⟨(rs.zip st).map (fun q => .tup [rowA q.1, natA q.2]), []⟩ s := by
  rw [zS1_ok (u := ⟨rs.map rowA, []⟩) (v := ⟨st.map natA, []⟩) rfl rfl rfl rfl, pairsA_map]
  rfl
theorem begins_A (rs : Rows) (st : List Nat) : AV.tup ((rs.zip st).map fun q => rowA (q.1.take q.2)) = rowsA (begins rs st) := by
  unfold rowsA begins
  rw [List.map_map]; rfl
theorem begins_wf {n : Nat} {rs : Rows} {st : List Nat} (w : Wf n rs) (h : st.length = n) : Wf n (begins rs st) := by
  have key : ∀ r ∈ begins rs st, ∃ q ∈ rs, ∃ k, r = q.take k := fun r hr => by
    obtain ⟨⟨q, k⟩, hq, rfl⟩ := List.mem_map.mp hr
    exact ⟨q, (List.of_mem_zip hq).1, k, rfl⟩
  refine ⟨by unfold begins; simp [w.len, h], w.le, fun r hr e he => ?_, fun r hr => ?_⟩
  · obtain ⟨q, hq, k, rfl⟩ := key r hr
    exact w.ev q hq e (List.mem_of_mem_take he)
  · obtain ⟨q, hq, k, rfl⟩ := key r hr
    have := w.sz q hq
    rw [List.length_take]
    omega
theorem nxt_at {rs : Rows} {st : List Nat} {h : Nat} (hl : st.getD h 0 < (rs.getD h []).length) : ∃ e, (rs.getD h [])[st.getD h 0]? = some e ∧ nxt rs st h = some e := ⟨_, List.getElem?_eq_getElem hl, List.getElem?_eq_getElem hl⟩
/-- can, of what comes next -/
theorem can_en {m : Bool} {n : Nat} {rs : Rows} {st : List Nat} {h : Nat} {e : Ev} {s : Sto} (w : Own n rs) (v : Vd m n rs st) (hh : h < n) (hn : nxt rs st h = some e) :
    f__law_can [handsA n, mnA m, rowsA (begins rs st), .int (h : Nat), evA e] s = .ok (.bl (en m rs st h)) s := by
  obtain ⟨o1, o2⟩ := nxt_o w hn
  have sl : st.length = rs.length := by rw [v.len, w.len]
  rw [can_eq (begins_wf w.toWf v.len) hh o1 fun _ => by
    rw [queue_begins sl]
    exact v.q _ _ o1 hh o2]
  unfold en can
  rw [hn, queue_begins sl]
  rfl
/-- the first hand that can go on -/
theorem greedy_in {mb : SM} {src : Src} {b0 b1 b2 b3 b5 b6 b8 b9 : Option AV} {s : Sto} (hs : src.ok s) (P : Nat → Bool) (o : List Nat) (S : Nat → Sto) : ∀ (l : List Nat) (b7 : Option AV),
    (∀ h, h ∈ l → P h = true → mb [b0, b1, b2, b3, some (.lst (o.map natA)), b5, b6, some (natA h), b8, b9] s = .bk [b0, b1, b2, b3, some (.lst ((o ++ [h]).map natA)), b5, b6, some (natA h), b8, b9] (S h)) →
    (∀ h, h ∈ l → P h = false → mb [b0, b1, b2, b3, some (.lst (o.map natA)), b5, b6, some (natA h), b8, b9] s = .nx [b0, b1, b2, b3, some (.lst (o.map natA)), b5, b6, some (natA h), b8, b9] s) →
    ∃ b7', forGo src (.nm 7) mb (l.map natA) [b0, b1, b2, b3, some (.lst (o.map natA)), b5, b6, b7, b8, b9] s = match l.filter P with
      | h :: _ => .nx [b0, b1, b2, b3, some (.lst ((o ++ [h]).map natA)), b5, b6, b7', b8, b9] (S h)
      | [] => .nx [b0, b1, b2, b3, some (.lst (o.map natA)), b5, b6, b7', b8, b9] s
  | [], b7, _, _ => ⟨b7, by simp [forGo, hs]⟩
  | h :: l, b7, h1, h2 => by
    rw [List.map_cons, forGo, if_pos hs]
    simp only [setP, List.set_cons_succ, List.set_cons_zero]
    cases hP : P h with
    | true =>
      rw [h1 h (by simp) hP, List.filter_cons, if_pos hP]
      exact ⟨_, rfl⟩
    | false =>
      rw [h2 h (by simp) hP, List.filter_cons, if_neg (by rw [hP]; decide)]
      exact greedy_in hs P o S l (some (natA h)) (fun k hk => h1 k (by simp [hk])) fun k hk => h2 k (by simp [hk])
theorem greedy_tail {mb : SM} {m : Bool} {rs : Rows} {s : Sto} {b0 b1 b2 : Option AV}
    (h : ∀ (k : Nat) b6 b7, k < total rs → ∃ b6' b7', mb [b0, b1, b2, some (.ref s.length), some (.lst ((gree m rs k).1.map natA)), some (natA k), b6, b7, none, none] (s ++ [.lst ((gree m rs k).2.map natA)]) =
      .nx [b0, b1, b2, some (.ref s.length), some (.lst ((gree m rs (k + 1)).1.map natA)), some (natA k), b6', b7', none, none] (s ++ [.lst ((gree m rs (k + 1)).2.map natA)])) :
    fin (bQ (forC (.nm 5) mb ⟨(List.range (total rs)).map fun i => AV.int (i : Nat), []⟩ [b0, b1, b2, some (.ref s.length), some (.lst []), none, none, none, none, none] (s ++ [.lst ((zeros rs.length).map natA)]))
      (sRet (eTup (aCons (eCall (tupleA true) (aCons (eVar 4) aNil)) (aCons (eCall (tupleA false) (aCons (eVar 3) aNil)) aNil))))) =
    .ok (.tup [.tpS ((gree m rs (total rs)).1.map natA), .tup ((gree m rs (total rs)).2.map natA)]) (s ++ [.lst ((gree m rs (total rs)).2.map natA)]) := by
  have key : ∀ (j k : Nat) b5 b6 b7, k + j = total rs → ∃ b5' b6' b7', forGo ⟨(List.range (total rs)).map natA, []⟩ (.nm 5) mb (((List.range (total rs)).drop k).map natA) [b0, b1, b2, some (.ref s.length), some (.lst ((gree m rs k).1.map natA)), b5, b6, b7, none, none] (s ++ [.lst ((gree m rs k).2.map natA)]) =
      .nx [b0, b1, b2, some (.ref s.length), some (.lst ((gree m rs (total rs)).1.map natA)), b5', b6', b7', none, none] (s ++ [.lst ((gree m rs (total rs)).2.map natA)]) := fun j => by
    induction j with
    | zero =>
      intro k b5 b6 b7 e
      have : k = total rs := by omega
      subst this
      rw [List.drop_eq_nil_of_le (by simp)]
      exact ⟨b5, b6, b7, by simp [forGo, Src.ok]⟩
    | succ j ih =>
      intro k b5 b6 b7 e
      obtain ⟨b6', b7', e1⟩ := h k b6 b7 (by omega)
      obtain ⟨c5, c6, c7, e2⟩ := ih (k + 1) (some (natA k)) b6' b7' (by omega)
      refine ⟨c5, c6, c7, ?_⟩
      rw [List.drop_eq_getElem_cons (by simp; omega), List.getElem_range, List.map_cons, forGo, if_pos (by intro q hq; cases hq)]
      simp only [setP, List.set_cons_succ, List.set_cons_zero, e1]
      exact e2
  obtain ⟨c5, c6, c7, e⟩ := key (total rs) 0 none none none (by omega)
  have e' : forC (.nm 5) mb ⟨(List.range (total rs)).map fun i => AV.int (i : Nat), []⟩ [b0, b1, b2, some (.ref s.length), some (.lst []), none, none, none, none, none] (s ++ [.lst ((zeros rs.length).map natA)]) = _ := e
  rw [e']
  simp [x_tupR get_last]
theorem greedy_fin {mb : SM} {m : Bool} {rs : Rows} {s : Sto} {st o : List Nat} {b0 b1 b2 b3 b5 b6 b7 b8 b9 : Option AV}
    (h1 : ∀ h, h < rs.length → en m rs st h = true → mb [b0, b1, b2, b3, some (.lst (o.map natA)), b5, b6, some (natA h), b8, b9] (s ++ [.lst (st.map natA)]) = .bk [b0, b1, b2, b3, some (.lst ((o ++ [h]).map natA)), b5, b6, some (natA h), b8, b9] (s ++ [.lst ((adv st h).map natA)]))
    (h2 : ∀ h, h < rs.length → en m rs st h = false → mb [b0, b1, b2, b3, some (.lst (o.map natA)), b5, b6, some (natA h), b8, b9] (s ++ [.lst (st.map natA)]) = .nx [b0, b1, b2, b3, some (.lst (o.map natA)), b5, b6, some (natA h), b8, b9] (s ++ [.lst (st.map natA)])) :
    ∃ b6' b7', forC (.nm 7) mb ⟨(List.range rs.length).map fun i => AV.int (i : Nat), []⟩ [b0, b1, b2, b3, some (.lst (o.map natA)), b5, b6, b7, b8, b9] (s ++ [.lst (st.map natA)]) =
      .nx [b0, b1, b2, b3, some (.lst ((match ready m rs st with
        | h :: tail => (o ++ [h], adv st h)
        | [] => (o, st)).1.map natA)), b5, b6', b7', b8, b9] (s ++ [.lst ((match ready m rs st with
        | h :: tail => (o ++ [h], adv st h)
        | [] => (o, st)).2.map natA)]) := by
  obtain ⟨b7', e⟩ := greedy_in (mb := mb) (src := ⟨(List.range rs.length).map natA, []⟩) (b0 := b0) (b1 := b1) (b2 := b2) (b3 := b3) (b5 := b5) (b6 := b6) (b8 := b8) (b9 := b9) (s := s ++ [.lst (st.map natA)]) (by intro q hq; cases hq) (en m rs st) o (fun h => s ++ [.lst ((adv st h).map natA)]) (List.range rs.length) b7 (fun h hh => h1 h (List.mem_range.mp hh)) (fun h hh => h2 h (List.mem_range.mp hh))
  refine ⟨b6, b7', ?_⟩
  have e' : forC (.nm 7) mb ⟨(List.range rs.length).map fun i => AV.int (i : Nat), []⟩ [b0, b1, b2, b3, some (.lst (o.map natA)), b5, b6, b7, b8, b9] (s ++ [.lst (st.map natA)]) = _ := e
  rw [e']
  unfold ready
  cases (List.range rs.length).filter (en m rs st) <;> rfl
theorem gree_len (m : Bool) (rs : Rows) : ∀ k, (gree m rs k).1.length ≤ k
  | 0 => by simp [gree]
  | k + 1 => by
    have ih := gree_len m rs k
    show (gstep m rs (gree m rs k)).1.length ≤ k + 1
    unfold gstep
    split
    · simp; omega
    · omega
theorem setA_nat {s : Sto} {st : List Nat} {h z : Nat} (hh : h < st.length) : setA (.ref s.length) (.int (h : Nat)) (.int ((z : Int) + 1)) (s ++ [.lst (st.map natA)]) = some (s ++ [.lst ((st.set h (z + 1)).map natA)]) := by
  simp only [setA, get_last]
  rw [List.length_map, ixN_nat hh]
  dsimp only
  rw [set_last, List.map_set]
  rfl
theorem add_nat {s : Sto} {o : List Nat} {h : Nat} (hl : o.length ≤ 1000) : addA (.lst (o.map natA)) (.lst [.int (h : Nat)]) s = some (.lst ((o ++ [h]).map natA), s) := by
  rw [x_addL (by simp; omega), List.map_append]
  rfl
theorem en_false {m : Bool} {n : Nat} {rs : Rows} {st : List Nat} {h : Nat} (hl : ¬ st.getD h 0 < (rs.getD h []).length) : en m rs st h = false := by
  unfold en nxt
  rw [List.getElem?_eq_none (Nat.le_of_not_lt hl)]
theorem greedy_eq {m : Bool} {n : Nat} {rs : Rows} {s : Sto} (w : Own n rs) : f__law_greedy [handsA n, mnA m, rowsA rs] s =
    .ok (.tup [.tpS ((gree m rs (total rs)).1.map natA), .tup ((gree m rs (total rs)).2.map natA)]) (s ++ [.lst ((gree m rs (total rs)).2.map natA)]) := by
  have le := w.le
  have tot := total_le w.toWf
  have wl := w.len
  rw [e__law_greedy]
  unfold m__law_greedy
  simp -implicitDefEqProofs [hands_len, zeros_mul le, rows_src]
  rw [lc_all (gd := []) rs rowA (fun r => .int (r.length : Nat)) rfl (by simp) (by omega) (fun x hx => ⟨_, rfl, by simp -implicitDefEqProofs [row_len, wipeA]⟩)]
  simp -implicitDefEqProofs [lens_sum w.toWf, rSrc_n (show total rs < 1000000 by omega)]
  subst wl
  refine greedy_tail fun k b6 b7 hk => ?_
  have v := gree_vd (m := m) w k
  have gs : gree m rs (k + 1) = gstep m rs (gree m rs k) := rfl
  rw [gs]
  unfold gstep
  have ol := gree_len m rs k
  generalize gree m rs k = p at v ol
  obtain ⟨o, st⟩ := p
  dsimp only at v ol ⊢
  have vl := v.len
  simp -implicitDefEqProofs [zs_rows get_last]
  rw [lc_all (rs.zip st) (fun q => .tup [rowA q.1, natA q.2]) (fun q => rowA (q.1.take q.2)) rfl (by simp) (by simp; omega) (fun x hx => ⟨_, rfl, by simp -implicitDefEqProofs [wipeA, setL, natA, row_take]⟩)]
  simp -implicitDefEqProofs [hands_len, rSrc_n (show rs.length < 1000000 by omega), begins_A]
  refine greedy_fin (fun h hh he => ?_) fun h hh he => ?_
  · obtain ⟨e, hn, _⟩ := en_nxt he
    have hl := nxt_lt hn
    have rw1 := fun s => rows_at w.toWf hh s
    have cn := fun s => can_en (s := s) w v hh hn
    have ix := fun s => row_at (show (rs.getD h [])[st.getD h 0]? = some e from hn) s
    have sh : h < st.length := by omega
    have si := ixA_nat (s := s ++ [.lst (st.map natA)]) get_last sh
    have sa := setA_nat (s := s) (z := st.getD h 0) sh
    rw [he] at cn
    unfold adv
    generalize rs.getD h [] = R at hl rw1 ix
    generalize st.getD h 0 = z at hl si ix sa
    simp -implicitDefEqProofs [natA, si, rw1, row_len, hl, ix, cn, add_nat (show o.length ≤ 1000 by omega), sa]
  · by_cases hl : st.getD h 0 < (rs.getD h []).length
    · obtain ⟨e, hn, hn2⟩ := nxt_at hl
      have rw1 := fun s => rows_at w.toWf hh s
      have cn := fun s => can_en (s := s) w v hh hn2
      have ix := fun s => row_at hn s
      have si := ixA_nat (s := s ++ [.lst (st.map natA)]) get_last (show h < st.length by omega)
      rw [he] at cn
      generalize rs.getD h [] = R at hl rw1 ix
      generalize st.getD h 0 = z at hl si ix
      simp -implicitDefEqProofs [natA, si, rw1, row_len, hl, ix, cn]
    · have rw1 := fun s => rows_at w.toWf hh s
      have si := ixA_nat (s := s ++ [.lst (st.map natA)]) get_last (show h < st.length by omega)
      generalize rs.getD h [] = R at hl rw1
      generalize st.getD h 0 = z at hl si
      simp -implicitDefEqProofs [natA, si, rw1, row_len, hl]
end K76
end S
set_option Elab.async false
set_option linter.all false
set_option maxRecDepth 100000
set_option maxHeartbeats 4000000
/-! Mathematics, G: what lies, whether rows are a chart. -/
namespace S
namespace K76
open PySem PySem.Spec PyProof.Rows L2 Pm
/-- the queues that are not empty, from h -/
def lyE (m : Bool) (bg : Rows) (h g : Nat) : List (Nat × Nat × List Lt) := if h = g then [] else match queue m bg h g with
  | some (l :: q) => [(h, g, l :: q)]
  | _ => []
def lyR (m : Bool) (bg : Rows) (h : Nat) : List (Nat × Nat × List Lt) := (List.range bg.length).flatMap (lyE m bg h)
def ly (m : Bool) (bg : Rows) : List (Nat × Nat × List Lt) := (List.range bg.length).flatMap (lyR m bg)
def lyA (x : Nat × Nat × List Lt) : AV := .tup [hnA x.1, hnA x.2.1, .tup (x.2.2.map ltA)]
theorem ne_nil_lts (q : List (Fin 3)) (s : Sto) : eqA true (.tup (q.map ltA)) (.tup []) s = some (.bl (!decide (q = [])), s) := by
  rw [eqA_pl (p := q = []) true ((Pl.tup (pl_lts q)).s (s := s)) ((Pl.tup (Pls.nil 0)).s (s := s)) (by cases q <;> simp)]
  rfl
theorem ly_in {mb : SM} {src : Src} {s0 : Sto} {b0 b1 b2 b3 b4 : Option AV} (hs : ∀ xs, src.ok (s0 ++ [.lst xs])) (f : Nat → List (Nat × Nat × List Lt)) : ∀ (l : List Nat) (acc : List (Nat × Nat × List Lt)) (b5 b6 : Option AV), (∀ g, (f g).length ≤ 1) → acc.length + l.length ≤ 1000 →
    (∀ g acc b6, g ∈ l → acc.length ≤ 1000 → ∃ b6', mb [b0, b1, b2, b3, b4, some (natA g), b6] (s0 ++ [.lst (acc.map lyA)]) = .nx [b0, b1, b2, b3, b4, some (natA g), b6'] (s0 ++ [.lst ((acc ++ f g).map lyA)])) →
    ∃ b5' b6', forGo src (.nm 5) mb (l.map natA) [b0, b1, b2, b3, b4, b5, b6] (s0 ++ [.lst (acc.map lyA)]) = .nx [b0, b1, b2, b3, b4, b5', b6'] (s0 ++ [.lst ((acc ++ l.flatMap f).map lyA)])
  | [], acc, b5, b6, _, _, _ => ⟨b5, b6, by simp [forGo, hs]⟩
  | g :: l, acc, b5, b6, hf, hl, h => by
    simp only [List.length_cons] at hl
    obtain ⟨b6', e⟩ := h g acc b6 (by simp) (by omega)
    obtain ⟨c5, c6, e2⟩ := ly_in hs f l (acc ++ f g) (some (natA g)) b6' hf (by have := hf g; rw [List.length_append]; omega) fun g acc b6 hg => h g acc b6 (by simp [hg])
    refine ⟨c5, c6, ?_⟩
    rw [List.map_cons, forGo, if_pos (hs _)]
    simp only [setP, List.set_cons_succ, List.set_cons_zero, e]
    rw [e2, List.flatMap_cons, List.append_assoc]
theorem ly_out {mb : SM} {src : Src} {s0 : Sto} {b0 b1 b2 b3 : Option AV} (hs : ∀ xs, src.ok (s0 ++ [.lst xs])) (f : Nat → List (Nat × Nat × List Lt)) : ∀ (l : List Nat) (acc : List (Nat × Nat × List Lt)) (b4 b5 b6 : Option AV), (∀ g, (f g).length ≤ 3) → acc.length + 3 * l.length ≤ 900 →
    (∀ h acc b5 b6, h ∈ l → acc.length ≤ 900 → ∃ b5' b6', mb [b0, b1, b2, b3, some (natA h), b5, b6] (s0 ++ [.lst (acc.map lyA)]) = .nx [b0, b1, b2, b3, some (natA h), b5', b6'] (s0 ++ [.lst ((acc ++ f h).map lyA)])) →
    ∃ b4' b5' b6', forGo src (.nm 4) mb (l.map natA) [b0, b1, b2, b3, b4, b5, b6] (s0 ++ [.lst (acc.map lyA)]) = .nx [b0, b1, b2, b3, b4', b5', b6'] (s0 ++ [.lst ((acc ++ l.flatMap f).map lyA)])
  | [], acc, b4, b5, b6, _, _, _ => ⟨b4, b5, b6, by simp [forGo, hs]⟩
  | h :: l, acc, b4, b5, b6, hf, hl, k => by
    simp only [List.length_cons] at hl
    obtain ⟨b5', b6', e⟩ := k h acc b5 b6 (by simp) (by omega)
    obtain ⟨c4, c5, c6, e2⟩ := ly_out hs f l (acc ++ f h) (some (natA h)) b5' b6' hf (by have := hf h; rw [List.length_append]; omega) fun g acc b5 b6 hg => k g acc b5 b6 (by simp [hg])
    refine ⟨c4, c5, c6, ?_⟩
    rw [List.map_cons, forGo, if_pos (hs _)]
    simp only [setP, List.set_cons_succ, List.set_cons_zero, e]
    rw [e2, List.flatMap_cons, List.append_assoc]
theorem ext_lst {s0 : Sto} {xs ys : List AV} (h : xs.length + ys.length ≤ 16777216) : extendA (.ref s0.length) [.lst ys] (s0 ++ [.lst xs]) = some (.non, s0 ++ [.lst (xs ++ ys)]) := by
  simp only [extendA, get_last, lstA, if_pos h, set_last]
theorem bm_last {s0 : Sto} {xs : List AV} : bmOk "list" (.ref s0.length) (s0 ++ [.lst xs]) = true := by simp [bmOk]
theorem lying_tail {mb : SM} {s0 : Sto} {b0 b1 b2 : Option AV} {n : Nat} (f : Nat → List (Nat × Nat × List Lt)) (hf : ∀ g, (f g).length ≤ 3) (hn : n ≤ 3)
    (k : ∀ h acc b5 b6, h < n → acc.length ≤ 900 → ∃ b5' b6', mb [b0, b1, b2, some (.ref s0.length), some (natA h), b5, b6] (s0 ++ [.lst (acc.map lyA)]) = .nx [b0, b1, b2, some (.ref s0.length), some (natA h), b5', b6'] (s0 ++ [.lst ((acc ++ f h).map lyA)])) :
    fin (bQ (forC (.nm 4) mb ⟨(List.range n).map fun i => AV.int (i : Nat), []⟩ [b0, b1, b2, some (.ref s0.length), none, none, none] (s0 ++ [.lst []])) (sRet (eVar 3))) = .ok (.ref s0.length) (s0 ++ [.lst (((List.range n).flatMap f).map lyA)]) := by
  obtain ⟨b4, b5, b6, e⟩ := ly_out (mb := mb) (src := ⟨(List.range n).map natA, []⟩) (s0 := s0) (b0 := b0) (b1 := b1) (b2 := b2) (b3 := some (.ref s0.length)) (by intro _ q hq; cases hq) f (List.range n) [] none none none hf (by simp; omega) fun h acc b5 b6 hh => k h acc b5 b6 (List.mem_range.mp hh)
  have e' : forC (.nm 4) mb ⟨(List.range n).map fun i => AV.int (i : Nat), []⟩ [b0, b1, b2, some (.ref s0.length), none, none, none] (s0 ++ [.lst []]) = _ := e
  rw [e']
  simp -implicitDefEqProofs
theorem lying_mid {mb : SM} {s0 : Sto} {b0 b1 b2 b3 b4 b5 b6 : Option AV} {n : Nat} (f : Nat → List (Nat × Nat × List Lt)) (acc : List (Nat × Nat × List Lt)) (hf : ∀ g, (f g).length ≤ 1) (hn : n ≤ 3) (ha : acc.length ≤ 900)
    (k : ∀ g acc b6, g < n → acc.length ≤ 1000 → ∃ b6', mb [b0, b1, b2, b3, b4, some (natA g), b6] (s0 ++ [.lst (acc.map lyA)]) = .nx [b0, b1, b2, b3, b4, some (natA g), b6'] (s0 ++ [.lst ((acc ++ f g).map lyA)])) :
    ∃ b5' b6', forC (.nm 5) mb ⟨(List.range n).map fun i => AV.int (i : Nat), []⟩ [b0, b1, b2, b3, b4, b5, b6] (s0 ++ [.lst (acc.map lyA)]) = .nx [b0, b1, b2, b3, b4, b5', b6'] (s0 ++ [.lst ((acc ++ (List.range n).flatMap f).map lyA)]) :=
  ly_in (mb := mb) (src := ⟨(List.range n).map natA, []⟩) (by intro _ q hq; cases hq) f (List.range n) acc b5 b6 hf (by simp; omega) fun g acc b6 hg => k g acc b6 (List.mem_range.mp hg)
/-- all queues can be told -/
def Told (m : Bool) (bg : Rows) : Prop := ∀ h g, h < bg.length → g < bg.length → h ≠ g → ∃ q, queue m bg h g = some q
theorem lyE_len (m : Bool) (bg : Rows) (h g : Nat) : (lyE m bg h g).length ≤ 1 := by
  unfold lyE
  split
  · simp
  · split <;> simp
theorem lyR_len {m : Bool} {bg : Rows} (hb : bg.length ≤ 3) (h : Nat) : (lyR m bg h).length ≤ 3 := by
  have key : ∀ l : List Nat, (l.flatMap (lyE m bg h)).length ≤ l.length := fun l => by
    induction l with
    | nil => simp
    | cons x l ih =>
      have := lyE_len m bg h x
      rw [List.flatMap_cons, List.length_append, List.length_cons]
      omega
  have := key (List.range bg.length)
  rw [List.length_range] at this
  unfold lyR
  omega
theorem lying_eq {m : Bool} {n : Nat} {bg : Rows} {s : Sto} (w : Wf n bg) (t : Told m bg) : f__law_lying [handsA n, mnA m, rowsA bg] s = .ok (.ref s.length) (s ++ [.lst ((ly m bg).map lyA)]) := by
  have le := w.le
  have wl := w.len
  rw [e__law_lying]
  unfold m__law_lying
  subst wl
  simp -implicitDefEqProofs [-List.map_append, hands_len, rSrc_n (show bg.length < 1000000 by omega)]
  refine lying_tail (lyR m bg) (lyR_len le) le fun h acc b5 b6 hh ha => ?_
  simp -implicitDefEqProofs [-List.map_append, hands_len, rSrc_n (show bg.length < 1000000 by omega)]
  refine lying_mid (lyE m bg h) acc (lyE_len m bg h) le ha fun g acc b6 hg hb => ?_
  have n0 := fun s => ne_nil_lts [] s
  simp only [List.map_nil] at n0
  by_cases e : h = g
  · subst e
    refine ⟨some (.tup []), ?_⟩
    have x0 : extendA (.ref s.length) [.lst []] (s ++ [.lst (acc.map lyA)]) = some (.non, s ++ [.lst (acc.map lyA ++ [])]) := ext_lst (by simp; omega)
    simp -implicitDefEqProofs [-List.map_append, natA, n0, x_bmC bm_last, x0, lyE]
  · obtain ⟨q, hq⟩ := t h g hh hg e
    have qe := fun s => queue_eq (m := m) (s := s) w hh hg
    rw [hq] at qe
    refine ⟨some (.tup (q.map ltA)), ?_⟩
    have e2 : ¬ (h : Int) = (g : Int) := by omega
    cases q with
    | nil =>
      have x0 : extendA (.ref s.length) [.lst []] (s ++ [.lst (acc.map lyA)]) = some (.non, s ++ [.lst (acc.map lyA ++ [])]) := ext_lst (by simp; omega)
      simp -implicitDefEqProofs [-List.map_append, natA, n0, x_bmC bm_last, x0, lyE, e, e2, hq, qe, qO]
    | cons l q =>
      have n1 := fun s => ne_nil_lts (l :: q) s
      have h1 := fun s => hands_at hh s
      have h2 := fun s => hands_at hg s
      have x0 : extendA (.ref s.length) [.lst [lyA (h, g, l :: q)]] (s ++ [.lst (acc.map lyA)]) = some (.non, s ++ [.lst (acc.map lyA ++ [lyA (h, g, l :: q)])]) := ext_lst (by simp; omega)
      simp only [lyA] at x0
      simp only [List.map_cons] at n1 x0 qe ⊢
      simp -implicitDefEqProofs [natA, n1, x_bmC bm_last, x0, lyE, e, e2, hq, qe, qO, h1, h2]
      rfl
theorem eq_natsT (q r : List Nat) (n : Bool) (s : Sto) : eqA n (.tup (q.map natA)) (.tup (r.map natA)) s = some (.bl (if n then !decide (q = r) else decide (q = r)), s) :=
  eqA_pl n ((Pl.tup (pl_nats q)).s (s := s)) ((Pl.tup (pl_nats r)).s (s := s)) (by rw [PyData.tuple.injEq, nats_inj])
def lyD (x : Nat × Nat × List Lt) : PyData := .tuple [.str (hnS x.1), .str (hnS x.2.1), .tuple (x.2.2.map fun l => PyData.str (ltS l))]
theorem pl_ly (x : Nat × Nat × List Lt) : Pl 2 (lyA x) (lyD x) := Pl.tup (.cons (.str (hnS_ok _) 1) (.cons (.str (hnS_ok _) 1) (.cons (.tup (pl_lts _)) (.nil 1))))
theorem eq_ly {s : Sto} {k : Nat} {l : List (Nat × Nat × List Lt)} (h : s[k]? = some (.lst (l.map lyA))) : eqA false (.ref k) (.lst []) s = some (.bl (decide (l = [])), s) := by
  rw [eqA_pl (p := l = []) false (.ref h (Pls.map l fun x _ => pl_ly x)) ((Pl.lst (Pls.nil 0)).s (s := s)) (by cases l <;> simp)]
  rfl
theorem ly_nil {m : Bool} {bg : Rows} (t : Told m bg) : ly m bg = [] ↔ ∀ h g, h < bg.length → g < bg.length → h ≠ g → queue m bg h g = some [] := by
  unfold ly lyR
  rw [List.flatMap_eq_nil_iff]
  constructor
  · intro k h g hh hg hne
    have := List.flatMap_eq_nil_iff.mp (k h (List.mem_range.mpr hh)) g (List.mem_range.mpr hg)
    obtain ⟨q, hq⟩ := t h g hh hg hne
    unfold lyE at this
    rw [if_neg hne, hq] at this
    cases q with
    | nil => exact hq
    | cons l q => simp at this
  · intro k h hh
    rw [List.flatMap_eq_nil_iff]
    intro g hg
    unfold lyE
    split
    · rfl
    · rename_i hne
      rw [k h g (List.mem_range.mp hh) (List.mem_range.mp hg) hne]
theorem full_begins (rs : Rows) : begins rs (full rs) = rs := by
  unfold begins full
  induction rs with
  | nil => rfl
  | cons r rs ih =>
    rw [List.map_cons, List.zip_cons_cons, List.map_cons, ih]
    simp
theorem told_full {m : Bool} {n : Nat} {rs : Rows} (w : Own n rs) (v : Vd m n rs (full rs)) : Told m rs := fun h g hh hg hne => by
  rw [← full_begins rs, queue_begins (by unfold full; simp)]
  exact v.q h g (by rw [← w.len]; exact hh) (by rw [← w.len]; exact hg) hne
theorem ly_emp {m : Bool} {n : Nat} {rs : Rows} (w : Own n rs) (v : Vd m n rs (full rs)) : ly m rs = [] ↔ Emp m rs := by
  rw [ly_nil (told_full w v)]
  unfold Emp
  have e : ∀ h g, queue m rs h g = qS m rs (full rs) h g := fun h g => by
    conv => lhs; rw [← full_begins rs]
    exact queue_begins (by unfold full; simp) h g
  simp only [e]
theorem is_chart_eq {m : Bool} {n : Nat} {rs : Rows} {s : Sto} (w : Own n rs) : ∃ b t, f__law_is_chart [handsA n, mnA m, rowsA rs] s = .ok (.bl b) (s ++ t) ∧ (b = true ↔ due m rs) := by
  have le := w.le
  have wl := w.len
  have v := gree_vd (m := m) w (total rs)
  have ge := greedy_eq (m := m) (s := s) w
  have ce : (rs.map fun r => AV.int (r.length : Nat)) = (full rs).map natA := by unfold full; rw [List.map_map]; rfl
  unfold due
  rw [e__law_is_chart]
  unfold m__law_is_chart
  generalize gree m rs (total rs) = p at ge v
  obtain ⟨o, st⟩ := p
  dsimp only at ge v ⊢
  by_cases c : st = full rs
  · subst c
    have le := fun s => lying_eq (s := s) w.toWf (told_full w v)
    have ee := eq_ly (s := s ++ [AO.lst ((full rs).map natA)] ++ [.lst ((ly m rs).map lyA)]) (k := (s ++ [AO.lst ((full rs).map natA)]).length) (l := ly m rs) get_last
    refine ⟨decide (ly m rs = []), [AO.lst ((full rs).map natA)] ++ [.lst ((ly m rs).map lyA)], ?_, ?_⟩
    · rw [← List.append_assoc]
      generalize hs1 : s ++ [AO.lst ((full rs).map natA)] = s1 at ge ee ⊢
      generalize hs2 : s1 ++ [AO.lst ((ly m rs).map lyA)] = s2 at ee ⊢
      simp -implicitDefEqProofs [ge, rows_src]
      rw [lc_all (gd := []) rs rowA (fun r => .int (r.length : Nat)) rfl (by simp) (by omega) (fun x hx => ⟨_, rfl, by simp [row_len, wipeA]⟩), ce]
      simp -implicitDefEqProofs [eq_natsT, le, hs2, ee]
    · rw [decide_eq_true_iff, ly_emp w v]
      simp
  · refine ⟨false, [AO.lst (st.map natA)], ?_, ?_⟩
    · generalize hs1 : s ++ [AO.lst (st.map natA)] = s1 at ge ⊢
      simp -implicitDefEqProofs [ge, rows_src]
      rw [lc_all (gd := []) rs rowA (fun r => .int (r.length : Nat)) rfl (by simp) (by omega) (fun x hx => ⟨_, rfl, by simp [row_len, wipeA]⟩), ce]
      simp -implicitDefEqProofs [eq_natsT, c]
    · simp [c]
end K76
end S
set_option Elab.async false
set_option linter.all false
set_option maxRecDepth 100000
set_option maxHeartbeats 4000000
/-! Mathematics, H: Playing. -/
namespace S
namespace K76
open PySem PySem.Spec PyProof.Rows L2 Pm
def kk (p : Nat × Nat) : List Key := [.inr (hnS p.1), .inr (hnS p.2)]
def tlA (q : List Lt) : AV := .tpS (q.map ltA)
def dA (D : Dq) : List (List Key × AV) := D.map fun x => (kk x.1, tlA x.2)
theorem kk_inj {p q : Nat × Nat} (h1 : p.1 < 3) (h2 : p.2 < 3) (h3 : q.1 < 3) (h4 : q.2 < 3) : kk p = kk q ↔ p = q := by
  constructor
  · intro e
    simp only [kk, List.cons.injEq, Sum.inr.injEq, and_true] at e
    exact Prod.ext (hnS_inj h1 h3 e.1) (hnS_inj h2 h4 e.2)
  · rintro rfl; rfl
theorem val_dA {D : Dq} (k : ∀ x ∈ D, x.1.1 < 3 ∧ x.1.2 < 3) {p : Nat × Nat} (h1 : p.1 < 3) (h2 : p.2 < 3) : valA (dA D) (kk p) = (look D p).map tlA := by
  induction D with
  | nil => rfl
  | cons x D ih =>
    obtain ⟨k1, k2⟩ := k x (by simp)
    have ih := ih fun y hy => k y (by simp [hy])
    rw [look_cons]
    unfold valA dA at ih ⊢
    rw [List.map_cons, List.find?_cons]
    by_cases e : x.1 = p
    · subst e
      simp
    · have : ¬ kk x.1 = kk p := fun z => e ((kk_inj k1 k2 h1 h2).mp z)
      simp only [this, decide_false, if_neg e]
      exact ih
theorem any_dA {D : Dq} (k : ∀ x ∈ D, x.1.1 < 3 ∧ x.1.2 < 3) {p : Nat × Nat} (h1 : p.1 < 3) (h2 : p.2 < 3) : ((dA D).any fun kv => decide (kv.1 = kk p)) = D.any fun x => decide (x.1 = p) := by
  induction D with
  | nil => rfl
  | cons x D ih =>
    obtain ⟨k1, k2⟩ := k x (by simp)
    have ih := ih fun y hy => k y (by simp [hy])
    unfold dA at ih ⊢
    rw [List.map_cons, List.any_cons, List.any_cons, ih]
    congr 1
    simp only [kk_inj k1 k2 h1 h2]
theorem put_dA {D : Dq} (k : ∀ x ∈ D, x.1.1 < 3 ∧ x.1.2 < 3) {p : Nat × Nat} (h1 : p.1 < 3) (h2 : p.2 < 3) (q : List Lt) : putA (dA D) (kk p) (tlA q) = dA (put D p q) := by
  unfold putA put
  rw [any_dA k h1 h2]
  split
  · unfold dA
    rw [List.map_map, List.map_map]
    apply List.map_congr_left
    intro x hx
    obtain ⟨k1, k2⟩ := k x hx
    by_cases e : x.1 = p
    · subst e; simp
    · have : ¬ kk x.1 = kk p := fun z => e ((kk_inj k1 k2 h1 h2).mp z)
      simp [this, e]
  · unfold dA
    rw [List.map_append]; rfl
def plF (n : Nat) (m : Bool) (rs : Rows) (a b : Nat) : List (Str × AV) := [("hands", handsA n), ("manner", mnA m), ("rows", rowsA rs), ("stand", .ref a), ("lying", .ref b)]
section
variable {n a b p : Nat} {m : Bool} {rs : Rows} {st : List Nat} {D : Dq} {s : Sto} {h : Nat} {e : AE}
theorem f_hands : fldA (plF n m rs a b) "hands" = some (handsA n) := by simp [plF, fldA]
theorem f_manner : fldA (plF n m rs a b) "manner" = some (mnA m) := by
  unfold plF; simp only [fldA]
  rw [if_neg (by decide), if_pos trivial]
theorem f_rows : fldA (plF n m rs a b) "rows" = some (rowsA rs) := by
  unfold plF; simp only [fldA]
  rw [if_neg (by decide), if_neg (by decide), if_pos trivial]
theorem f_stand : fldA (plF n m rs a b) "stand" = some (.ref a) := by
  unfold plF; simp only [fldA]
  rw [if_neg (by decide), if_neg (by decide), if_neg (by decide), if_pos trivial]
theorem f_lying : fldA (plF n m rs a b) "lying" = some (.ref b) := by
  unfold plF; simp only [fldA]
  rw [if_neg (by decide), if_neg (by decide), if_neg (by decide), if_neg (by decide), if_pos trivial]
/-- a Playing in the store -/
structure PAt (s : Sto) (p a b n : Nat) (m : Bool) (rs : Rows) (st : List Nat) (D : Dq) : Prop where
  o : s[p]? = some (.ins "Playing" (plF n m rs a b))
  sa : s[a]? = some (.lst (st.map natA))
  sb : s[b]? = some (.dT (dA D))
def evO (o : Option Ev) : AV := match o with
  | some e => evA e
  | none => .non
theorem next_eq (P : PAt s p a b n m rs st D) (w : Own n rs) (v : Vd m n rs st) (hh : h < n) : f_Playing_next_event [.ref p, .int (h : Nat)] s = .ok (evO (nxt rs st h)) s := by
  have q1 := fun e => x_fldC (e := e) P.o f_rows
  have q2 := fun e => x_fldC (e := e) P.o f_stand
  have r1 := fun s => rows_at w.toWf hh s
  have si := ixA_nat P.sa (show h < st.length by rw [v.len]; exact hh)
  have nx : ∀ k : Nat, (rs.getD h [])[k]? = nxt rs st h → k = st.getD h 0 → True := fun _ _ _ => trivial
  rw [e_Playing_next_event]
  unfold m_Playing_next_event nxt
  by_cases hl : st.getD h 0 < (rs.getD h []).length
  · have ix := fun s => row_at (List.getElem?_eq_getElem hl) s
    rw [List.getElem?_eq_getElem hl]
    generalize hz : (rs.getD h [])[st.getD h 0] = z at ix
    generalize rs.getD h [] = R at hl r1 ix
    generalize st.getD h 0 = k at hl si ix
    simp -implicitDefEqProofs [q1, q2, r1, si, row_len, hl, ix, evO]
  · rw [List.getElem?_eq_none (Nat.le_of_not_lt hl)]
    generalize rs.getD h [] = R at hl r1
    generalize st.getD h 0 = k at hl si
    simp -implicitDefEqProofs [q1, q2, r1, si, row_len, hl, evO]
theorem dg (P : PAt s p a b n m rs st D) (d : DQ m n rs st D) (le : n ≤ 3) {x y : Nat} (hx : x < n) (hy : y < n) : dgetA (.ref b) (.tup [hnA x, hnA y]) s = some ((look D (x, y)).map tlA) := by
  have k := val_dA (D := D) (fun z hz => ⟨by have := (d.key z hz).1; omega, by have := (d.key z hz).2.1; omega⟩) (p := (x, y)) (by show x < 3; omega) (by show y < 3; omega)
  simp only [dgetA, P.sb]
  exact congrArg some k
theorem bd (P : PAt s p a b n m rs st D) : bmOk "dict" (.ref b) s = true := by simp [bmOk, P.sb]
theorem look_get (D : Dq) (p : Nat × Nat) : ((look D p).map tlA).getD (.tpS []) = tlA ((look D p).getD []) := by
  cases look D p <;> rfl
theorem can_go_eq (P : PAt s p a b n m rs st D) (w : Own n rs) (v : Vd m n rs st) (d : DQ m n rs st D) (hh : h < n) : f_Playing_can_go [.ref p, .int (h : Nat)] s = .ok (.bl (en m rs st h)) s := by
  have le := w.le
  have q1 := fun e => x_fldC (e := e) P.o f_hands
  have q2 := fun e => x_fldC (e := e) P.o f_manner
  have q3 := fun e => x_fldC (e := e) P.o f_lying
  have hm := hands_at hh s
  have ne := next_eq P w v hh
  have mt := fun e ms => x_methC (e := e) (ms := ms) (fm := f_Playing_next_event) (m := "next_event") P.o (by unfold plF; simp only [fldA]; rw [if_neg (by decide), if_neg (by decide), if_neg (by decide), if_neg (by decide), if_neg (by decide)])
  rw [e_Playing_can_go]
  unfold m_Playing_can_go en
  cases hn : nxt rs st h with
  | none =>
    rw [hn] at ne
    simp only [evO] at ne
    simp -implicitDefEqProofs [mt, ne, isNA, isN]
  | some e =>
    rw [hn] at ne
    obtain ⟨o1, o2⟩ := nxt_o w hn
    have gd := dg P d le o1 hh
    simp only [evO, evA] at ne
    simp only [ok1]
    rw [d.val e.o h o1 hh o2]
    cases hg : e.g with
    | true =>
      simp -implicitDefEqProofs [mt, ne, isNA, isN, wd_give, hg]
    | false =>
      simp only [hnA] at gd
      have lg := look_get D (e.o, h)
      generalize (look D (e.o, h)).getD [] = q at lg
      have il : ∀ (q : List Lt) s, inA false (.str (ltS e.l)) (.tpS (q.map ltA)) s = some (.bl (decide (e.l ∈ q)), s) := fun q s => in_lts q e.l false s _ (.inr (.inr rfl))
      cases m with
      | true =>
        simp -implicitDefEqProofs [mt, ne, isNA, isN, wd_give, hg, q1, q2, q3, x_getB (bd P), x_getD gd, hm, hnA, mnA_order, lg, tlA, cutL_1, ← List.map_take, il, avail]
      | false =>
        simp -implicitDefEqProofs [mt, ne, isNA, isN, wd_give, hg, q1, q2, q3, x_getB (bd P), x_getD gd, hm, hnA, mnA_order, lg, tlA, il, avail]
theorem len_lt {D : Dq} (d : DQ m n rs st D) (v : Vd m n rs st) (w : Own n rs) : D.length ≤ 72 := by
  have a := d.len
  have b := (v.sum w).1
  have c := total_le w.toWf
  omega
theorem pl_m (f : Str) (h1 : ("hands" : Str) ≠ f) (h2 : ("manner" : Str) ≠ f) (h3 : ("rows" : Str) ≠ f) (h4 : ("stand" : Str) ≠ f) (h5 : ("lying" : Str) ≠ f) : fldA (plF n m rs a b) f = none := by
  unfold plF
  simp only [fldA]
  rw [if_neg h1, if_neg h2, if_neg h3, if_neg h4, if_neg h5]
theorem ready_eq (P : PAt s p a b n m rs st D) (w : Own n rs) (v : Vd m n rs st) (d : DQ m n rs st D) : f_Playing_ready [.ref p] s = .ok (.lst ((ready m rs st).map natA)) s := by
  have le := w.le
  have q1 := fun e => x_fldC (e := e) P.o f_hands
  have mt := fun e ms => x_methC (e := e) (ms := ms) (fm := f_Playing_can_go) (m := "can_go") P.o (pl_m _ (by decide) (by decide) (by decide) (by decide) (by decide))
  rw [e_Playing_ready]
  unfold m_Playing_ready
  simp -implicitDefEqProofs [q1, hands_len, rSrc_n (show n < 1000000 by omega)]
  rw [lc_map (gd := []) (xs := (List.range n).map fun i => AV.int (i : Nat)) (List.range n) natA (en m rs st) natA rfl (by simp) (by simp; omega) (fun x hx => ⟨_, rfl, by
    have cg := can_go_eq P w v d (List.mem_range.mp hx)
    simp -implicitDefEqProofs [wipeA, natA, mt, cg], fun _ => by simp -implicitDefEqProofs [wipeA]⟩)]
  simp -implicitDefEqProofs [ready, w.len]
/-- what a turn leaves in the store -/
def goS (s : Sto) (a b : Nat) (st : List Nat) (D : Dq) : Sto := (s.set b (.dT (dA D))).set a (.lst (st.map natA))
theorem PAt.ne (P : PAt s p a b n m rs st D) : p ≠ a ∧ p ≠ b ∧ a ≠ b := by
  refine ⟨fun z => ?_, fun z => ?_, fun z => ?_⟩
  · have := P.o; rw [z, P.sa] at this; cases this
  · have := P.o; rw [z, P.sb] at this; cases this
  · have := P.sa; rw [z, P.sb] at this; cases this
theorem PAt.go (P : PAt s p a b n m rs st D) (st' : List Nat) (D' : Dq) : PAt (goS s a b st' D') p a b n m rs st' D' := by
  obtain ⟨n1, n2, n3⟩ := P.ne
  have l1 := (List.getElem?_eq_some_iff.mp P.sa).1
  have l2 := (List.getElem?_eq_some_iff.mp P.sb).1
  unfold goS
  refine ⟨?_, ?_, ?_⟩
  · rw [List.getElem?_set_ne (Ne.symm n1), List.getElem?_set_ne (Ne.symm n2)]
    exact P.o
  · rw [List.getElem?_set_self (by rw [List.length_set]; exact l1)]
  · rw [List.getElem?_set_ne n3, List.getElem?_set_self l2]
theorem qu_len {m : Bool} {gi ta q : List Lt} (h : qu m gi ta = some q) : q.length ≤ gi.length := by
  cases m with
  | true =>
    simp only [qu, if_true] at h
    split at h
    · cases h; rw [List.length_drop]; omega
    · cases h
  | false =>
    have := rem_len ta gi q h
    omega
theorem look_len {D : Dq} (w : Own n rs) (v : Vd m n rs st) (d : DQ m n rs st D) {x y : Nat} (hx : x < n) (hy : y < n) (hne : x ≠ y) : ((look D (x, y)).getD []).length ≤ 24 := by
  have e := d.val x y hx hy hne
  have a := qu_len e
  have b := givs_len ((rs.getD x []).take (st.getD x 0)) y
  have c := w.sz _ (w.toWf.row hx).2
  have : ((rs.getD x []).take (st.getD x 0)).length ≤ (rs.getD x []).length := by rw [List.length_take]; omega
  omega
theorem PAt.put (P : PAt s p a b n m rs st D) (D' : Dq) : PAt (s.set b (.dT (dA D'))) p a b n m rs st D' := by
  obtain ⟨n1, n2, n3⟩ := P.ne
  have l2 := (List.getElem?_eq_some_iff.mp P.sb).1
  exact ⟨by rw [List.getElem?_set_ne (Ne.symm n2)]; exact P.o, by rw [List.getElem?_set_ne (Ne.symm n3)]; exact P.sa, by rw [List.getElem?_set_self l2]⟩
theorem set_dict (P : PAt s p a b n m rs st D) (d : DQ m n rs st D) (le : n ≤ 3) (ll : D.length ≤ 72) {x y : Nat} (hx : x < n) (hy : y < n) (q : List Lt) : setA (.ref b) (.tup [.str (hnS x), .str (hnS y)]) (.tpS (q.map ltA)) s = some (s.set b (.dT (dA (put D (x, y) q)))) := by
  have k := put_dA (D := D) (fun z hz => ⟨by have := (d.key z hz).1; omega, by have := (d.key z hz).2.1; omega⟩) (p := (x, y)) (by show x < 3; omega) (by show y < 3; omega) q
  have tk : asTK (.tup [.str (hnS x), .str (hnS y)]) = some (kk (x, y)) := rfl
  have dl : (dA D).length < 16777216 := by unfold dA; rw [List.length_map]; omega
  simp only [setA, P.sb, tk, if_pos dl]
  exact congrArg (fun z => some (s.set b (AO.dT z))) k
theorem set_stand (P : PAt s p a b n m rs st D) {z : Nat} (hh : h < st.length) : setA (.ref a) (.int (h : Nat)) (.int ((z : Int) + 1)) s = some (s.set a (.lst ((st.set h (z + 1)).map natA))) := by
  simp only [setA, P.sa]
  rw [List.length_map, ixN_nat hh]
  dsimp only
  rw [List.map_set]
  rfl
theorem stand_at (hh : h < st.length) : (st.map natA)[h]? = some (.int (st.getD h 0 : Nat)) := by
  rw [List.getElem?_map, List.getElem?_eq_getElem hh]
  simp [List.getD, hh, natA]
theorem go_eq (P : PAt s p a b n m rs st D) (w : Own n rs) (v : Vd m n rs st) (d : DQ m n rs st D) {e : Ev} (hn : nxt rs st h = some e) (ho : ok1 m rs st h e = true) :
    f_Playing_go [.ref p, .int (h : Nat)] s = .ok .non (goS s a b (adv st h) (goD D h e)) := by
  have le := w.le
  have hh := nxt_h w hn
  have sl : h < st.length := by rw [v.len]; exact hh
  have ll := len_lt d v w
  obtain ⟨o1, o2⟩ := nxt_o w hn
  obtain ⟨n1, n2, n3⟩ := P.ne
  have q1 := fun e => x_fldC (e := e) P.o f_hands
  have q3 := fun e => x_fldC (e := e) P.o f_lying
  have hm := hands_at hh s
  have ne := next_eq P w v hh
  have mt := fun e ms => x_methC (e := e) (ms := ms) (fm := f_Playing_next_event) (m := "next_event") P.o (pl_m _ (by decide) (by decide) (by decide) (by decide) (by decide))
  rw [hn] at ne
  simp only [evO, evA] at ne
  rw [e_Playing_go]
  unfold m_Playing_go goD goS adv
  have fin2 : ∀ (D' : Dq) (b2 b3 b4 b5 b6 b7 : Option AV), fin (sAugIx (eFld "Playing" "stand" (eVar 0)) (eVar 1) (eC (.int 1)) [some (.ref p), some (.int (h : Nat)), b2, b3, b4, b5, b6, b7] (s.set b (.dT (dA D')))) = .ok .non ((s.set b (.dT (dA D'))).set a (.lst ((st.set h (st.getD h 0 + 1)).map natA))) := fun D' b2 b3 b4 b5 b6 b7 => by
    have P1 := P.put D'
    have q2 := fun e => x_fldC (e := e) P1.o f_stand
    have ag := fun e => x_aug2 (mc := eC (.int 1)) (e := e) P1.sa (stand_at sl)
    have ss := set_stand P1 (z := st.getD h 0) sl
    generalize st.getD h 0 = z at ag ss
    simp -implicitDefEqProofs [q2, ag, ss]
  cases hg : e.g with
  | true =>
    have gd := dg P d le hh o1
    simp only [hnA] at gd
    have lg := look_get D (h, e.o)
    have lk := look_len w v d hh o1 (Ne.symm o2)
    have sd := set_dict P d le ll hh o1
    generalize (look D (h, e.o)).getD [] = q at lg lk
    have ad : ∀ s, addA (.tpS (q.map ltA)) (.tpS [.str (ltS e.l)]) s = some (.tpS ((q ++ [e.l]).map ltA), s) := fun s => by
      rw [x_addS (by simp; omega), List.map_append]; rfl
    simp -implicitDefEqProofs [-x_augIx, mt, ne, wd_give, hg, q1, q3, x_getB (bd P), x_getD gd, hm, hnA, lg, tlA, ad, -List.map_append, sd, fin2]
  | false =>
    have gd := dg P d le o1 hh
    simp only [hnA] at gd
    have lg := look_get D (e.o, h)
    have lk := look_len w v d o1 hh o2
    have sd := set_dict P d le ll o1 hh
    have av : e.l ∈ (look D (e.o, h)).getD [] := by
      unfold ok1 at ho
      rw [hg, d.val e.o h o1 hh o2] at ho
      simp only [Bool.false_or] at ho
      cases m with
      | true =>
        have := avail_any ho
        simpa [avail] using this
      | false => simpa [avail] using ho
    generalize (look D (e.o, h)).getD [] = q at lg lk av
    have ii := fun s => idx_lts q e.l av s (.tpS (q.map ltA)) rfl
    simp only [ltA] at ii
    have hi : q.idxOf e.l < q.length := List.idxOf_lt_length_of_mem av
    have er : (q.take (q.idxOf e.l)).map ltA ++ (q.drop (q.idxOf e.l + 1)).map ltA = (q.erase e.l).map ltA := by
      rw [← List.map_append, List.erase_eq_eraseIdx_of_idxOf rfl, List.eraseIdx_eq_take_drop_succ]
    have ad : ∀ s, addA (.tpS ((q.map ltA).take (q.idxOf e.l))) (.tpS ((q.map ltA).drop (q.idxOf e.l + 1))) s = some (.tpS ((q.erase e.l).map ltA), s) := fun s => by
      rw [x_addS (by simp; omega), ← er, List.map_take, List.map_drop]
    simp -implicitDefEqProofs [-x_augIx, mt, ne, wd_give, hg, q1, q3, x_getB (bd P), x_getD gd, hm, hnA, lg, tlA, ii, cutL_take, cutL_drop1, ad, sd, fin2, tpsOk]
end
end K76
end S
set_option Elab.async false
set_option linter.all false
set_option maxRecDepth 100000
set_option maxHeartbeats 4000000
/-! Mathematics, J: queues, is_over. -/
namespace S
section
variable {e e' : AE} {s s' : Sto} {b : Nat} {m : SM} {ma : EM} {ms : AM} {xs ys : List AV}
def unl (b : Nat) (r : SR) : SR := match r with
  | .nx e' s' => (match s'[b]? with
    | some (.frz (.dT kvs')) => .nx e' (s'.set b (.dT kvs'))
    | _ => .no)
  | _ => .no
theorem x_lock {pick : AE → Sto → Option Nat} {kvs} (h1 : pick e s = some b) (h2 : s[b]? = some (.dT kvs)) : sLock pick m e s = unl b (m e (s.set b (.frz (.dT kvs)))) := by
  unfold sLock
  rw [h1]
  dsimp only
  rw [h2]
  dsimp only
  unfold unl
  cases m e (s.set b (.frz (.dT kvs))) <;> rfl
theorem unl_ok {kvs} (h2 : s[b]? = some (.dT kvs)) : unl b (.nx e (s.set b (.frz (.dT kvs)))) = .nx e s := by
  have hl := (List.getElem?_eq_some_iff.mp h2).1
  unfold unl
  dsimp only
  rw [List.getElem?_set_self hl]
  dsimp only
  rw [List.set_set, self_set h2]
def itS (r : Res AV) : Res Src := r.bind fun a s => match a with
  | .ref n => match s[n]? with
    | some (.frz (.dT kvs)) => .ok ⟨itemsA kvs, [(n, .frz (.dT kvs))]⟩ s
    | _ => .no
  | _ => .no
@[simp] theorem x_iIt : iIt ma e s = itS (ma e s) := rfl
theorem itS_ok {kvs} (h : s[b]? = some (.frz (.dT kvs))) : itS (.ok (.ref b) s) = .ok ⟨itemsA kvs, [(b, .frz (.dT kvs))]⟩ s := by
  unfold itS
  simp only [Res.ok_bind, h]
def stE (r : Res AV) (e : AE) (ms : AM) : Res (List AV) := r.bind fun x s => match seqA x s with
  | some xs => (ms e s).bind fun ys s => .ok (xs ++ ys) s
  | none => .no
def stR (xs : List AV) (r : Res (List AV)) : Res (List AV) := r.bind fun ys s => .ok (xs ++ ys) s
@[simp] theorem x_star : aStar ma ms e s = stE (ma e s) e ms := rfl
@[simp] theorem stE_t : stE (.ok (.tup xs) s) e ms = stR xs (ms e s) := rfl
@[simp] theorem stR_ok : stR xs (.ok ys s) = .ok (xs ++ ys) s := rfl
theorem pls_of {n : Nat} : ∀ xs : List AV, (∀ a ∈ xs, ∃ d, Pl n a d) → ∃ ds, Pls n xs ds ∧ (ds = [] ↔ xs = [])
  | [], _ => ⟨[], .nil n, by simp⟩
  | a :: xs, h => by
    obtain ⟨d, hd⟩ := h a (by simp)
    obtain ⟨ds, h2, _⟩ := pls_of xs fun b hb => h b (by simp [hb])
    exact ⟨d :: ds, .cons hd h2, by simp⟩
end
namespace K76
open PySem PySem.Spec PyProof.Rows L2 Pm
theorem alike_strs : ∀ q r : List Lt, PySem.W.alikeAll (q.map fun l => PyData.str (ltS l)) (r.map fun l => PyData.str (ltS l)) = true
  | [], _ => by simp [PySem.W.alikeAll]
  | _ :: _, [] => by simp [PySem.W.alikeAll]
  | a :: q, b :: r => by simp [PySem.W.alikeAll, PySem.W.alike, alike_strs q r]
def qiA (x : (Nat × Nat) × List Lt) : AV := .tup [hnA x.1.1, hnA x.1.2, tlA x.2]
def qiD (x : (Nat × Nat) × List Lt) : PyData := .tuple [.str (hnS x.1.1), .str (hnS x.1.2), .tuple (x.2.map fun l => PyData.str (ltS l))]
theorem pl_qi (x : (Nat × Nat) × List Lt) : Pl 2 (qiA x) (qiD x) := Pl.tup (.cons (.str (hnS_ok _) 1) (.cons (.str (hnS_ok _) 1) (.cons (.tpS (pl_lts _)) (.nil 1))))
theorem sort_qi (D : Dq) (h : D.length ≤ 100) : sortOk (D.map qiA) = true := by
  have en : ∀ x, encA (qiA x) = qiD x := fun x => by unfold encA; rw [(pl_qi x).1]; rfl
  unfold sortOk
  simp only [Bool.and_eq_true, Bool.or_eq_true, List.all_eq_true, decide_eq_true_eq, Bool.not_eq_true']
  refine ⟨⟨fun a ha => ?_, by rw [List.length_map]; omega⟩, .inl (.inl fun a ha => ?_)⟩
  · obtain ⟨x, _, rfl⟩ := List.mem_map.mp ha
    refine ⟨⟨⟨by rw [(pl_qi x).1]; rfl, ?_⟩, ?_⟩, fun b hb => ?_⟩
    · rw [en]; have := (pl_qi x).2.2; omega
    · rw [en]; rfl
    · obtain ⟨y, _, rfl⟩ := List.mem_map.mp hb
      rw [en, en]
      simp [qiD, PySem.W.alike, PySem.W.alikeAll, alike_strs]
  · obtain ⟨x, _, rfl⟩ := List.mem_map.mp ha
    rw [en]; rfl
section
variable {n a b p : Nat} {m : Bool} {rs : Rows} {st : List Nat} {D : Dq} {s : Sto} {h : Nat} {e : AE}
theorem ne_tl (q : List (Fin 3)) (s : Sto) : eqA true (tlA q) (.tup []) s = some (.bl (!decide (q = [])), s) := by
  show eqA true (.tpS (q.map ltA)) _ s = _
  rw [eqA_pl (p := q = []) true ((Pl.tpS (pl_lts q)).s (s := s)) ((Pl.tup (Pls.nil 0)).s (s := s)) (by cases q <;> simp)]
  rfl
theorem pk_at (P : PAt s p a b n m rs st D) (e : AE) : pkLying (some (.ref p) :: e) s = some b := by
  unfold pkLying
  simp only [List.getElem?_cons_zero, insA, P.o, if_pos, f_lying]
/-- what queues() tells -/
def qsL (D : Dq) : List AV := sortAV ((D.filter fun x => !decide (x.2 = [])).map qiA)
theorem qsL_mem {D : Dq} {x : AV} (h : x ∈ qsL D) : ∃ d, Pl 2 x d := by
  unfold qsL sortAV at h
  rw [List.mem_mergeSort] at h
  obtain ⟨y, _, rfl⟩ := List.mem_map.mp h
  exact ⟨_, pl_qi y⟩
theorem qsL_nil {D : Dq} : qsL D = [] ↔ ∀ x ∈ D, x.2 = [] := by
  unfold qsL sortAV
  rw [← List.length_eq_zero_iff, List.length_mergeSort, List.length_map, List.length_eq_zero_iff, List.filter_eq_nil_iff]
  simp
theorem queues_eq (P : PAt s p a b n m rs st D) (ll : D.length ≤ 100) : f_Playing_queues [.ref p] s = .ok (.tup (qsL D)) s := by
  have hl := (List.getElem?_eq_some_iff.mp P.sb).1
  obtain ⟨n1, n2, n3⟩ := P.ne
  have s1b : (s.set b (.frz (.dT (dA D))))[b]? = some (.frz (.dT (dA D))) := List.getElem?_set_self hl
  have q3 := fun e => x_fldC (cn := "Playing") (s := s.set b (.frz (.dT (dA D)))) (n := p) (e := e) (fs := plF n m rs a b) (by rw [List.getElem?_set_ne (Ne.symm n2)]; exact P.o) f_lying
  have ul := fun e => unl_ok (e := e) P.sb
  rw [e_Playing_queues]
  unfold m_Playing_queues
  rw [x_seq, x_lock (pk_at P _) P.sb]
  generalize s.set b (.frz (.dT (dA D))) = s1 at s1b q3 ul
  simp -implicitDefEqProofs [q3, itS_ok s1b]
  rw [lc_map D (fun x => AV.tup [.tup [hnA x.1.1, hnA x.1.2], tlA x.2]) (fun x => !decide (x.2 = [])) qiA (by unfold itemsA dA; rw [List.map_map]; rfl) (by simpa using s1b) (by omega) (fun x hx => ⟨_, rfl, by
    simp -implicitDefEqProofs [wipeA, setL, ne_tl], fun _ => by simp -implicitDefEqProofs [wipeA, setL, qiA]⟩)]
  have so := sort_qi (D.filter fun x => !decide (x.2 = [])) (Nat.le_trans (List.length_filter_le _ _) ll)
  have sa : ∀ s, sortedA [.lst ((D.filter fun x => !decide (x.2 = [])).map qiA)] s = some (.lst (qsL D), s) := fun s => by
    show ((litA some [.lst _] s).bind fun xs => if sortOk xs then some (AV.lst (sortAV xs), s) else none) = _
    simp only [litA, lstA, Option.bind_some, so, if_true]
    rfl
  generalize (D.filter fun x => !decide (x.2 = [])).map qiA = Z at sa
  simp -implicitDefEqProofs [ul, sa]
theorem is_over_eq (P : PAt s p a b n m rs st D) (w : Own n rs) (v : Vd m n rs st) (d : DQ m n rs st D) : f_Playing_is_over [.ref p] s = .ok (.bl (decide ((∀ x ∈ D, x.2 = []) ∧ st = full rs))) s := by
  have ll := len_lt d v w
  have le := w.le
  have wl := w.len
  have qe := queues_eq P (by omega)
  have q1 := fun e => x_fldC (e := e) P.o f_rows
  have q2 := fun e => x_fldC (e := e) P.o f_stand
  have mt := fun e ms => x_methC (e := e) (ms := ms) (fm := f_Playing_queues) (m := "queues") P.o (pl_m _ (by decide) (by decide) (by decide) (by decide) (by decide))
  have ce : (rs.map fun r => AV.int (r.length : Nat)) = (full rs).map natA := by unfold full; rw [List.map_map]; rfl
  obtain ⟨ds, hp, hz⟩ := pls_of (n := 2) (qsL D) fun a ha => qsL_mem ha
  have eq0 : ∀ s, eqA false (.tup (qsL D)) (.tup []) s = some (.bl (decide (∀ x ∈ D, x.2 = [])), s) := fun s => by
    rw [eqA_pl (p := ∀ x ∈ D, x.2 = []) false ((Pl.tup hp).s (s := s)) ((Pl.tup (Pls.nil 0)).s (s := s)) (by rw [PyData.tuple.injEq, hz, qsL_nil])]
    rfl
  have eq1 : eqA false (.ref a) (.lst ((full rs).map natA)) s = some (.bl (decide (st = full rs)), s) := by
    rw [eqA_pl (p := st = full rs) false (.ref P.sa (pl_nats st)) ((Pl.lst (pl_nats (full rs))).s (s := s)) (by rw [PyData.list.injEq, nats_inj])]
    rfl
  rw [e_Playing_is_over]
  unfold m_Playing_is_over
  by_cases c : ∀ x ∈ D, x.2 = []
  · have eq2 : ∀ s, eqA false (.tup (qsL D)) (.tup []) s = some (.bl true, s) := fun s => by rw [eq0, decide_eq_true c]
    have dd : decide ((∀ x ∈ D, x.2 = []) ∧ st = full rs) = decide (st = full rs) := by
      rw [Bool.eq_iff_iff, decide_eq_true_iff, decide_eq_true_iff]
      exact ⟨fun z => z.2, fun z => ⟨c, z⟩⟩
    rw [dd]
    simp -implicitDefEqProofs [mt, qe, eq2, q1, q2, rows_src]
    rw [lc_all (gd := []) rs rowA (fun r => .int (r.length : Nat)) rfl (by simp) (by omega) (fun x hx => ⟨_, rfl, by simp -implicitDefEqProofs [row_len, wipeA]⟩), ce]
    simp -implicitDefEqProofs [eq1]
  · have eq2 : ∀ s, eqA false (.tup (qsL D)) (.tup []) s = some (.bl false, s) := fun s => by rw [eq0, decide_eq_false c]
    have dd : decide ((∀ x ∈ D, x.2 = []) ∧ st = full rs) = false := decide_eq_false fun z => c z.1
    rw [dd]
    simp -implicitDefEqProofs [mt, qe, eq2]
end
end K76
end S
set_option Elab.async false
set_option linter.all false
set_option maxRecDepth 100000
set_option maxHeartbeats 4000000
/-! Mathematics, K: played. -/
namespace S
open PySem PySem.Spec PyProof.Rows L2
section
variable {e : AE} {s s' : Sto} {ms : AM} {as : List AV} {cn f : Str} {fm : Fn}
def mkC (cn : Str) (fm : Fn) (as : List AV) (e : AE) (s : Sto) : Res AV := match fm (.ref s.length :: as) (s ++ [.ins cn []]) with
  | .ok .non s' => .ok (.ref s.length) s'
  | _ => .no
@[simp] theorem x_make : eMake cn fm ms e s = bEA (ms e s) e (mkC cn fm) := rfl
theorem x_mkC (h : fm (.ref s.length :: as) (s ++ [.ins cn []]) = .ok .non s') : mkC cn fm as e s = .ok (.ref s.length) s' := by unfold mkC; rw [h]
theorem get_mid {x : AO} {l : Sto} : (s ++ (x :: l))[s.length]? = some x := by simp
theorem set_mid {x z : AO} {l : Sto} : (s ++ (x :: l)).set s.length z = s ++ (z :: l) := by
  rw [List.set_append_right _ _ (Nat.le_refl _)]
  simp
theorem setFA_mid {fs : List (Str × AV)} {v : AV} {l : Sto} (h : fs.length < 1000) : setFA cn f (.ref s.length) v (s ++ (.ins cn fs :: l)) = some (s ++ (.ins cn (putFA f v fs) :: l)) := by
  unfold setFA insA
  simp only [get_mid, if_true, if_pos h, set_mid]
@[simp] theorem x_dT : eDT e s = .ok (.ref s.length) (s ++ [.dT []]) := rfl
def whC (n : Nat) (t : TM) (body : SM) (e : AE) (s : Sto) : SR := whGo t body n e s
@[simp] theorem x_wh {n : Nat} {t : TM} {mb : SM} : sWh n t mb e s = whC n t mb e s := rfl
end
namespace K76
open PySem PySem.Spec PyProof.Rows L2 Pm
def St4 (s : Sto) (n : Nat) (m : Bool) (rs : Rows) (st : List Nat) (D : Dq) (o : List Nat) : Sto := s ++ [.ins "Playing" (plF n m rs (s.length + 1) (s.length + 2)), .lst (st.map natA), .dT (dA D), .lst (o.map natA)]
section
variable {n : Nat} {m : Bool} {rs : Rows} {st st' : List Nat} {D D' : Dq} {s : Sto} {o : List Nat} {e : AE}
theorem st4_at : PAt (St4 s n m rs st D o) s.length (s.length + 1) (s.length + 2) n m rs st D := by
  unfold St4
  refine ⟨get_mid, ?_, ?_⟩
  · rw [List.getElem?_append_right (by omega), show s.length + 1 - s.length = 1 by omega]; rfl
  · rw [List.getElem?_append_right (by omega), show s.length + 2 - s.length = 2 by omega]; rfl
theorem st4_o : (St4 s n m rs st D o)[s.length + 3]? = some (.lst (o.map natA)) := by
  unfold St4
  rw [List.getElem?_append_right (by omega), show s.length + 3 - s.length = 3 by omega]; rfl
theorem st4_go : goS (St4 s n m rs st D o) (s.length + 1) (s.length + 2) st' D' = St4 s n m rs st' D' o := by
  unfold goS St4
  rw [List.set_append_right _ _ (by omega), show s.length + 2 - s.length = 2 by omega, List.set_append_right _ _ (by omega), show s.length + 1 - s.length = 1 by omega]
  rfl
theorem st4_app (hl : o.length ≤ 1000) (h : Nat) : appendA (.ref (s.length + 3)) [.int (h : Nat)] (St4 s n m rs st D o) = some (.non, St4 s n m rs st D (o ++ [h])) := by
  simp only [appendA, st4_o]
  rw [if_pos (by rw [List.length_map]; omega)]
  unfold St4
  rw [List.set_append_right _ _ (by omega), show s.length + 3 - s.length = 3 by omega, List.map_append]
  rfl
theorem init_eq (le : n ≤ 3) : f_Playing___init__ [.ref s.length, handsA n, mnA m, rowsA rs] (s ++ [.ins "Playing" []]) = .ok .non (s ++ [.ins "Playing" (plF n m rs (s.length + 1) (s.length + 2)), .lst ((zeros n).map natA), .dT []]) := by
  have zm := zeros_mul le
  have p1 : ∀ v, putFA "hands" v [] = [(("hands" : Str), v)] := fun _ => rfl
  have p2 : ∀ u v, putFA "manner" v [(("hands" : Str), u)] = [(("hands" : Str), u), (("manner" : Str), v)] := fun u v => by simp only [putFA]; rw [if_neg (by decide)]
  have p3 : ∀ u u2 v, putFA "rows" v [(("hands" : Str), u), (("manner" : Str), u2)] = [(("hands" : Str), u), (("manner" : Str), u2), (("rows" : Str), v)] := fun u u2 v => by simp only [putFA]; rw [if_neg (by decide), if_neg (by decide)]
  have p4 : ∀ u u2 u3 v, putFA "stand" v [(("hands" : Str), u), (("manner" : Str), u2), (("rows" : Str), u3)] = [(("hands" : Str), u), (("manner" : Str), u2), (("rows" : Str), u3), (("stand" : Str), v)] := fun u u2 u3 v => by simp only [putFA]; rw [if_neg (by decide), if_neg (by decide), if_neg (by decide)]
  have p5 : ∀ u u2 u3 u4 v, putFA "lying" v [(("hands" : Str), u), (("manner" : Str), u2), (("rows" : Str), u3), (("stand" : Str), u4)] = [(("hands" : Str), u), (("manner" : Str), u2), (("rows" : Str), u3), (("stand" : Str), u4), (("lying" : Str), v)] := fun u u2 u3 u4 v => by simp only [putFA]; rw [if_neg (by decide), if_neg (by decide), if_neg (by decide), if_neg (by decide)]
  have sf := fun (f : Str) (fs : List (Str × AV)) (v : AV) (l : Sto) (h : fs.length < 1000) (e : AE) => x_fldM2 (e := e) (setFA_mid (s := s) (cn := "Playing") (f := f) (fs := fs) (v := v) (l := l) h)
  have s1 := fun v l e => sf "hands" [] v l (by decide) e
  have s2 := fun u v l e => sf "manner" [(("hands" : Str), u)] v l (by simp) e
  have s3 := fun u u2 v l e => sf "rows" [(("hands" : Str), u), (("manner" : Str), u2)] v l (by simp) e
  have s4 := fun u u2 u3 v l e => sf "stand" [(("hands" : Str), u), (("manner" : Str), u2), (("rows" : Str), u3)] v l (by simp) e
  have s5 := fun u u2 u3 u4 v l e => sf "lying" [(("hands" : Str), u), (("manner" : Str), u2), (("rows" : Str), u3), (("stand" : Str), u4)] v l (by simp) e
  simp only [p1, p2, p3, p4, p5] at s1 s2 s3 s4 s5
  rw [e_Playing___init__]
  unfold m_Playing___init__
  simp -implicitDefEqProofs [s1, s2, s3, s4, s5, hands_len, zm, plF]
/-- a turn of played -/
theorem ready_stuck {p : List Nat × List Nat} (h : ready m rs p.2 = []) : gstep m rs p = p := by unfold gstep; rw [h]
theorem gree_stuck {k : Nat} (h : ready m rs (gree m rs k).2 = []) : ∀ j, gree m rs (k + j) = gree m rs k
  | 0 => rfl
  | j + 1 => by
    show gstep m rs (gree m rs (k + j)) = _
    rw [gree_stuck h j, ready_stuck h]
theorem ready_full (w : Own n rs) : ready m rs (full rs) = [] := by
  unfold ready
  rw [List.filter_eq_nil_iff]
  intro h hh he
  rw [en_false (n := n) (by rw [full_getD]; omega)] at he
  cases he
theorem played_tail {t : TM} {mb : SM} {b0 b1 b2 : Option AV} (w : Own n rs)
    (ht : ∀ (o st : List Nat) (D : Dq) (r : List Nat), t [b0, b1, b2, some (.ref s.length), some (.ref (s.length + 3)), some (.lst (r.map natA))] (St4 s n m rs st D o) = .ok (!decide (r = [])) (St4 s n m rs st D o))
    (hb : ∀ (o st : List Nat) (D : Dq) (h : Nat) (r : List Nat), o.length ≤ 72 → Vd m n rs st → DQ m n rs st D → ready m rs st = h :: r → ∃ D', DQ m n rs (adv st h) D' ∧ mb [b0, b1, b2, some (.ref s.length), some (.ref (s.length + 3)), some (.lst ((h :: r).map natA))] (St4 s n m rs st D o) =
      .nx [b0, b1, b2, some (.ref s.length), some (.ref (s.length + 3)), some (.lst ((ready m rs (adv st h)).map natA))] (St4 s n m rs (adv st h) D' (o ++ [h]))) :
    ∀ (j k f : Nat) (D : Dq), k + j = total rs → (gree m rs k).2.sum = k → j < f → DQ m n rs (gree m rs k).2 D → ∃ D', DQ m n rs (gree m rs (total rs)).2 D' ∧
      whC f t mb [b0, b1, b2, some (.ref s.length), some (.ref (s.length + 3)), some (.lst ((ready m rs (gree m rs k).2).map natA))] (St4 s n m rs (gree m rs k).2 D (gree m rs k).1) =
      .nx [b0, b1, b2, some (.ref s.length), some (.ref (s.length + 3)), some (.lst [])] (St4 s n m rs (gree m rs (total rs)).2 D' (gree m rs (total rs)).1) := by
  intro j
  induction j with
  | zero =>
    intro k f D hk hs hf d
    have v := gree_vd (m := m) w k
    have : (gree m rs k).2 = full rs := (v.sum w).2 (by omega)
    have hk' : k = total rs := by omega
    subst hk'
    refine ⟨D, d, ?_⟩
    obtain ⟨f, rfl⟩ : ∃ f', f = f' + 1 := ⟨f - 1, by omega⟩
    have hr : ready m rs (gree m rs (total rs)).2 = [] := by rw [this]; exact ready_full w
    unfold whC
    rw [whGo, ht, hr]
    rfl
  | succ j ih =>
    intro k f D hk hs hf d
    have v := gree_vd (m := m) w k
    obtain ⟨f, rfl⟩ : ∃ f', f = f' + 1 := ⟨f - 1, by omega⟩
    have tl := total_le w.toWf
    cases hr : ready m rs (gree m rs k).2 with
    | nil =>
      have e : gree m rs (total rs) = gree m rs k := by
        have := gree_stuck hr (total rs - k)
        rwa [show k + (total rs - k) = total rs by omega] at this
      rw [e]
      refine ⟨D, d, ?_⟩
      unfold whC
      rw [whGo, ht]
      rfl
    | cons h r =>
      have hm : h ∈ ready m rs (gree m rs k).2 := by rw [hr]; simp
      have hh := (mem_ready.mp hm).1
      obtain ⟨D1, d1, e1⟩ := hb (gree m rs k).1 (gree m rs k).2 D h r (by have := gree_len m rs k; omega) v d hr
      have gs : gree m rs (k + 1) = ((gree m rs k).1 ++ [h], adv (gree m rs k).2 h) := by
        show gstep m rs (gree m rs k) = _
        unfold gstep
        rw [hr]
      have i := ih (k + 1) f D1 (by omega) (by rw [gs]; dsimp only; rw [sum_adv (by rw [v.len, ← w.len]; exact hh), hs]) (by omega) (by rw [gs]; exact d1)
      rw [gs] at i
      dsimp only at i
      obtain ⟨D2, d2, e2⟩ := i
      refine ⟨D2, d2, ?_⟩
      unfold whC at e2 ⊢
      rw [whGo, ht]
      simp only [Res.ok_sbind, decide_false, Bool.not_false, if_true, reduceCtorEq, e1]
      exact e2
end
end K76
end S
set_option Elab.async false
set_option linter.all false
set_option maxRecDepth 100000
set_option maxHeartbeats 4000000
/-! Mathematics, L: played, to its end. -/
namespace S
namespace K76
open PySem PySem.Spec PyProof.Rows L2 Pm
section
variable {n : Nat} {m : Bool} {rs : Rows} {st st' : List Nat} {D D' : Dq} {s : Sto} {o : List Nat} {e : AE}
theorem played_fin {t : TM} {mb : SM} {b0 b1 b2 : Option AV} (w : Own n rs)
    (ht : ∀ (o st : List Nat) (D : Dq) (r : List Nat), t [b0, b1, b2, some (.ref s.length), some (.ref (s.length + 3)), some (.lst (r.map natA))] (St4 s n m rs st D o) = .ok (!decide (r = [])) (St4 s n m rs st D o))
    (hb : ∀ (o st : List Nat) (D : Dq) (h : Nat) (r : List Nat), o.length ≤ 72 → Vd m n rs st → DQ m n rs st D → ready m rs st = h :: r → ∃ D', DQ m n rs (adv st h) D' ∧ mb [b0, b1, b2, some (.ref s.length), some (.ref (s.length + 3)), some (.lst ((h :: r).map natA))] (St4 s n m rs st D o) =
      .nx [b0, b1, b2, some (.ref s.length), some (.ref (s.length + 3)), some (.lst ((ready m rs (adv st h)).map natA))] (St4 s n m rs (adv st h) D' (o ++ [h]))) :
    ∃ D', DQ m n rs (gree m rs (total rs)).2 D' ∧ fin (bQ (whC 1000 t mb [b0, b1, b2, some (.ref s.length), some (.ref (s.length + 3)), some (.lst ((ready m rs (zeros n)).map natA))] (St4 s n m rs (zeros n) [] [])) (sRet (eTup (aCons (eCall (tupleA false) (aCons (eVar 4) aNil)) (aCons (eVar 3) aNil))))) =
      .ok (.tup [.tup ((gree m rs (total rs)).1.map natA), .ref s.length]) (St4 s n m rs (gree m rs (total rs)).2 D' (gree m rs (total rs)).1) := by
  have tl := total_le w.toWf
  have g0 : gree m rs 0 = ([], zeros n) := by simp [gree, w.len]
  obtain ⟨D', d', e⟩ := played_tail w ht hb (total rs) 0 1000 [] (by omega) (by rw [g0]; simp [zeros]) (by omega) (by rw [g0]; exact .zeros w)
  rw [g0] at e
  refine ⟨D', d', ?_⟩
  dsimp only at e
  rw [e]
  simp -implicitDefEqProofs [x_tupR st4_o]
theorem ne_natsL (q : List Nat) (s : Sto) : eqA true (.lst (q.map natA)) (.lst []) s = some (.bl (!decide (q = [])), s) := by
  rw [eqA_pl (p := q = []) true ((Pl.lst (pl_nats q)).s (s := s)) ((Pl.lst (Pls.nil 0)).s (s := s)) (by cases q <;> simp)]
  rfl
theorem played_eq (w : Own n rs) : ∃ D, DQ m n rs (gree m rs (total rs)).2 D ∧ f_played [handsA n, mnA m, rowsA rs] s =
    .ok (.tup [.tup ((gree m rs (total rs)).1.map natA), .ref s.length]) (St4 s n m rs (gree m rs (total rs)).2 D (gree m rs (total rs)).1) := by
  have le := w.le
  have st0 : s ++ [.ins "Playing" (plF n m rs (s.length + 1) (s.length + 2)), .lst ((zeros n).map natA), .dT []] ++ [.lst []] = St4 s n m rs (zeros n) [] [] := by simp [St4, dA]
  have l3 : (s ++ [AO.ins "Playing" (plF n m rs (s.length + 1) (s.length + 2)), .lst ((zeros n).map natA), .dT []]).length = s.length + 3 := by simp
  have mk := fun e => x_mkC (e := e) (init_eq (s := s) (n := n) (m := m) (rs := rs) le)
  have v0 : Vd m n rs (zeros n) := .zeros w
  have re := ready_eq (st4_at (s := s) (n := n) (m := m) (rs := rs) (st := zeros n) (D := []) (o := [])) w v0 (.zeros w)
  have mtR := fun (st : List Nat) (D : Dq) (o : List Nat) e ms => x_methC (e := e) (ms := ms) (fm := f_Playing_ready) (m := "ready") (st4_at (s := s) (n := n) (m := m) (rs := rs) (st := st) (D := D) (o := o)).o (pl_m _ (by decide) (by decide) (by decide) (by decide) (by decide))
  have mtG := fun (st : List Nat) (D : Dq) (o : List Nat) e ms => x_methC (e := e) (ms := ms) (fm := f_Playing_go) (m := "go") (st4_at (s := s) (n := n) (m := m) (rs := rs) (st := st) (D := D) (o := o)).o (pl_m _ (by decide) (by decide) (by decide) (by decide) (by decide))
  rw [e_played]
  unfold m_played
  generalize hs3 : s ++ [AO.ins "Playing" (plF n m rs (s.length + 1) (s.length + 2)), .lst ((zeros n).map natA), .dT []] = s3 at st0 l3 mk
  simp -implicitDefEqProofs [mk, l3, st0, mtR, re]
  refine played_fin w (fun o st D r => ?_) fun o st D h r hl v d hr => ?_
  · simp -implicitDefEqProofs [ne_natsL]
  · have hm : h ∈ ready m rs st := by rw [hr]; simp
    obtain ⟨hh, he⟩ := mem_ready.mp hm
    obtain ⟨ev, hn, ho⟩ := en_nxt he
    have ge := go_eq (st4_at (s := s) (o := o)) w v d hn ho
    rw [st4_go] at ge
    have d' := d.go w v hn ho
    have re := ready_eq (st4_at (s := s) (n := n) (m := m) (rs := rs) (st := adv st h) (D := goD D h ev) (o := o ++ [h])) w (v.adv w he) d'
    have ap := st4_app (s := s) (n := n) (m := m) (rs := rs) (st := adv st h) (D := goD D h ev) (o := o) (by omega) h
    have bm : bmOk "list" (.ref (s.length + 3)) (St4 s n m rs (adv st h) (goD D h ev) o) = true := by simp [bmOk, st4_o]
    have ix : ∀ s, ixA (.lst ((h :: r).map natA)) (.int 0) s = some (.int (h : Nat), s) := fun s => ixA_lst (atI_some (k := 0) rfl)
    refine ⟨goD D h ev, d', ?_⟩
    simp only [List.map_cons] at ix ⊢
    simp -implicitDefEqProofs [mtG, mtR, ix, ge, x_bmC bm, ap, re]
end
end K76
end S
set_option Elab.async false
set_option linter.all false
set_option maxRecDepth 100000
set_option maxHeartbeats 4000000
/-! Mathematics, N: names, events, rows, hands: as they should be. -/
namespace S
namespace K76
open PySem PySem.Spec PyProof.Rows L2 Pm
def nm6 : List Str := ["a", "b", "c", "x", "y", "z"]
theorem hn_nm (h : Nat) : hnS h ∈ nm6 := by
  unfold hnS
  split <;> decide
theorem lt_nm (l : Fin 3) : ltS l ∈ nm6 := by revert l; decide
def abc : Str := "abcdefghijklmnopqrstuvwxyz"
theorem bls_all {α : Type} : ∀ l : List α, blsA (l.map fun _ => AV.bl true) = some (l.map fun _ => true)
  | [] => rfl
  | _ :: l => by rw [List.map_cons, blsA, bls_all l]; rfl
theorem all_true {α : Type} (l : List α) (s : Sto) : allA [.lst (l.map fun _ => AV.bl true)] s = some (.bl true, s) := by
  show ((lstA (.lst _) s).bind blsA).map _ = _
  simp only [lstA, Option.bind_some, bls_all, Option.map_some]
  have : (l.map fun _ => true).all id = true := by simp
  rw [this]
theorem nm_len {x : Str} (hx : x ∈ nm6) (s : Sto) : lenA [.str x] s = some (.int 1, s) := by
  have h : ∀ x ∈ nm6, x.length = 1 := by decide +kernel
  show (if x.length ≤ 16777216 then some (AV.int (x.length : Nat), s) else none) = _
  rw [h x hx]
  rfl
theorem nm_ix {x : Str} (hx : x ∈ nm6) (s : Sto) : ixA (.str x) (.int 0) s = some (.str x, s) := by
  have h : ∀ x ∈ nm6, x.length = 1 ∧ L2.atI x.cps.toList 0 = some (x.cps.getD 0 0) ∧ (⟨#[x.cps.getD 0 0]⟩ : Str) = x := by decide +kernel
  obtain ⟨a, b, c⟩ := h x hx
  show (if x.length ≤ 16777216 then (L2.atI x.cps.toList 0).map fun c => (AV.str ⟨#[c]⟩, s) else none) = _
  rw [a, if_pos (by decide), b, Option.map_some, c]
theorem nm_in {x : Str} (hx : x ∈ nm6) (n : Bool) (s : Sto) : inA n (.str x) (.str "abcdefghijklmnopqrstuvwxyz") s = some (.bl (!n), s) := by
  have h : ∀ x ∈ nm6, x.cps.size = 1 ∧ decide (x.cps.getD 0 0 ∈ ("abcdefghijklmnopqrstuvwxyz" : Str).cps.toList) = true := by decide +kernel
  obtain ⟨a, b⟩ := h x hx
  simp only [inA, inB, if_pos a, b, Option.map_some]
  cases n <;> rfl
theorem nm_in2 {x : Str} (hx : x ∈ nm6) (s : Sto) : inA false (.str x) (.str (("abcdefghijklmnopqrstuvwxyz" : Str) ++ "0123456789")) s = some (.bl true, s) := by
  have h : ∀ x ∈ nm6, x.cps.size = 1 ∧ decide (x.cps.getD 0 0 ∈ (("abcdefghijklmnopqrstuvwxyz" : Str) ++ "0123456789").cps.toList) = true := by decide +kernel
  obtain ⟨a, b⟩ := h x hx
  simp only [inA, inB, if_pos a, b, Option.map_some]
  rfl
theorem x_addStr {x y : Str} {s : Sto} (h : x.length + y.length ≤ 16777216) : addA (.str x) (.str y) s = some (.str (x ++ y), s) := if_pos h
theorem nm_add (s : Sto) : addA (.str "abcdefghijklmnopqrstuvwxyz") (.str "0123456789") s = some (.str (("abcdefghijklmnopqrstuvwxyz" : Str) ++ "0123456789"), s) := by
  have h : ("abcdefghijklmnopqrstuvwxyz" : Str).length + ("0123456789" : Str).length ≤ 16777216 := by decide +kernel
  exact x_addStr h
theorem nm_res {x : Str} (hx : x ∈ nm6) : (["any", "as", "board", "chart", "ends", "from", "give", "hand", "in", "lot", "node", "of", "order", "take", "to", "with"] : List Str).contains x = false := by
  have h : ∀ x ∈ nm6, (["any", "as", "board", "chart", "ends", "from", "give", "hand", "in", "lot", "node", "of", "order", "take", "to", "with"] : List Str).contains x = false := by decide +kernel
  exact h x hx
theorem nm_signs {x : Str} (hx : x ∈ nm6) : signsA x = [x].map AV.str := by
  have h : ∀ x ∈ nm6, x.cps.toList = [x.cps.getD 0 0] ∧ (⟨#[x.cps.getD 0 0]⟩ : Str) = x := by decide +kernel
  obtain ⟨a, b⟩ := h x hx
  unfold signsA
  rw [a, List.map_cons, List.map_nil, b]
  rfl
def sSr (r : Res AV) : Res Src := r.bind fun a s => match a with
  | .str z => .ok ⟨signsA z, []⟩ s
  | _ => .no
@[simp] theorem x_iS {ma : EM} {e : AE} {s : Sto} : iS ma e s = sSr (ma e s) := rfl
@[simp] theorem sSr_ok {z : Str} {s : Sto} : sSr (.ok (.str z) s) = .ok ⟨signsA z, []⟩ s := rfl
def chB (g g' : G2) (mb mc : EM) (x : AV) (e : AE) (s : Sto) : Res AV := (mb e s).bind fun y s => match g x y s with
  | some (.bl true, s) => (mc e s).bind fun z s => ofO (g' y z s)
  | some (.bl false, s) => .ok (.bl false) s
  | _ => .no
def chC (g g' : G2) (mc : EM) (x y : AV) (e : AE) (s : Sto) : Res AV := match g x y s with
  | some (.bl true, s) => (mc e s).bind fun z s => ofO (g' y z s)
  | some (.bl false, s) => .ok (.bl false) s
  | _ => .no
@[simp] theorem x_ch {g g' : G2} {ma mb mc : EM} {e : AE} {s : Sto} : eCh g g' ma mb mc e s = bE (ma e s) e (chB g g' mb mc) := rfl
@[simp] theorem x_chB {g g' : G2} {mb mc : EM} {a : AV} {e : AE} {s : Sto} : chB g g' mb mc a e s = bE (mb e s) e (chC g g' mc a) := rfl
theorem x_chC {g g' : G2} {mc : EM} {a b : AV} {e : AE} {s s' : Sto} (h : g a b s = some (.bl true, s')) : chC g g' mc a b e s = bE (mc e s') e (opC g' b) := by unfold chC; rw [h]; rfl
def inGC (neg : Bool) (zs : List Str) (a : AV) (e : AE) (s : Sto) : Res AV := match a with
  | .str x => .ok (.bl (if neg then !zs.contains x else zs.contains x)) s
  | _ => .no
@[simp] theorem x_inG {neg : Bool} {zs : List Str} {ma : EM} {e : AE} {s : Sto} : eInG neg zs ma e s = bE (ma e s) e (inGC neg zs) := rfl
@[simp] theorem x_inGC {neg : Bool} {zs : List Str} {x : Str} {e : AE} {s : Sto} : inGC neg zs (.str x) e s = .ok (.bl (if neg then !zs.contains x else zs.contains x)) s := rfl
theorem is_name_eq {x : Str} (hx : x ∈ nm6) (s : Sto) : f_is_name [.str x] s = .ok (.bl true) s := by
  have l1 := fun s => nm_len hx s
  have c1 := fun e mc s => x_chC (g' := ordA leD) (mc := mc) (e := e) (show ordA leD (.int 1) (.int 1) s = some (.bl true, s) by rw [ordA_le]; rfl)
  have i1 := fun s => nm_ix hx s
  have i2 := fun s => nm_in hx true s
  have i3 := fun s => nm_in2 hx s
  have r1 := nm_res hx
  rw [e_is_name]
  unfold m_is_name
  simp at r1
  simp -implicitDefEqProofs [isA, l1, c1, i1, i2, r1]
  rw [lc_all (gd := []) (xs := signsA x) [x] AV.str (fun _ => AV.bl true) (nm_signs hx) (by simp) (by simp) (fun y hy => ⟨_, rfl, by
    have : y = x := by simpa using hy
    subst this
    simp -implicitDefEqProofs [wipeA, nm_add, i3]⟩)]
  have a1 : ∀ s, allA [.lst [.bl true]] s = some (.bl true, s) := fun s => all_true [()] s
  simp -implicitDefEqProofs [a1]
/-- all of a tuple's items are as one says -/
theorem tuple_of {α : Type} {hn : Str} {fm : Fn} {l : List α} {enc : α → AV} {s : Sto} (hl : l.length ≤ 1000) (h : ∀ x ∈ l, fm [enc x] s = .ok (.bl true) s) (a : AV) (ha : a = .tup (l.map enc) ∨ a = .tpS (l.map enc)) :
    fnM 2 3 (sRet (eAndB (eIsi .tup (eVar 0)) (eCall allA (aCons (eLc (iT (eVar 0)) (.nm 2) yesM (eCallA 1 [(hn, fm)] (aCons (eVar 2) aNil)) [2]) aNil)))) [a, .fn hn] s = .ok (.bl true) s := by
  rw [fn_at (n := 2) (as := [a, .fn hn]) rfl]
  have ca : ∀ x e2, x ∈ l → eCallA 1 [(hn, fm)] (aCons (eVar 2) aNil) (some a :: some (.fn hn) :: some (enc x) :: e2) s = .ok (.bl true) s := fun x e2 hx => by
    unfold eCallA
    simp -implicitDefEqProofs [List.lookup, h x hx]
  rcases ha with rfl | rfl <;>
  · simp -implicitDefEqProofs [startA, isA]
    rw [lc_all (gd := []) l enc (fun _ => AV.bl true) rfl (by simp) (by omega) (fun y hy => ⟨_, rfl, by simpa [wipeA] using ca y [] hy⟩)]
    simp -implicitDefEqProofs [all_true]
theorem is_sized_eq {xs : List AV} {k : Nat} (hk : xs.length = k) (s : Sto) (a : AV) (ha : a = .tup xs ∨ a = .tpS xs) : f_is_sized [a, .int (k : Nat)] s = .ok (.bl true) s := by
  rw [e_is_sized]
  unfold m_is_sized
  rcases ha with rfl | rfl <;> simp -implicitDefEqProofs [isA, hk]
theorem wd_in (b : Bool) (s : Sto) : inA true (.str (wdS b)) (.tup [.str "give", .str "take"]) s = some (.bl false, s) := by
  have p : Pls 0 [AV.str "give", .str "take"] [.str "give", .str "take"] := .cons (.str (by decide +kernel) 0) (.cons (.str (by decide +kernel) 0) (.nil 0))
  have sh := (Pl.tup p).s (s := s) |>.shaped
  have ok : PyData.strOk (wdS b) = true := by cases b <;> decide +kernel
  have sl := (Pl.str ok 0).s (s := s) |>.shaped
  have key : ([PyData.str "give", .str "take"].any fun z => PyData.eqv z (.str (wdS b))) = true := by cases b <;> decide +kernel
  have p1 : pds [AV.str "give", .str "take"] = some [PyData.str "give", .str "take"] := p.1
  simp only [inA, inB, dgetA, pdA, pd, p1, Option.map_some, Option.bind_some, seqD, sh, sl, and_self, if_true, key]
  rfl
theorem is_event_eq (e : Ev) (s : Sto) : f_is_event [evA e] s = .ok (.bl true) s := by
  have sz := is_sized_eq (k := 3) (xs := [.str (wdS e.g), .str (hnS e.o), .str (ltS e.l)]) rfl s (evA e) (.inl rfl)
  have n1 := is_name_eq (hn_nm e.o) s
  have n2 := is_name_eq (lt_nm e.l) s
  have e2 : ∀ s, ixA (evA e) (.int 2) s = some (.str (ltS e.l), s) := fun s => ev_2 e s
  rw [e_is_event]
  unfold m_is_event
  simp -implicitDefEqProofs at sz
  simp -implicitDefEqProofs [sz, ev_0, ev_1, e2, isA, wd_in, n1, n2]
theorem is_row_eq {r : Pm.Row} (h : r.length ≤ 24) (s : Sto) : f_is_row [rowA r] s = .ok (.bl true) s := by
  have t := tuple_of (hn := "is_event") (fm := f_is_event) (l := r) (enc := evA) (s := s) (by omega) (fun x _ => is_event_eq x s) (rowA r) (.inl rfl)
  have t' : f_is_tuple_of_of_is_event [rowA r, .fn "is_event"] s = .ok (.bl true) s := t
  rw [e_is_row]
  unfold m_is_row
  simp -implicitDefEqProofs [t']
theorem is_rows_eq {n : Nat} {rs : Rows} (w : Wf n rs) (s : Sto) : f_is_rows [rowsA rs] s = .ok (.bl true) s := by
  have t := tuple_of (hn := "is_row") (fm := f_is_row) (l := rs) (enc := rowA) (s := s) (by have := w.len; have := w.le; omega) (fun x hx => is_row_eq (w.sz x hx) s) (rowsA rs) (.inl rfl)
  have t' : f_is_tuple_of_of_is_row [rowsA rs, .fn "is_row"] s = .ok (.bl true) s := t
  rw [e_is_rows]
  unfold m_is_rows
  simp -implicitDefEqProofs [t']
end K76
end S
set_option Elab.async false
set_option linter.all false
set_option maxRecDepth 100000
set_option maxHeartbeats 4000000
/-! Mathematics, O: hands, manners, rows are as they should be. -/
namespace S
namespace K76
open PySem PySem.Spec PyProof.Rows L2 Pm
theorem hn_lt {h : Nat} (hh : h < 2) (s : Sto) : ordA ltD (hnA h) (hnA (h + 1)) s = some (.bl true, s) := by
  have c : ∀ h, h < 2 → PySem.W.alike (.str (hnS h)) (.str (hnS (h + 1))) = true ∧ ltD (.str (hnS h)) (.str (hnS (h + 1))) = true := by decide +kernel
  obtain ⟨c1, c2⟩ := c h hh
  show (if PySem.W.alike (.str (hnS h)) (.str (hnS (h + 1))) = true ∧ isND (.str (hnS h)) = false ∧ (PyData.str (hnS h)).depth ≤ 64 then some (AV.bl (ltD (.str (hnS h)) (.str (hnS (h + 1)))), s) else none) = _
  rw [if_pos ⟨c1, rfl, Nat.zero_le _⟩, c2]
def hT (n : Nat) : List AV := ((List.range n).map hnA).drop 1
theorem hands_pairs {n : Nat} (h2 : 2 ≤ n) (h3 : n ≤ 3) : pairsA ((List.range n).map hnA) (((List.range n).map hnA).drop 1) = (List.range (n - 1)).map fun h => .tup [hnA h, hnA (h + 1)] := by
  have : n = 2 ∨ n = 3 := by omega
  rcases this with rfl | rfl <;> rfl
theorem hands_zip {n : Nat} (h2 : 2 ≤ n) (h3 : n ≤ 3) (s : Sto) : zS1 true true (.ok [handsA n, .tpS (hT n)] s) = .ok ⟨(List.range (n - 1)).map fun h => .tup [hnA h, hnA (h + 1)], []⟩ s := by
  rw [zS1_ok (u := ⟨(List.range n).map hnA, []⟩) (v := ⟨hT n, []⟩) rfl rfl rfl rfl, show pairsA _ (hT n) = _ from hands_pairs h2 h3]
  rfl
theorem hands_sl {n : Nat} (s : Sto) : slA (handsA n) (some 1) none s = some (.tpS (hT n), s) := by
  show some (AV.tpS (cutL ((List.range n).map hnA) (some 1) none), s) = _
  rw [show cutL ((List.range n).map hnA) (some 1) none = hT n from cutL_drop _ 1]
theorem is_hands_eq {n : Nat} (h2 : 2 ≤ n) (h3 : n ≤ 3) (s : Sto) : f_is_hands [handsA n] s = .ok (.bl true) s := by
  have t := tuple_of (hn := "is_name") (fm := f_is_name) (l := List.range n) (enc := hnA) (s := s) (by simp; omega) (fun x _ => is_name_eq (hn_nm x) s) (handsA n) (.inr rfl)
  have t' : f_is_tuple_of_of_is_name [handsA n, .fn "is_name"] s = .ok (.bl true) s := t
  have c1 := fun e mc s => x_chC (g' := ordA leD) (mc := mc) (e := e) (show ordA leD (.int 2) (.int (n : Nat)) s = some (.bl true, s) by rw [ordA_le]; simp; omega)
  have c2 : decide ((n : Int) ≤ 5) = true := by simp; omega
  rw [e_is_hands]
  unfold m_is_hands
  simp -implicitDefEqProofs [t', hands_len, c1, c2, hands_sl, hands_zip h2 h3]
  rw [lc_all (gd := []) (List.range (n - 1)) (fun h => AV.tup [hnA h, hnA (h + 1)]) (fun _ => AV.bl true) rfl (by simp) (by simp; omega) (fun y hy => ⟨_, rfl, by
    have := hn_lt (h := y) (by have := List.mem_range.mp hy; omega) s
    simp -implicitDefEqProofs [wipeA, setL, this]⟩)]
  simp -implicitDefEqProofs [all_true]
theorem check_hands_eq {n : Nat} (h2 : 2 ≤ n) (h3 : n ≤ 3) (s : Sto) : f_check_hands [handsA n] s = .ok .non s := by
  have t := is_hands_eq h2 h3 s
  rw [e_check_hands]
  unfold m_check_hands
  simp -implicitDefEqProofs [t]
theorem check_manner_eq {n : Nat} (h2 : 2 ≤ n) (h3 : n ≤ 3) (m : Bool) (s : Sto) : f_check_manner [handsA n, mnA m] s = .ok .non s := by
  have t := check_hands_eq h2 h3 s
  have c : (["order", "any"] : List Str).contains (mnS m) = true := by cases m <;> decide +kernel
  have g : ∀ e s, inGC true ["order", "any"] (mnA m) e s = .ok (.bl false) s := fun e s => by
    show Res.ok (AV.bl (!(["order", "any"] : List Str).contains (mnS m))) s = _
    rw [c]; rfl
  have i : isA .str (mnA m) = some true := rfl
  rw [e_check_manner]
  unfold m_check_manner
  simp -implicitDefEqProofs [t, g, i]
theorem in_hands {n o : Nat} (hn : n ≤ 3) (ho : o < n) (s : Sto) : inA false (.str (hnS o)) (handsA n) s = some (.bl true, s) := by
  have p : Pls 0 ((List.range n).map hnA) ((List.range n).map fun h => PyData.str (hnS h)) := Pls.map _ fun h _ => Pl.str (hnS_ok h) 0
  have sh := (Pl.tpS p).s (s := s) |>.shaped
  have sl := (Pl.str (hnS_ok o) 0).s (s := s) |>.shaped
  have key : (((List.range n).map fun h => PyData.str (hnS h)).any fun z => PyData.eqv z (.str (hnS o))) = true :=
    List.any_eq_true.mpr ⟨_, List.mem_map.mpr ⟨o, List.mem_range.mpr ho, rfl⟩, (eqv_gd _ _ (by simpa [gd] using hnS_ok o) (by simpa [gd] using hnS_ok o)).mpr rfl⟩
  simp only [inA, inB, dgetA, pdA, handsA, pd, p.1, Option.map_some, Option.bind_some, seqD, sh, sl, and_self, if_true, key]
  rfl
theorem pass_go {mb : SM} {src : Src} {b0 b1 b4 b5 b6 : Option AV} {s : Sto} {α : Type} (f g : α → AV) (hs : src.ok s) : ∀ (l : List α) (x2 x3 : Option AV),
    (∀ x ∈ l, mb [b0, b1, some (f x), some (g x), b4, b5, b6] s = .nx [b0, b1, some (f x), some (g x), b4, b5, b6] s) → ∃ x2' x3', forGo src (.tp [2, 3]) mb (l.map fun x => .tup [f x, g x]) [b0, b1, x2, x3, b4, b5, b6] s = .nx [b0, b1, x2', x3', b4, b5, b6] s
  | [], x2, x3, _ => ⟨x2, x3, by simp [forGo, hs]⟩
  | x :: l, x2, x3, h => by
    obtain ⟨y2, y3, e⟩ := pass_go f g hs l (some (f x)) (some (g x)) fun y hy => h y (by simp [hy])
    refine ⟨y2, y3, ?_⟩
    rw [List.map_cons, forGo, if_pos hs]
    have sp : setP (.tp [2, 3]) (.tup [f x, g x]) [b0, b1, x2, x3, b4, b5, b6] = some [b0, b1, some (f x), some (g x), b4, b5, b6] := rfl
    rw [sp]
    dsimp only
    rw [h x (by simp)]
    exact e
theorem pass_fin {mb m2 : SM} {b0 b1 : Option AV} {s : Sto} {α : Type} {R : Res AV} (f g : α → AV) (l : List α) (h : ∀ x ∈ l, mb [b0, b1, some (f x), some (g x), none, none, none] s = .nx [b0, b1, some (f x), some (g x), none, none, none] s)
    (k : ∀ x2 x3, fin (m2 [b0, b1, x2, x3, none, none, none] s) = R) : fin (bQ (forC (.tp [2, 3]) mb ⟨l.map fun x => .tup [f x, g x], []⟩ [b0, b1, none, none, none, none, none] s) m2) = R := by
  obtain ⟨x2, x3, e⟩ := pass_go (mb := mb) (src := ⟨l.map fun x => .tup [f x, g x], []⟩) (b0 := b0) (b1 := b1) (b4 := none) (b5 := none) (b6 := none) (s := s) f g (by intro q hq; cases hq) l none none h
  have e' : forC (.tp [2, 3]) mb ⟨l.map fun x => .tup [f x, g x], []⟩ [b0, b1, none, none, none, none, none] s = _ := e
  rw [e', bQ_nx]
  exact k x2 x3
theorem any_false {α : Type} (l : List α) (s : Sto) : anyA [.lst (l.map fun _ => AV.bl false)] s = some (.bl false, s) := by
  have b : ∀ l : List α, blsA (l.map fun _ => AV.bl false) = some (l.map fun _ => false) := fun l => by
    induction l with
    | nil => rfl
    | cons x l ih => rw [List.map_cons, blsA, ih]; rfl
  show ((lstA (.lst _) s).bind blsA).map _ = _
  simp only [lstA, Option.bind_some, b, Option.map_some]
  have : (l.map fun _ => false).any id = false := by simp
  rw [this]
theorem rows_zip {n : Nat} {rs : Rows} (w : Wf n rs) (s : Sto) : zS1 true true (.ok [handsA n, rowsA rs] s) = .ok ⟨(List.range n).map fun h => .tup [hnA h, rowA (rs.getD h [])], []⟩ s := by
  rw [zS1_ok (u := ⟨(List.range n).map hnA, []⟩) (v := ⟨rs.map rowA, []⟩) rfl rfl rfl rfl, pairsA_map]
  have : ((List.range n).zip rs).map (fun q => AV.tup [hnA q.1, rowA q.2]) = (List.range n).map fun h => .tup [hnA h, rowA (rs.getD h [])] := by
    apply List.ext_getElem
    · simp [w.len]
    · intro i h1 h2
      simp at h1 h2
      have hl : i < rs.length := by rw [w.len]; exact h2
      simp [List.getD, hl]
  rw [this]
  rfl
theorem checked_rows_eq {n : Nat} {rs : Rows} (w : Own n rs) (h2 : 2 ≤ n) (ht : total rs ≤ 60) (s : Sto) : f_checked_rows [handsA n, rowsA rs] s = .ok (rowsA rs) s := by
  have h3 := w.le
  have wl := w.len
  have t1 := check_hands_eq h2 h3 s
  have t2 := is_rows_eq w.toWf s
  rw [e_checked_rows]
  unfold m_checked_rows
  simp -implicitDefEqProofs [t1, t2, rows_len, hands_len, wl, rows_zip w.toWf]
  refine pass_fin hnA (fun h => rowA (rs.getD h [])) (List.range n) (fun h hh => ?_) fun x2 x3 => ?_
  · have hn := List.mem_range.mp hh
    have ow := w.own h hn
    have sz := w.sz _ (w.toWf.row hn).2
    have ev := w.ev _ (w.toWf.row hn).2
    generalize rs.getD h [] = R at ow sz ev
    simp -implicitDefEqProofs [row_src]
    rw [lc_all (gd := []) R evA (fun _ => AV.bl true) rfl (by simp) (by omega) (fun y hy => ⟨_, rfl, by
      have o1 := ev y hy
      have o2 := ow y hy
      have i1 := fun s => in_hands h3 o1 s
      have i2 := fun s => hn_eq (show y.o < 3 by omega) (show h < 3 by omega) true s
      simp -implicitDefEqProofs [wipeA, setL, i1, hnA, i2, o2]⟩)]
    simp -implicitDefEqProofs [all_true]
  · simp -implicitDefEqProofs [rows_src]
    rw [lc_all (gd := []) rs rowA (fun _ => AV.bl false) rfl (by simp) (by omega) (fun y hy => ⟨_, rfl, by
      have := w.sz y hy
      have c : ¬ (24 : Int) < (y.length : Nat) := by omega
      simp -implicitDefEqProofs [wipeA, row_len, c]⟩)]
    simp -implicitDefEqProofs [any_false, rows_src]
    rw [lc_all (gd := []) rs rowA (fun r => .int (r.length : Nat)) rfl (by simp) (by omega) (fun x hx => ⟨_, rfl, by simp -implicitDefEqProofs [row_len, wipeA]⟩)]
    have c : ¬ (60 : Int) < (total rs : Nat) := by omega
    simp -implicitDefEqProofs [lens_sum w.toWf, c]
end K76
end S
set_option Elab.async false
set_option linter.all false
set_option maxRecDepth 100000
set_option maxHeartbeats 4000000
/-! Mathematics, S: charts, judged by the program. -/
namespace S
open PySem PySem.Spec PyProof.Rows L2
section
variable {e e' : AE} {s s' : Sto} {ms : AM} {v : AV} {cn f : Str} {mb m2 : SM}
def rsC (cn f : Str) (as : List AV) (e : AE) (s : Sto) : SR := match as with
  | [v] => .exc cn [(f, v)] e s
  | _ => .no
@[simp] theorem x_raiseF : sRaiseF cn f ms e s = bA (ms e s) e (rsC cn f) := rfl
@[simp] theorem x_rsC : rsC cn f [v] e s = .exc cn [(f, v)] e s := rfl
def tryC (sub : Str → Option Bool) (r : SR) (suite : SM) : SR := match r with
  | .exc c fs e' s' => (match sub c with
    | some true => (match suite e' s' with
      | .exc _ _ _ _ => .no
      | r => r)
    | some false => .exc c fs e' s'
    | none => .no)
  | r => r
@[simp] theorem x_try {sub : Str → Option Bool} : sTry sub mb m2 e s = tryC sub (mb e s) m2 := rfl
@[simp] theorem tryC_nx {sub : Str → Option Bool} : tryC sub (.nx e s) m2 = .nx e s := rfl
theorem tryC_exc {sub : Str → Option Bool} {c fs} (h : sub c = some true) (k : m2 e s = .rt v s') : tryC sub (.exc c fs e s) m2 = .rt v s' := by
  unfold tryC
  simp only [h, k]
end
namespace K76
open PySem PySem.Spec PyProof.Rows L2 Pm
section
variable {n : Nat} {m : Bool} {rs : Rows} {s : Sto}
theorem over_due {D : Dq} (w : Own n rs) (d : DQ m n rs (gree m rs (total rs)).2 D) : ((∀ x ∈ D, x.2 = []) ∧ (gree m rs (total rs)).2 = full rs) ↔ due m rs := by
  unfold due Emp
  constructor
  · rintro ⟨a, b⟩
    rw [b] at d
    exact ⟨b, by rw [w.len]; exact (d.empty w).mp a⟩
  · rintro ⟨a, b⟩
    refine ⟨?_, a⟩
    rw [a] at d
    rw [w.len] at b
    exact (d.empty w).mpr b
/-- the program's judgement: b whether it is a chart -/
theorem checked_chart_eq (w : Own n rs) (h2 : 2 ≤ n) (ht : total rs ≤ 60) : ∃ t, (due m rs → f_checked_chart [handsA n, mnA m, rowsA rs] s = .ok (rowsA rs) (s ++ t)) ∧
    (¬ due m rs → f_checked_chart [handsA n, mnA m, rowsA rs] s = .exc "BadChart" [("fault", .str "order")] (s ++ t)) := by
  have c1 := check_manner_eq h2 w.le m s
  have c2 := checked_rows_eq w h2 ht s
  obtain ⟨D, d, pe⟩ := played_eq (m := m) (s := s) w
  have v := gree_vd (m := m) w (total rs)
  have P := st4_at (s := s) (n := n) (m := m) (rs := rs) (st := (gree m rs (total rs)).2) (D := D) (o := (gree m rs (total rs)).1)
  have io := is_over_eq P w v d
  have mt := fun e ms => x_methC (e := e) (ms := ms) (fm := f_Playing_is_over) (m := "is_over") P.o (pl_m _ (by decide) (by decide) (by decide) (by decide) (by decide))
  have ix : ∀ s1, ixA (.tup [.tup ((gree m rs (total rs)).1.map natA), .ref s.length]) (.int 1) s1 = some (.ref s.length, s1) := fun s1 => ixA_tup (atI_some (k := 1) rfl)
  have st : ∃ t, St4 s n m rs (gree m rs (total rs)).2 D (gree m rs (total rs)).1 = s ++ t := ⟨_, rfl⟩
  obtain ⟨t, st⟩ := st
  generalize St4 s n m rs (gree m rs (total rs)).2 D (gree m rs (total rs)).1 = s4 at st pe io mt
  subst st
  refine ⟨t, fun hd => ?_, fun hd => ?_⟩
  · rw [decide_eq_true ((over_due w d).mpr hd)] at io
    rw [e_checked_chart]
    unfold m_checked_chart
    simp -implicitDefEqProofs [c1, c2, pe, ix, mt, io]
  · rw [decide_eq_false fun z => hd ((over_due w d).mp z)] at io
    rw [e_checked_chart]
    unfold m_checked_chart
    simp -implicitDefEqProofs [c1, c2, pe, ix, mt, io]
theorem p_is_chart_eq (w : Own n rs) (h2 : 2 ≤ n) (ht : total rs ≤ 60) : ∃ t b, f_is_chart [handsA n, mnA m, rowsA rs] s = .ok (.bl b) (s ++ t) ∧ (b = true ↔ due m rs) := by
  obtain ⟨t, h1, h2⟩ := checked_chart_eq (m := m) (s := s) w h2 ht
  rw [e_is_chart]
  unfold m_is_chart
  by_cases hd : due m rs
  · refine ⟨t, true, ?_, by simp [hd]⟩
    simp -implicitDefEqProofs [h1 hd]
  · refine ⟨t, false, ?_, by simp [hd]⟩
    have ex : ∀ e, tryC sub76 (.exc "BadChart" [("fault", AV.str "order")] e (s ++ t)) (sRet (eC (.bl false))) = .rt (.bl false) (s ++ t) := fun e => tryC_exc rfl rfl
    simp -implicitDefEqProofs [h2 hd, ex]
theorem stopped_at_eq (w : Own n rs) (h2 : 2 ≤ n) (ht : total rs ≤ 60) : ∃ t, (due m rs → f_stopped_at [handsA n, mnA m, rowsA rs] s = .ok .non (s ++ t)) ∧
    (¬ due m rs → f_stopped_at [handsA n, mnA m, rowsA rs] s = .ok (.tup ((gree m rs (total rs)).2.map natA)) (s ++ t)) := by
  have c1 := check_manner_eq h2 w.le m s
  have c2 := checked_rows_eq w h2 ht s
  obtain ⟨D, d, pe⟩ := played_eq (m := m) (s := s) w
  have v := gree_vd (m := m) w (total rs)
  have P := st4_at (s := s) (n := n) (m := m) (rs := rs) (st := (gree m rs (total rs)).2) (D := D) (o := (gree m rs (total rs)).1)
  have io := is_over_eq P w v d
  have mt := fun e ms => x_methC (e := e) (ms := ms) (fm := f_Playing_is_over) (m := "is_over") P.o (pl_m _ (by decide) (by decide) (by decide) (by decide) (by decide))
  have q2 := fun e => x_fldC (e := e) P.o f_stand
  have tr := x_tupR (st := false) P.sa
  have ix : ∀ s1, ixA (.tup [.tup ((gree m rs (total rs)).1.map natA), .ref s.length]) (.int 1) s1 = some (.ref s.length, s1) := fun s1 => ixA_tup (atI_some (k := 1) rfl)
  have st : ∃ t, St4 s n m rs (gree m rs (total rs)).2 D (gree m rs (total rs)).1 = s ++ t := ⟨_, rfl⟩
  obtain ⟨t, st⟩ := st
  generalize St4 s n m rs (gree m rs (total rs)).2 D (gree m rs (total rs)).1 = s4 at st pe io mt q2 tr
  subst st
  refine ⟨t, fun hd => ?_, fun hd => ?_⟩
  · rw [decide_eq_true ((over_due w d).mpr hd)] at io
    rw [e_stopped_at]
    unfold m_stopped_at
    simp -implicitDefEqProofs [c1, c2, pe, ix, mt, io]
  · rw [decide_eq_false fun z => hd ((over_due w d).mp z)] at io
    rw [e_stopped_at]
    unfold m_stopped_at
    simp -implicitDefEqProofs [c1, c2, pe, ix, mt, io, q2, tr]
theorem is_of_both_eq (w : Own n rs) (h2 : 2 ≤ n) (ht : total rs ≤ 60) : ∃ t b, f_is_of_both [handsA n, rowsA rs] s = .ok (.bl b) (s ++ t) ∧ (b = true ↔ due true rs ∧ due false rs) := by
  obtain ⟨t1, b1, e1, k1⟩ := p_is_chart_eq (m := true) (s := s) w h2 ht
  obtain ⟨t2, b2, e2, k2⟩ := p_is_chart_eq (m := false) (s := s ++ t1) w h2 ht
  have o : mnA true = .str "order" := rfl
  have a : mnA false = .str "any" := rfl
  rw [o] at e1
  rw [a] at e2
  rw [e_is_of_both]
  unfold m_is_of_both
  cases b1 with
  | true =>
    refine ⟨t1 ++ t2, b2, ?_, by rw [k2]; simp [k1.mp rfl]⟩
    rw [← List.append_assoc]
    generalize s ++ t1 = s1 at e1 e2 ⊢
    simp -implicitDefEqProofs [e1, e2]
  | false =>
    refine ⟨t1, false, ?_, ?_⟩
    · generalize s ++ t1 = s1 at e1 ⊢
      simp -implicitDefEqProofs [e1]
    · simp only [Bool.false_eq_true, false_iff, not_and]
      intro h
      exact absurd (k1.mpr h) (by decide)
end
end K76
end S
set_option Elab.async false
set_option linter.all false
set_option maxRecDepth 100000
set_option maxHeartbeats 4000000
/-! Mathematics, T: alike; kept. -/
namespace S
namespace K76
open PySem PySem.Spec PyProof.Rows L2 Pm
def goodD (d : PyData) : Bool := d.showable && (!d.hasDict && (decide (d.depth ≤ 64) && (decide (d.shown.length ≤ 16777216) && PyData.strOk d.shown)))
theorem repr_d {a : AV} {s : Sto} {d : PyData} (h : pdA a s = some d) (c : goodD d = true) : reprA [a] s = some (.str d.shown, s) := by
  unfold goodD at c
  simp only [Bool.and_eq_true, Bool.not_eq_true', decide_eq_true_eq] at c
  obtain ⟨c1, c2, c3, c4, c5⟩ := c
  simp only [reprA, h]
  rw [if_pos ⟨c1, c2, c3, c4⟩]
theorem alike_d {a b : AV} {s : Sto} {d : PyData} (h1 : pdA a s = some d) (h2 : pdA b s = some d) (c : goodD d = true) (e : eqA false a b s = some (.bl true, s)) : f__law_alike [a, b] s = .ok (.bl true) s := by
  have r1 := repr_d h1 c
  have r2 := repr_d h2 c
  have ok : PyData.strOk d.shown = true := by
    unfold goodD at c
    simp only [Bool.and_eq_true] at c
    exact c.2.2.2.2
  have es : eqA false (.str d.shown) (.str d.shown) s = some (.bl true, s) := by rw [eqA_str false ok ok]; simp
  rw [e__law_alike]
  unfold m__law_alike
  simp -implicitDefEqProofs [r1, r2, es, e]
theorem alike_bl (b : Bool) (s : Sto) : f__law_alike [.bl b, .bl b] s = .ok (.bl true) s := by
  refine alike_d (d := .bool b) rfl rfl (by cases b <;> decide +kernel) ?_
  rw [eqA_bl]; simp
theorem alike_non (s : Sto) : f__law_alike [.non, .non] s = .ok (.bl true) s :=
  alike_d (d := .none) rfl rfl (by decide +kernel) (by rw [eqA_pl (p := True) false ((Pl.non 0).s (s := s)) ((Pl.non 0).s (s := s)) (by simp)]; rfl)
def upto (k : Nat) : List Nat := List.range k
theorem good2 : ∀ a ∈ upto 9, ∀ b ∈ upto 9, goodD (.tuple [.int (a : Nat), .int (b : Nat)]) = true := by decide +kernel
theorem good3 : ∀ a ∈ upto 9, ∀ b ∈ upto 9, ∀ c ∈ upto 9, goodD (.tuple [.int (a : Nat), .int (b : Nat), .int (c : Nat)]) = true := by decide +kernel
theorem alike_nats {st : List Nat} (h2 : 2 ≤ st.length) (h3 : st.length ≤ 3) (h : ∀ k ∈ st, k < 9) (s : Sto) : f__law_alike [.tup (st.map natA), .tup (st.map natA)] s = .ok (.bl true) s := by
  have p := Pl.tup (pl_nats st)
  refine alike_d (d := .tuple (st.map fun k => PyData.int (k : Nat))) (p.s (s := s)).1 (p.s (s := s)).1 ?_ (by rw [eq_natsT]; simp)
  match st, h2, h3, h with
  | [a, b], _, _, h => exact good2 a (List.mem_range.mpr (h a (by simp))) b (List.mem_range.mpr (h b (by simp)))
  | [a, b, c], _, _, h => exact good3 a (List.mem_range.mpr (h a (by simp))) b (List.mem_range.mpr (h b (by simp))) c (List.mem_range.mpr (h c (by simp)))
end K76
end S
set_option Elab.async false
set_option linter.all false
set_option maxRecDepth 100000
set_option maxHeartbeats 4000000
/-! Mathematics, U: kept. -/
namespace S
open PySem PySem.Spec PyProof.Rows L2
section
variable {s : Sto} {p : Pat} {mb : SM} {e : AE}
theorem all_go {α : Type} {src : Src} (enc : α → AV) (I : AE → Prop) (Q : α → Bool) (hok : src.ok s) : ∀ (l : List α) (e : AE), I e →
    (∀ x ∈ l, ∀ e, I e → ∃ e1, setP p (enc x) e = some e1 ∧ ((Q x = true ∧ ∃ e2, mb e1 s = .nx e2 s ∧ I e2) ∨ (Q x = false ∧ mb e1 s = .rt (.bl false) s))) →
    (l.all Q = true ∧ ∃ e', forGo src p mb (l.map enc) e s = .nx e' s ∧ I e') ∨ (l.all Q = false ∧ forGo src p mb (l.map enc) e s = .rt (.bl false) s)
  | [], e, hI, _ => .inl ⟨rfl, e, by simp [forGo, hok], hI⟩
  | x :: l, e, hI, h => by
    obtain ⟨e1, h1, h2⟩ := h x (by simp) e hI
    rw [List.map_cons, forGo, if_pos hok, h1, List.all_cons]
    dsimp only
    rcases h2 with ⟨q, e2, h2, h3⟩ | ⟨q, h2⟩
    · rw [h2, q, Bool.true_and]
      exact all_go enc I Q hok l e2 h3 fun y hy => h y (by simp [hy])
    · rw [h2, q, Bool.false_and]
      exact .inr ⟨rfl, rfl⟩
theorem all_for {α : Type} {xs : List AV} (enc : α → AV) (I : AE → Prop) (Q : α → Bool) (l : List α) (hx : xs = l.map enc) (hI : I e)
    (h : ∀ x ∈ l, ∀ e, I e → ∃ e1, setP p (enc x) e = some e1 ∧ ((Q x = true ∧ ∃ e2, mb e1 s = .nx e2 s ∧ I e2) ∨ (Q x = false ∧ mb e1 s = .rt (.bl false) s))) :
    (l.all Q = true ∧ ∃ e', forC p mb ⟨xs, []⟩ e s = .nx e' s ∧ I e') ∨ (l.all Q = false ∧ forC p mb ⟨xs, []⟩ e s = .rt (.bl false) s) := by
  subst hx
  exact all_go (src := ⟨l.map enc, []⟩) enc I Q (by intro q hq; cases hq) l e hI h
theorem all_fin {α : Type} {xs : List AV} (enc : α → AV) (I : AE → Prop) (Q : α → Bool) (l : List α) (hx : xs = l.map enc) (hI : I e)
    (h : ∀ x ∈ l, ∀ e, I e → ∃ e1, setP p (enc x) e = some e1 ∧ ((Q x = true ∧ ∃ e2, mb e1 s = .nx e2 s ∧ I e2) ∨ (Q x = false ∧ mb e1 s = .rt (.bl false) s))) :
    fin (bQ (forC p mb ⟨xs, []⟩ e s) (sRet (eC (.bl true)))) = .ok (.bl (l.all Q)) s := by
  rcases all_for (mb := mb) enc I Q l hx hI h with ⟨q, e', h1, _⟩ | ⟨q, h1⟩
  · rw [h1, q]; rfl
  · rw [h1, q]; rfl
end
namespace K76
open PySem PySem.Spec PyProof.Rows L2 Pm
def keptB (rs : Rows) (n h g : Nat) : Bool := decide (givs (rs.getD h []) g = taks (rs.getD g []) h)
def keptR (rs : Rows) (n h : Nat) : Bool := (List.range n).all (keptB rs n h)
theorem pair_eq {b : Bool} {o g : Nat} {wd : Str} (h1 : o < 3) (h2 : g < 3) (c : Bool) (hw : wd = wdS c) (s : Sto) : eqA false (.tup [.str (wdS b), .str (hnS o)]) (.tup [.str wd, hnA g]) s = some (.bl (decide (b = c) && decide (o = g)), s) := by
  subst hw
  have ok : ∀ b, PyData.strOk (wdS b) = true := fun b => by cases b <;> decide +kernel
  have p1 : Pls 0 [AV.str (wdS b), .str (hnS o)] [.str (wdS b), .str (hnS o)] := .cons (.str (ok b) 0) (.cons (.str (hnS_ok o) 0) (.nil 0))
  have p2 : Pls 0 [AV.str (wdS c), hnA g] [.str (wdS c), .str (hnS g)] := .cons (.str (ok c) 0) (.cons (.str (hnS_ok g) 0) (.nil 0))
  have wi : wdS b = wdS c ↔ b = c := by
    have : ∀ b c, wdS b = wdS c ↔ b = c := by decide +kernel
    exact this b c
  have hi : hnS o = hnS g ↔ o = g := ⟨hnS_inj h1 h2, fun e => by rw [e]⟩
  rw [eqA_pl (p := b = c ∧ o = g) false ((Pl.tup p1).s (s := s)) ((Pl.tup p2).s (s := s)) (by simp only [PyData.tuple.injEq, List.cons.injEq, PyData.str.injEq, wi, hi, and_true])]
  cases b <;> cases c <;> simp
theorem kept_eq {n : Nat} {rs : Rows} {s : Sto} (w : Own n rs) : f__law_kept [handsA n, rowsA rs] s = .ok (.bl ((List.range n).all (keptR rs n))) s := by
  have le := w.le
  rw [e__law_kept]
  unfold m__law_kept
  simp -implicitDefEqProofs [hands_len, rSrc_n (show n < 1000000 by omega)]
  refine (all_fin (xs := (List.range n).map fun i => AV.int (i : Nat)) natA (fun e => ∃ b2 b3 b4 b5, e = [some (handsA n), some (rowsA rs), b2, b3, b4, b5, none, none, none]) (keptR rs n) (List.range n) rfl ⟨_, _, _, _, rfl⟩ fun h hh e ⟨b2, b3, b4, b5, he⟩ => ?_).trans (by rfl)
  subst he
  have hn := List.mem_range.mp hh
  refine ⟨_, rfl, ?_⟩
  simp -implicitDefEqProofs only [List.set_cons_succ, List.set_cons_zero, x_for, x_iRg, x_call, x_acons, x_varE, List.getElem?_cons_zero, List.getElem?_cons_succ, atV_ok, aE_ok, x_anil, aR_ok, bEA_ok, x_callC, hands_len, ofO_some, rSrc_n (show n < 1000000 by omega), bSrS_ok]
  have I2 : ∀ e : AE, (∃ b3 b4 b5, e = [some (handsA n), some (rowsA rs), some (natA h), b3, b4, b5, none, none, none]) → ∃ b2 b3 b4 b5, e = [some (handsA n), some (rowsA rs), b2, b3, b4, b5, none, none, none] := fun e ⟨b3, b4, b5, he⟩ => ⟨_, b3, b4, b5, he⟩
  refine Or.imp (fun ⟨a, e2, b, c⟩ => ⟨a, e2, b, I2 e2 c⟩) id (all_for natA (fun e => ∃ b3 b4 b5, e = [some (handsA n), some (rowsA rs), some (natA h), b3, b4, b5, none, none, none]) (keptB rs n h) (List.range n) rfl ⟨_, _, _, rfl⟩ fun g hg e ⟨b3, b4, b5, he⟩ => ?_)
  subst he
  have gn := List.mem_range.mp hg
  refine ⟨_, rfl, ?_⟩
  have r1 := w.sz _ (w.toWf.row hn).2
  have r2 := w.sz _ (w.toWf.row gn).2
  have o1 := w.ev _ (w.toWf.row hn).2
  have o2 := w.ev _ (w.toWf.row gn).2
  have i1 := fun s => rows_at w.toWf hn s
  have i2 := fun s => rows_at w.toWf gn s
  have kd : keptB rs n h g = decide (givs (rs.getD h []) g = taks (rs.getD g []) h) := rfl
  rw [kd]
  generalize rs.getD h [] = R1 at r1 o1 i1
  generalize rs.getD g [] = R2 at r2 o2 i2
  have fg : (List.filter (fun e => decide (e.g = true) && decide (e.o = g)) R1).map (fun e => ltA e.l) = (givs R1 g).map ltA := by unfold givs; rw [List.map_map]; simp
  have ft : (List.filter (fun e => decide (e.g = false) && decide (e.o = h)) R2).map (fun e => ltA e.l) = (taks R2 h).map ltA := by unfold taks; rw [List.map_map]; simp
  have L1 : ∀ e : AE, e.length = 9 → e[0]? = some (some (handsA n)) → e[3]? = some (some (natA g)) → lcC (.tp [6, 7, 8]) (asB (eOp (eqA false) (eTup (aCons (eVar 6) (aCons (eVar 7) aNil))) (eTup (aCons (eC (.str "give")) (aCons (eOp ixA (eVar 0) (eVar 3)) aNil))))) (eVar 8) [6, 7, 8] ⟨R1.map evA, []⟩ e s = .ok (.lst ((givs R1 g).map ltA)) s := fun e el e0 e3 => by
    match e, el with
    | [a0, a1, a2, a3, a4, a5, a6, a7, a8], _ =>
      simp at e0 e3
      subst e0 e3
      rw [lc_map (gd := []) R1 evA (fun e => decide (e.g = true) && decide (e.o = g)) (fun e => ltA e.l) rfl (by simp) (by omega) (fun x hx => ⟨_, rfl, by
        have o := o1 x hx
        have pe := fun s => pair_eq (b := x.g) (o := x.o) (g := g) (wd := "give") (by omega) (by omega) true rfl s
        have hg := fun s => hands_at gn s
        simp -implicitDefEqProofs [-Bool.decide_eq_true, natA, wipeA, setL, hg, pe], fun _ => by simp -implicitDefEqProofs [wipeA, setL, ltA]⟩), fg]
  have L2' : ∀ e : AE, e.length = 9 → e[0]? = some (some (handsA n)) → e[2]? = some (some (natA h)) → lcC (.tp [6, 7, 8]) (asB (eOp (eqA false) (eTup (aCons (eVar 6) (aCons (eVar 7) aNil))) (eTup (aCons (eC (.str "take")) (aCons (eOp ixA (eVar 0) (eVar 2)) aNil))))) (eVar 8) [6, 7, 8] ⟨R2.map evA, []⟩ e s = .ok (.lst ((taks R2 h).map ltA)) s := fun e el e0 e3 => by
    match e, el with
    | [a0, a1, a2, a3, a4, a5, a6, a7, a8], _ =>
      simp at e0 e3
      subst e0 e3
      rw [lc_map (gd := []) R2 evA (fun e => decide (e.g = false) && decide (e.o = h)) (fun e => ltA e.l) rfl (by simp) (by omega) (fun x hx => ⟨_, rfl, by
        have o := o2 x hx
        have pe := fun s => pair_eq (b := x.g) (o := x.o) (g := h) (wd := "take") (by omega) (by omega) false rfl s
        have hg := fun s => hands_at hn s
        simp -implicitDefEqProofs [-Bool.decide_eq_true, natA, wipeA, setL, hg, pe], fun _ => by simp -implicitDefEqProofs [wipeA, setL, ltA]⟩), ft]
  by_cases c : givs R1 g = taks R2 h
  · refine .inl ⟨decide_eq_true c, ?_⟩
    have q := eq_lts (givs R1 g) (taks R2 h) true s
    rw [if_pos rfl, decide_eq_true c] at q
    refine ⟨[some (handsA n), some (rowsA rs), some (natA h), some (natA g), some (.lst ((givs R1 g).map ltA)), some (.lst ((taks R2 h).map ltA)), none, none, none], ?_, ⟨_, _, _, rfl⟩⟩
    simp -implicitDefEqProofs [natA, i1, row_src]
    rw [L1 _ rfl rfl rfl]
    simp -implicitDefEqProofs [natA, i2, row_src]
    rw [L2' _ rfl rfl rfl]
    simp -implicitDefEqProofs [q]
  · refine .inr ⟨decide_eq_false c, ?_⟩
    have q := eq_lts (givs R1 g) (taks R2 h) true s
    rw [if_pos rfl, decide_eq_false c] at q
    simp -implicitDefEqProofs [natA, i1, row_src]
    rw [L1 _ rfl rfl rfl]
    simp -implicitDefEqProofs [natA, i2, row_src]
    rw [L2' _ rfl rfl rfl]
    simp -implicitDefEqProofs [q]
theorem kept_iff {n : Nat} {rs : Rows} (w : Own n rs) : (List.range n).all (keptR rs n) = true ↔ kept rs := by
  unfold keptR kept keptB
  simp only [List.all_eq_true, List.mem_range, decide_eq_true_eq]
  constructor
  · intro k h g hh hg _
    exact k h (by rw [← w.len]; exact hh) g (by rw [← w.len]; exact hg)
  · intro k h hh g hg
    by_cases e : h = g
    · subst e
      have ow := w.own h hh
      have a : givs (rs.getD h []) h = [] := by
        unfold givs
        rw [List.map_eq_nil_iff, List.filter_eq_nil_iff]
        intro x hx
        simp [ow x hx]
      have b : taks (rs.getD h []) h = [] := by
        unfold taks
        rw [List.map_eq_nil_iff, List.filter_eq_nil_iff]
        intro x hx
        simp [ow x hx]
      rw [a, b]
    · exact k h g (by rw [w.len]; exact hh) (by rw [w.len]; exact hg) e
end K76
end S
set_option Elab.async false
set_option linter.all false
set_option maxRecDepth 100000
set_option maxHeartbeats 4000000
/-! Mathematics, V: the bag's drawings: some, a message, mixed. -/
namespace S
namespace K76
open PySem PySem.Spec PyProof.Rows L2 Pm
/-- the bag lies at b -/
def BagAt (s : Sto) (b : Nat) : Prop := ∃ l, s[b]? = some (.lst l) ∧ BagOk l
theorem bag_eq {ns : List Int} (h : ns.length ≤ 63) : ∃ l, f__law_bag [.scr (ns.map AV.int)] [] = .ok (.ref 0) [.lst l] ∧ BagOk l := by
  have c : cutL (ns.map AV.int) none (some 63) = ns.map AV.int := by
    rw [show cutL (ns.map AV.int) none (some 63) = (ns.map AV.int).take 63 from cutL_take _ 63, List.take_of_length_le (by simpa using h)]
  refine ⟨bagL 0 1234567891 0 (ns.map fun i => if i < 0 then -i else i), ?_, ⟨⟨0, 1234567891, 0, _, rfl, by decide, by decide, by decide, by decide, fun x hx => ?_, by simpa using h⟩⟩⟩
  · rw [e__law_bag]
    unfold m__law_bag
    simp -implicitDefEqProofs [c]
    rw [lc_all (gd := []) (xs := ns.map AV.int) ns AV.int (fun i => AV.int (if i < 0 then -i else i)) rfl (by simp) (by omega) (fun i _ => ⟨_, rfl, by simp -implicitDefEqProofs [wipeA, absA]⟩)]
    simp -implicitDefEqProofs [bagL]
  · obtain ⟨i, _, rfl⟩ := List.mem_map.mp hx
    split <;> omega
theorem bag_set {s : Sto} {b : Nat} {l l' : List AV} (h : s[b]? = some (.lst l)) (k : BagOk l') : BagAt (s.set b (.lst l')) b := ⟨l', List.getElem?_set_self (List.getElem?_eq_some_iff.mp h).1, k⟩
theorem some_eq {α : Type} {l : List α} {enc : α → AV} {s : Sto} {b : Nat} (B : BagAt s b) (hl : 0 < l.length) (hl2 : l.length < 1000) (a : AV) (ha : a = .lst (l.map enc) ∨ a = .tpS (l.map enc)) :
    ∃ x ∈ l, ∃ l', f__law_some [.ref b, a] s = .ok (enc x) (s.set b (.lst l')) ∧ BagOk l' := by
  obtain ⟨bl, hb, bo⟩ := B
  obtain ⟨r, l', e, r0, r1, bo'⟩ := take_eq hb bo (many := (l.length : Nat)) (by omega) (by omega)
  have hr : r.toNat < l.length := by omega
  refine ⟨l[r.toNat], by simp, l', ?_, bo'⟩
  have ix : L2.atI (l.map enc) r = some (enc l[r.toNat]) := atI_int r0 (by rw [List.getElem?_map, List.getElem?_eq_getElem hr]; rfl)
  rw [e__law_some]
  unfold m__law_some
  rcases ha with rfl | rfl
  · have i2 := fun s => ixA_lst (s := s) ix
    simp -implicitDefEqProofs [e, i2]
  · have i2 := fun s => ixA_tpS (s := s) ix
    simp -implicitDefEqProofs [e, i2]
theorem message_eq {n : Nat} {s : Sto} {b : Nat} (h2 : 2 ≤ n) (h3 : n ≤ 3) (B : BagAt s b) : ∃ o1 o2 k l', o1 < n ∧ o2 < n ∧ o1 ≠ o2 ∧ f__law_message [.ref b, handsA n] s = .ok (.tup [hnA o1, hnA o2, ltA k]) (s.set b (.lst l')) ∧ BagOk l' := by
  have bl : b < s.length := by obtain ⟨l, h, _⟩ := B; exact (List.getElem?_eq_some_iff.mp h).1
  obtain ⟨o1, m1, l1, e1, k1⟩ := some_eq (l := List.range n) (enc := hnA) B (by simp; omega) (by simp; omega) (handsA n) (.inr rfl)
  have m1 := List.mem_range.mp m1
  have B1 : BagAt (s.set b (.lst l1)) b := ⟨l1, List.getElem?_set_self bl, k1⟩
  have ne : 0 < ((List.range n).filter fun h => !decide (h = o1)).length := by
    apply List.length_pos_of_mem (a := if o1 = 0 then 1 else 0)
    rw [List.mem_filter, List.mem_range]
    split <;> simp <;> omega
  have nl : ((List.range n).filter fun h => !decide (h = o1)).length < 1000 := by
    have := List.length_filter_le (fun h => !decide (h = o1)) (List.range n)
    rw [List.length_range] at this
    omega
  obtain ⟨o2, m2, l2, e2, k2⟩ := some_eq (l := (List.range n).filter fun h => !decide (h = o1)) (enc := hnA) B1 ne nl _ (.inl rfl)
  have B2 : BagAt ((s.set b (.lst l1)).set b (.lst l2)) b := ⟨l2, List.getElem?_set_self (by rw [List.length_set]; exact bl), k2⟩
  obtain ⟨k, _, l3, e3, k3⟩ := some_eq (l := [0, 0, 1, 2]) (enc := ltA) B2 (by decide) (by decide) _ (.inl rfl)
  rw [List.mem_filter, List.mem_range] at m2
  simp only [List.set_set] at e2 e3
  refine ⟨o1, o2, k, l3, m1, m2.1, by have := m2.2; simp at this; omega, ?_, k3⟩
  have e3' : f__law_some [.ref b, .lst [.str "x", .str "x", .str "y", .str "z"]] (s.set b (.lst l2)) = .ok (ltA k) (s.set b (.lst l3)) := e3
  rw [e__law_message]
  unfold m__law_message
  generalize s.set b (.lst l1) = s1 at e1 e2
  generalize s.set b (.lst l2) = s2 at e2 e3'
  generalize s.set b (.lst l3) = s3 at e3' ⊢
  simp -implicitDefEqProofs [e1, hands_src]
  rw [lc_map (gd := []) (List.range n) hnA (fun h => !decide (h = o1)) hnA rfl (by simp) (by simp; omega) (fun x hx => ⟨_, rfl, by
    have q := fun s => hn_eq (show x < 3 by have := List.mem_range.mp hx; omega) (show o1 < 3 by omega) true s
    simp -implicitDefEqProofs [wipeA, hnA, q], fun _ => by simp -implicitDefEqProofs [wipeA]⟩)]
  simp -implicitDefEqProofs [e2, e3']
end K76
end S
set_option Elab.async false
set_option linter.all false
set_option maxRecDepth 100000
set_option maxHeartbeats 4000000
/-! Mathematics, W: a drawn chart. -/
namespace S
namespace K76
open PySem PySem.Spec PyProof.Rows L2 Pm
def rowsK (R : Rows) (n : Nat) : List (Key × AV) := (List.range n).map fun h => (.inr (hnS h), rowA (R.getD h []))
theorem key_inj {h g : Nat} (a : h < 3) (b : g < 3) : ((Sum.inr (hnS h) : Key) = .inr (hnS g)) ↔ h = g := by
  constructor
  · intro e
    exact hnS_inj a b (by injection e)
  · rintro rfl; rfl
theorem rowsK_val {R : Rows} {n h : Nat} (h3 : n ≤ 3) (hh : h < n) : valA (rowsK R n) (.inr (hnS h)) = some (rowA (R.getD h [])) := by
  have key : ∀ l : List Nat, (∀ x ∈ l, x < 3) → h ∈ l → ((l.map fun h => ((.inr (hnS h) : Key), rowA (R.getD h []))).find? fun kv => decide (kv.1 = .inr (hnS h))) = some (.inr (hnS h), rowA (R.getD h [])) := fun l => by
    induction l with
    | nil => intro _ z; cases z
    | cons x l ih =>
      intro k z
      rw [List.map_cons, List.find?_cons]
      by_cases e : x = h
      · subst e; simp
      · have : ¬ ((Sum.inr (hnS x) : Key) = .inr (hnS h)) := fun q => e ((key_inj (k x (by simp)) (by omega)).mp q)
        simp only [this, decide_false]
        exact ih (fun y hy => k y (by simp [hy])) (by rcases List.mem_cons.mp z with z | z; exact absurd z.symm e; exact z)
  unfold valA rowsK
  rw [key (List.range n) (fun x hx => by have := List.mem_range.mp hx; omega) (List.mem_range.mpr hh)]
  rfl
theorem rowsK_put {R : Rows} {n h : Nat} (h3 : n ≤ 3) (hh : h < n) (hl : R.length = n) (r : Pm.Row) : putA (rowsK R n) (.inr (hnS h)) (rowA r) = rowsK (R.set h r) n := by
  have an : ((rowsK R n).any fun kv => decide (kv.1 = .inr (hnS h))) = true := List.any_eq_true.mpr ⟨_, List.mem_map.mpr ⟨h, List.mem_range.mpr hh, rfl⟩, by simp⟩
  unfold putA
  rw [if_pos an]
  unfold rowsK
  rw [List.map_map]
  apply List.map_congr_left
  intro x hx
  have hx := List.mem_range.mp hx
  show (if (Sum.inr (hnS x) : Key) = .inr (hnS h) then _ else _) = _
  by_cases e : x = h
  · subst e
    rw [if_pos rfl]
    have : x < R.length := by omega
    simp [List.getD, this]
  · have : ¬ ((Sum.inr (hnS x) : Key) = .inr (hnS h)) := fun q => e ((key_inj (by omega) (by omega)).mp q)
    rw [if_neg this]
    simp [List.getD, List.getElem?_set_ne (Ne.symm e)]
theorem rk_at {R : Rows} {n h r : Nat} {s : Sto} (h3 : n ≤ 3) (hh : h < n) (hs : s[r]? = some (.dK (rowsK R n))) : ixA (.ref r) (hnA h) s = some (rowA (R.getD h []), s) := by
  have v := rowsK_val (R := R) h3 hh
  simp only [ixA, dgetA, hs, hnA, asK, Option.map_some, v]
theorem rk_set {R : Rows} {n h r : Nat} {s : Sto} (h3 : n ≤ 3) (hh : h < n) (hl : R.length = n) (hs : s[r]? = some (.dK (rowsK R n))) (q : Pm.Row) : setA (.ref r) (hnA h) (rowA q) s = some (s.set r (.dK (rowsK (R.set h q) n))) := by
  have v := rowsK_put (R := R) h3 hh hl q
  have len : (rowsK R n).length < 16777216 := by unfold rowsK; simp; omega
  simp only [setA, hs, hnA, asK, if_pos len, v]
/-- what lies while a chart is drawn -/
abbrev Ly := List (Nat × Nat × Lt)
def lgA (x : Nat × Nat × Lt) : AV := .tup [hnA x.1, hnA x.2.1, ltA x.2.2]
/-- the drawing's state -/
structure Dr (n left0 left : Nat) (R : Rows) (y : Ly) : Prop where
  own : Own n R
  sum : total R + 2 * left + y.length = 2 * left0
  le : left0 ≤ 4
  ok : ∀ x ∈ y, x.1 < n ∧ x.2.1 < n ∧ x.1 ≠ x.2.1
  sz : ∀ r ∈ R, r.length ≤ total R
theorem total_set {R : Rows} {h : Nat} (hh : h < R.length) (e : Ev) : total (R.set h (R.getD h [] ++ [e])) = total R + 1 := by
  unfold total
  induction R generalizing h with
  | nil => simp at hh
  | cons r R ih =>
    cases h with
    | zero => simp [List.getD]; omega
    | succ h =>
      have := ih (h := h) (by simpa using hh)
      have e' : (r :: R).getD (h + 1) [] = R.getD h [] := by simp [List.getD]
      rw [e', List.set_cons_succ, List.map_cons, List.sum_cons, this, List.map_cons, List.sum_cons]
      omega
theorem len_total : ∀ (R : Rows) (r : Pm.Row), r ∈ R → r.length ≤ total R
  | [], _, h => by cases h
  | q :: R, r, h => by
    have e : total (q :: R) = q.length + total R := by unfold total; simp
    rcases List.mem_cons.mp h with z | z
    · subst z; omega
    · have := len_total R r z; omega
theorem own_set {n : Nat} {R : Rows} {h : Nat} {e : Ev} (w : Own n R) (hh : h < n) (ho : e.o < n) (hne : e.o ≠ h) (ht : total R < 24) : Own n (R.set h (R.getD h [] ++ [e])) := by
  have hl : h < R.length := by rw [w.len]; exact hh
  have key : ∀ k, k < n → (R.set h (R.getD h [] ++ [e])).getD k [] = if k = h then R.getD h [] ++ [e] else R.getD k [] := fun k hk => by
    by_cases q : k = h
    · subst q
      simp [List.getD, hl]
    · rw [if_neg q]
      simp [List.getD, List.getElem?_set_ne (Ne.symm q)]
  have mem : ∀ r ∈ R.set h (R.getD h [] ++ [e]), r ∈ R ∨ r = R.getD h [] ++ [e] := fun r hr => List.mem_or_eq_of_mem_set hr
  refine ⟨⟨by rw [List.length_set]; exact w.len, w.le, fun r hr x hx => ?_, fun r hr => ?_⟩, fun k hk x hx => ?_⟩
  · rcases mem r hr with z | z
    · exact w.ev r z x hx
    · subst z
      rcases List.mem_append.mp hx with y | y
      · exact w.ev _ (w.toWf.row hh).2 x y
      · rw [List.mem_singleton.mp y]; exact ho
  · have := len_total _ r hr
    rw [total_set hl] at this
    omega
  · rw [key k hk] at hx
    split at hx
    · rename_i z
      subst z
      rcases List.mem_append.mp hx with y | y
      · exact w.own k hk x y
      · rw [List.mem_singleton.mp y]; exact hne
    · exact w.own k hk x hx
end K76
end S
set_option Elab.async false
set_option linter.all false
set_option maxRecDepth 100000
set_option maxHeartbeats 4000000
/-! Mathematics, X: a drawn chart: one turn that gives, one that takes. -/
namespace S
open PySem PySem.Spec PyProof.Rows L2
section
variable {p : Pat} {mb : SM}
theorem rng_go {src : Src} (hs : src.gd = []) (I : Nat → AE → Sto → Prop) : ∀ (m k : Nat) (e : AE) (s : Sto), I k e s →
    (∀ j e s, k ≤ j → j < k + m → I j e s → ∃ e1, setP p (natA j) e = some e1 ∧ ∃ e2 s2, mb e1 s = .nx e2 s2 ∧ I (j + 1) e2 s2) →
    ∃ e' s', forGo src p mb ((List.range' k m).map natA) e s = .nx e' s' ∧ I (k + m) e' s'
  | 0, k, e, s, hI, _ => ⟨e, s, by
      have ok : src.ok s := by intro q hq; rw [hs] at hq; cases hq
      simp [forGo, ok], hI⟩
  | m + 1, k, e, s, hI, h => by
    have ok : src.ok s := by intro q hq; rw [hs] at hq; cases hq
    obtain ⟨e1, h1, e2, s2, h2, h3⟩ := h k e s (Nat.le_refl _) (by omega) hI
    rw [List.range'_succ, List.map_cons, forGo, if_pos ok, h1]
    dsimp only
    rw [h2]
    obtain ⟨e', s', a, c⟩ := rng_go hs I m (k + 1) e2 s2 h3 fun j e s a c => h j e s (by omega) (by omega)
    exact ⟨e', s', a, by rw [show k + (m + 1) = k + 1 + m by omega]; exact c⟩
theorem rng_for {N : Nat} {e : AE} {s : Sto} (I : Nat → AE → Sto → Prop) (hI : I 0 e s)
    (h : ∀ j e s, j < N → I j e s → ∃ e1, setP p (natA j) e = some e1 ∧ ∃ e2 s2, mb e1 s = .nx e2 s2 ∧ I (j + 1) e2 s2) :
    ∃ e' s', forC p mb ⟨(List.range N).map natA, []⟩ e s = .nx e' s' ∧ I N e' s' := by
  have := rng_go (mb := mb) (p := p) (src := ⟨(List.range N).map natA, []⟩) rfl I N 0 e s hI (fun j e s _ a c => h j e s (by omega) c)
  rw [← List.range_eq_range', Nat.zero_add] at this
  exact this
end
namespace K76
open PySem PySem.Spec PyProof.Rows L2 Pm
noncomputable def giveM : SM := (sSeq (sAsg (gTp 3 (gsCons (gNm 7) (gsCons (gNm 8) (gsCons (gNm 9) gsNil)))) (eFn f__law_message (aCons (eVar 0) (aCons (eVar 1) aNil))))
    (sSeq (sAsg (gTp 2 (gsCons (gSb (eVar 4) (eVar 7)) (gsCons (gNm 3) gsNil))) (eTup (aCons (eOp addA (eOp ixA (eVar 4) (eVar 7)) (eTup (aCons (eTup (aCons (eC (.str "give")) (aCons (eVar 8) (aCons (eVar 9) aNil)))) aNil))) (aCons (eOp subA (eVar 3) (eC (.int 1))) aNil))))
    (sSet 5 (eOp addA (eVar 5) (eLst (aCons (eTup (aCons (eVar 7) (aCons (eVar 8) (aCons (eVar 9) aNil)))) aNil))))))
theorem give_eq {n b r : Nat} {s : Sto} {R : Rows} {y : Ly} {most : AV} {left : Int} {c6 c7 c8 c9 c10 c11 c12 c13 : Option AV} (h2 : 2 ≤ n) (h3 : n ≤ 3) (B : BagAt s b) (hr : s[r]? = some (.dK (rowsK R n))) (hbr : b ≠ r) (hl : R.length = n) (hz : ∀ q ∈ R, q.length < 100) (hy : y.length < 100) :
    ∃ o1 o2 k l' d7 d8 d9, o1 < n ∧ o2 < n ∧ o1 ≠ o2 ∧ BagOk l' ∧ giveM [some (.ref b), some (handsA n), some most, some (.int left), some (.ref r), some (.lst (y.map lgA)), c6, c7, c8, c9, c10, c11, c12, c13] s =
      .nx [some (.ref b), some (handsA n), some most, some (.int (left - 1)), some (.ref r), some (.lst ((y ++ [(o1, o2, k)]).map lgA)), c6, d7, d8, d9, c10, c11, c12, c13] ((s.set b (.lst l')).set r (.dK (rowsK (R.set o1 (R.getD o1 [] ++ [⟨true, o2, k⟩])) n))) := by
  obtain ⟨o1, o2, k, l', a1, a2, a3, e1, k1⟩ := message_eq h2 h3 B
  have hr2 : (s.set b (.lst l'))[r]? = some (.dK (rowsK R n)) := by rw [List.getElem?_set_ne hbr]; exact hr
  have i1 := rk_at h3 a1 hr2
  have i2 := rk_set h3 a1 hl hr2 (R.getD o1 [] ++ [⟨true, o2, k⟩])
  have sz : (R.getD o1 []).length < 100 := hz _ (by
    have : o1 < R.length := by omega
    simp [List.getD, this])
  refine ⟨o1, o2, k, l', some (hnA o1), some (hnA o2), some (ltA k), a1, a2, a3, k1, ?_⟩
  unfold giveM
  generalize R.getD o1 [] = R1 at i1 i2 sz ⊢
  generalize s.set b (.lst l') = s1 at e1 i1 i2 hr2 ⊢
  have ad : ∀ s, addA (rowA R1) (.tup [.tup [.str "give", hnA o2, ltA k]]) s = some (rowA (R1 ++ [⟨true, o2, k⟩]), s) := fun s => by
    have : rowA (R1 ++ [⟨true, o2, k⟩]) = .tup (R1.map evA ++ [.tup [.str "give", hnA o2, ltA k]]) := by unfold rowA; rw [List.map_append]; rfl
    rw [this]
    exact x_addT (by simp; omega)
  have al : ∀ s, addA (.lst (y.map lgA)) (.lst [.tup [hnA o1, hnA o2, ltA k]]) s = some (.lst ((y ++ [(o1, o2, k)]).map lgA), s) := fun s => by
    have : (y ++ [(o1, o2, k)]).map lgA = y.map lgA ++ [.tup [hnA o1, hnA o2, ltA k]] := by rw [List.map_append]; rfl
    rw [this]
    exact x_addL (by simp; omega)
  simp -implicitDefEqProofs [-List.map_append, e1, i1, i2, ad, al]
end K76
end S
set_option Elab.async false
set_option linter.all false
set_option maxRecDepth 100000
set_option maxHeartbeats 4000000
/-! Mathematics, Y: a drawn chart: one turn that takes. -/
namespace S
namespace K76
open PySem PySem.Spec PyProof.Rows L2 Pm
noncomputable def takeM : SM := (sSeq (sAsg (gTp 3 (gsCons (gNm 7) (gsCons (gNm 8) (gsCons (gNm 9) gsNil)))) (eFn f__law_some (aCons (eVar 0) (aCons (eVar 5) aNil))))
    (sSeq (sSet 10 (eOp ixA (eLc (iEn false (aCons (eVar 5) aNil)) (.tp [12, 13]) (asB (eOp (eqA false) (eSl (eVar 13) oNone (oSome (eC (.int 2)))) (eTup (aCons (eVar 7) (aCons (eVar 8) aNil))))) (eVar 12) [12, 13]) (eC (.int 0))))
    (sSeq (sAsg (gSb (eVar 4) (eVar 8)) (eOp addA (eOp ixA (eVar 4) (eVar 8)) (eTup (aCons (eTup (aCons (eC (.str "take")) (aCons (eVar 7) (aCons (eOp ixA (eOp ixA (eVar 5) (eVar 10)) (eC (.int 2))) aNil)))) aNil))))
    (sSet 5 (eOp addA (eSl (eVar 5) oNone (oSome (eVar 10))) (eSl (eVar 5) (oSome (eOp addA (eVar 10) (eC (.int 1)))) oNone))))))
theorem two_eq {a b c d : Nat} (h1 : a < 3) (h2 : b < 3) (h3 : c < 3) (h4 : d < 3) (s : Sto) : eqA false (.tup [hnA a, hnA b]) (.tup [hnA c, hnA d]) s = some (.bl (decide (a = c ∧ b = d)), s) := by
  have pl : ∀ x y, Pl 1 (.tup [hnA x, hnA y]) (.tuple [.str (hnS x), .str (hnS y)]) := fun x y => .tup (.cons (.str (hnS_ok x) 0) (.cons (.str (hnS_ok y) 0) (.nil 0)))
  have i1 : hnS a = hnS c ↔ a = c := ⟨hnS_inj h1 h3, fun e => by rw [e]⟩
  have i2 : hnS b = hnS d ↔ b = d := ⟨hnS_inj h2 h4, fun e => by rw [e]⟩
  have := eqA_pl (p := a = c ∧ b = d) false ((pl a b).s (s := s)) ((pl c d).s (s := s)) (by simp only [PyData.tuple.injEq, List.cons.injEq, PyData.str.injEq, i1, i2, and_true])
  simpa using this
theorem take_eqM {n b r : Nat} {s : Sto} {R : Rows} {y : Ly} {most : AV} {left : Int} {c6 c7 c8 c9 c10 c11 : Option AV} (h2 : 2 ≤ n) (h3 : n ≤ 3) (B : BagAt s b) (hr : s[r]? = some (.dK (rowsK R n))) (hbr : b ≠ r) (hl : R.length = n) (hz : ∀ q ∈ R, q.length < 100) (hy : y.length < 100) (h0 : 0 < y.length)
    (ok : ∀ x ∈ y, x.1 < n ∧ x.2.1 < n ∧ x.1 ≠ x.2.1) :
    ∃ f x l' d7 d8 d9 d10, y[f]? = some x ∧ BagOk l' ∧ takeM [some (.ref b), some (handsA n), some most, some (.int left), some (.ref r), some (.lst (y.map lgA)), c6, c7, c8, c9, c10, c11, none, none] s =
      .nx [some (.ref b), some (handsA n), some most, some (.int left), some (.ref r), some (.lst ((y.take f ++ y.drop (f + 1)).map lgA)), c6, d7, d8, d9, d10, c11, none, none] ((s.set b (.lst l')).set r (.dK (rowsK (R.set x.2.1 (R.getD x.2.1 [] ++ [⟨false, x.1, x.2.2⟩])) n))) := by
  obtain ⟨x0, mx, l', e1, k1⟩ := some_eq (l := y) (enc := lgA) B h0 (by omega) _ (.inl rfl)
  obtain ⟨o1, o2, k0⟩ := x0
  obtain ⟨a1, a2, a3⟩ := ok _ mx
  dsimp only at a1 a2 a3
  have he : lgA (o1, o2, k0) = .tup [hnA o1, hnA o2, ltA k0] := rfl
  rw [he] at e1
  let P : (Nat × Nat × Lt) × Nat → Bool := fun q => decide (q.1.1 = o1 ∧ q.1.2.1 = o2)
  have ne : (y.zipIdx.filter P) ≠ [] := by
    obtain ⟨i, hi, e⟩ := List.getElem_of_mem mx
    have : ((o1, o2, k0), i) ∈ y.zipIdx.filter P := by
      rw [List.mem_filter]
      refine ⟨List.mem_zipIdx_iff_getElem?.mpr ?_, by simp [P]⟩
      simp [hi, e]
    exact List.ne_nil_of_mem this
  obtain ⟨⟨x, f⟩, t, hK⟩ := List.exists_cons_of_ne_nil ne
  have mf : (x, f) ∈ y.zipIdx.filter P := by rw [hK]; simp
  rw [List.mem_filter] at mf
  have gx : y[f]? = some x := by
    have := List.mem_zipIdx_iff_getElem?.mp mf.1
    exact this
  obtain ⟨x1, x2, k⟩ := x
  have pp := mf.2
  simp only [P, decide_eq_true_eq] at pp
  obtain ⟨rfl, rfl⟩ := pp
  have hr2 : (s.set b (.lst l'))[r]? = some (.dK (rowsK R n)) := by rw [List.getElem?_set_ne hbr]; exact hr
  have i1 := rk_at h3 a2 hr2
  have i2 := rk_set h3 a2 hl hr2 (R.getD x2 [] ++ [⟨false, x1, k⟩])
  have sz : (R.getD x2 []).length < 100 := hz _ (by
    have : x2 < R.length := by omega
    simp [List.getD, this])
  refine ⟨f, (x1, x2, k), l', some (hnA x1), some (hnA x2), some (ltA k0), some (.int f), gx, k1, ?_⟩
  unfold takeM
  dsimp only
  generalize R.getD x2 [] = R1 at i1 i2 sz ⊢
  generalize s.set b (.lst l') = s1 at e1 i1 i2 hr2 ⊢
  have ad : ∀ s, addA (rowA R1) (.tup [.tup [.str "take", hnA x1, ltA k]]) s = some (rowA (R1 ++ [⟨false, x1, k⟩]), s) := fun s => by
    have : rowA (R1 ++ [⟨false, x1, k⟩]) = .tup (R1.map evA ++ [.tup [.str "take", hnA x1, ltA k]]) := by unfold rowA; rw [List.map_append]; rfl
    rw [this]
    exact x_addT (by simp; omega)
  have al : ∀ s, addA (.lst ((y.map lgA).take f)) (.lst ((y.map lgA).drop (f + 1))) s = some (.lst ((y.take f ++ y.drop (f + 1)).map lgA), s) := fun s => by
    have : (y.take f ++ y.drop (f + 1)).map lgA = (y.map lgA).take f ++ (y.map lgA).drop (f + 1) := by rw [List.map_append, List.map_take, List.map_drop]
    rw [this]
    exact x_addL (by simp; omega)
  have iy : ∀ s, ixA (.lst (y.map lgA)) (.int (f : Nat)) s = some (lgA (x1, x2, k), s) := fun s => ixA_lst (atI_some (by rw [List.getElem?_map, gx]; rfl))
  have i3 : ∀ s, ixA (lgA (x1, x2, k)) (.int 2) s = some (ltA k, s) := fun s => ixA_tup rfl
  have nu : numA 0 (y.map lgA) = y.zipIdx.map fun q => .tup [.int (q.2 : Nat), lgA q.1] := numA_map lgA y 0
  have L1 : ∀ e : AE, e.length = 14 → e[7]? = some (some (hnA x1)) → e[8]? = some (some (hnA x2)) → e[12]? = some none → e[13]? = some none → lcC (.tp [12, 13]) (asB (eOp (eqA false) (eSl (eVar 13) oNone (oSome (eC (.int 2)))) (eTup (aCons (eVar 7) (aCons (eVar 8) aNil))))) (eVar 12) [12, 13] ⟨numA 0 (y.map lgA), []⟩ e s1 = .ok (.lst (AV.int (f : Nat) :: t.map fun q => AV.int (q.2 : Nat))) s1 := fun e el e7 e8 _ _ => by
    match e, el with
    | [b0, b1, b2, b3, b4, b5, b6, b7, b8, b9, b10, b11, b12, b13], _ =>
      simp at e7 e8
      subst e7 e8
      rw [lc_map (gd := []) y.zipIdx (fun q => .tup [.int (q.2 : Nat), lgA q.1]) P (fun q => AV.int (q.2 : Nat)) nu (by simp) (by simp; omega) (fun q hq => ⟨_, rfl, by
        have mq : q.1 ∈ y := by
          have := List.mem_zipIdx_iff_getElem?.mp hq
          exact List.mem_of_getElem? this
        obtain ⟨u1, u2, _⟩ := ok _ mq
        have te := fun s => two_eq (a := q.1.1) (b := q.1.2.1) (c := x1) (d := x2) (by omega) (by omega) (by omega) (by omega) s
        have cu : cutL [hnA q.1.1, hnA q.1.2.1, ltA q.1.2.2] none (some 2) = [hnA q.1.1, hnA q.1.2.1] := rfl
        simp -implicitDefEqProofs [-Bool.decide_eq_true, -Bool.decide_and, wipeA, setL, lgA, cu, te, P], fun _ => by simp -implicitDefEqProofs [wipeA, setL]⟩), hK]
      rfl
  have ih : ∀ s, ixA (.lst (AV.int (f : Nat) :: t.map fun q => AV.int (q.2 : Nat))) (.int 0) s = some (.int (f : Nat), s) := fun s => ixA_lst (atI_some (k := 0) rfl)
  have c1 : cutL (y.map lgA) none (some (f : Int)) = (y.map lgA).take f := cutL_take _ f
  have c2 : cutL (y.map lgA) (some ((f : Int) + 1)) none = (y.map lgA).drop (f + 1) := cutL_drop1 _ f
  have ns : nS1 false (.ok [.lst (y.map lgA)] s1) = .ok ⟨numA 0 (y.map lgA), []⟩ s1 := nS1_ok (u := ⟨y.map lgA, []⟩) rfl rfl
  simp -implicitDefEqProofs [-List.map_append, -List.map_take, -List.map_drop, e1, ns]
  rw [L1 _ rfl rfl rfl rfl rfl]
  simp -implicitDefEqProofs [-List.map_append, -List.map_take, -List.map_drop, ih, i1, i2, iy, i3, ad, c1, c2, al]
end K76
end S
set_option Elab.async false
set_option linter.all false
set_option maxRecDepth 100000
set_option maxHeartbeats 4000000
/-! Mathematics, Z: a drawn chart. -/
namespace S
namespace K76
open PySem PySem.Spec PyProof.Rows L2 Pm
/-- the store grows, and only the bag of what lay there changes -/
structure Gr (s s' : Sto) (b : Nat) : Prop where
  bag : BagAt s' b
  len : s.length ≤ s'.length
  keep : ∀ k, k ≠ b → k < s.length → s'[k]? = s[k]?
theorem Gr.trans {s s' s'' : Sto} {b : Nat} (g : Gr s s' b) (h : Gr s' s'' b) : Gr s s'' b :=
  ⟨h.bag, Nat.le_trans g.len h.len, fun k a c => (h.keep k a (Nat.lt_of_lt_of_le c g.len)).trans (g.keep k a c)⟩
theorem dict_eq {n : Nat} (h : n ≤ 3) (s : Sto) : dictA [.lst ((List.range n).map fun h => .tup [hnA h, .tup []])] s = some (.ref s.length, s ++ [.dK (rowsK (List.replicate n []) n)]) := by
  have : n = 0 ∨ n = 1 ∨ n = 2 ∨ n = 3 := by omega
  rcases this with rfl | rfl | rfl | rfl <;> rfl
theorem own_nil {n : Nat} (h : n ≤ 3) : Own n (List.replicate n []) := by
  refine ⟨⟨by simp, h, fun r hr x hx => ?_, fun r hr => ?_⟩, fun k hk x hx => ?_⟩
  · rw [(List.mem_replicate.mp hr).2] at hx; cases hx
  · rw [(List.mem_replicate.mp hr).2]; simp
  · simp [List.getD, hk] at hx
theorem eq_nilL (y : Ly) (s : Sto) : eqA false (.lst (y.map lgA)) (.lst []) s = some (.bl (decide (y = [])), s) := by
  have p : Pls 1 (y.map lgA) (y.map fun x => .tuple [.str (hnS x.1), .str (hnS x.2.1), .str (ltS x.2.2)]) :=
    Pls.map y fun x _ => .tup (.cons (.str (hnS_ok _) 0) (.cons (.str (hnS_ok _) 0) (.cons (.str (ltS_ok _) 0) (.nil 0))))
  have := eqA_pl (p := y = []) false ((Pl.lst p).s (s := s)) ((Pl.lst (Pls.nil 0)).s (s := s)) (by simp)
  simpa using this
noncomputable def chartB : SM := sIf (mAnd (asB (eOp (ordA gtD) (eVar 3) (eC (.int 0)))) (mOr (asB (eOp (eqA false) (eVar 5) (eLst aNil))) (asB (eOp (eqA false) (eFn f__law_take (aCons (eVar 0) (aCons (eC (.int 2)) aNil))) (eC (.int 0)))))) giveM takeM
def CI (n b left0 : Nat) (s : Sto) (most : AV) (j : Nat) (e : AE) (s' : Sto) : Prop :=
  ∃ (left : Nat) (R : Rows) (y : Ly) (l : List AV) (c6 c7 c8 c9 c10 : Option AV), e = [some (.ref b), some (handsA n), some most, some (.int left), some (.ref s.length), some (.lst (y.map lgA)), c6, c7, c8, c9, c10, none, none, none] ∧
    s' = s.set b (.lst l) ++ [.dK (rowsK R n)] ∧ BagOk l ∧ Dr n left0 left R y ∧ total R = j
theorem sto1 {s : Sto} {b : Nat} {l l' : List AV} {d d' : AO} (bl : b < s.length) : (((s.set b (.lst l) ++ [d]).set b (.lst l')).set s.length d') = s.set b (.lst l') ++ [d'] := by
  rw [List.set_append_left _ _ (by rw [List.length_set]; exact bl), List.set_set, List.set_append_right _ _ (by simp)]
  simp
theorem chart_loop {n b left0 : Nat} {s : Sto} {most : AV} {l0 : List AV} (h2 : 2 ≤ n) (h3 : n ≤ 3) (bl : b < s.length) (k0 : BagOk l0) (hl : left0 ≤ 4) :
    ∃ e' s', forC (.nm 6) chartB ⟨(List.range (2 * left0)).map natA, []⟩ [some (.ref b), some (handsA n), some most, some (.int left0), some (.ref s.length), some (.lst []), none, none, none, none, none, none, none, none] (s.set b (.lst l0) ++ [.dK (rowsK (List.replicate n []) n)]) = .nx e' s' ∧ CI n b left0 s most (2 * left0) e' s' := by
  have t0 : total (List.replicate n ([] : Pm.Row)) = 0 := by unfold total; simp
  refine rng_for (CI n b left0 s most) ⟨left0, _, [], l0, _, _, _, _, _, rfl, rfl, k0, ⟨own_nil h3, by simp [t0], hl, by simp, fun r hr => by rw [(List.mem_replicate.mp hr).2]; simp⟩, t0⟩ fun j e s' hj ⟨left, R, y, l, c6, c7, c8, c9, c10, he, hs, bo, d, tj⟩ => ?_
  subst he hs
  refine ⟨_, rfl, ?_⟩
  have sum := d.sum
  have dle := d.le
  have len := d.own.len
  have hr : ∀ l, (s.set b (.lst l) ++ [.dK (rowsK R n)] : Sto)[s.length]? = some (.dK (rowsK R n)) := fun l => by
    rw [List.getElem?_append_right (by simp)]; simp
  have hbr : b ≠ s.length := by omega
  have hB : ∀ l, (s.set b (.lst l) ++ [.dK (rowsK R n)] : Sto)[b]? = some (.lst l) := fun l => by
    rw [List.getElem?_append_left (by rw [List.length_set]; exact bl)]; exact List.getElem?_set_self bl
  have hz : ∀ q ∈ R, q.length < 100 := fun q hq => by have := d.sz q hq; omega
  have st : ∀ l l', ((s.set b (.lst l) ++ [.dK (rowsK R n)] : Sto).set b (.lst l')) = s.set b (.lst l') ++ [.dK (rowsK R n)] := fun l l' => by
    rw [List.set_append_left _ _ (by rw [List.length_set]; exact bl), List.set_set]
  have nl := fun s => eq_nilL y s
  have give : ∀ l, BagOk l → 0 < left → ∃ e2 s2, giveM [some (.ref b), some (handsA n), some most, some (.int left), some (.ref s.length), some (.lst (y.map lgA)), some (natA j), c7, c8, c9, c10, none, none, none] (s.set b (.lst l) ++ [.dK (rowsK R n)]) = .nx e2 s2 ∧ CI n b left0 s most (j + 1) e2 s2 := fun l bo h0 => by
    obtain ⟨o1, o2, k, l', d7, d8, d9, a1, a2, a3, k1, eq⟩ := give_eq (y := y) (most := most) (left := left) (c6 := some (natA j)) (c7 := c7) (c8 := c8) (c9 := c9) (c10 := c10) (c11 := none) (c12 := none) (c13 := none) h2 h3 ⟨l, hB l, bo⟩ (hr l) hbr len hz (by omega)
    rw [sto1 bl] at eq
    have hl1 : o1 < R.length := by omega
    have tt := total_set hl1 ⟨true, o2, k⟩
    refine ⟨_, _, eq, left - 1, _, _, l', _, _, _, _, _, by rw [show ((left - 1 : Nat) : Int) = (left : Int) - 1 by omega], rfl, k1, ⟨own_set d.own a1 a2 (fun z => a3 z.symm) (by omega), by rw [tt]; simp; omega, dle, fun x hx => ?_, len_total _⟩, by rw [tt, tj]⟩
    rcases List.mem_append.mp hx with z | z
    · exact d.ok x z
    · rw [List.mem_singleton.mp z]; exact ⟨a1, a2, a3⟩
  have takeH : ∀ l, BagOk l → 0 < y.length → ∃ e2 s2, takeM [some (.ref b), some (handsA n), some most, some (.int left), some (.ref s.length), some (.lst (y.map lgA)), some (natA j), c7, c8, c9, c10, none, none, none] (s.set b (.lst l) ++ [.dK (rowsK R n)]) = .nx e2 s2 ∧ CI n b left0 s most (j + 1) e2 s2 := fun l bo h0 => by
    obtain ⟨f, x, l', d7, d8, d9, d10, gx, k1, eq⟩ := take_eqM (most := most) (left := left) (c6 := some (natA j)) (c7 := c7) (c8 := c8) (c9 := c9) (c10 := c10) (c11 := none) h2 h3 ⟨l, hB l, bo⟩ (hr l) hbr len hz (by omega) h0 d.ok
    rw [sto1 bl] at eq
    obtain ⟨a1, a2, a3⟩ := d.ok x (List.mem_of_getElem? gx)
    have hf : f < y.length := (List.getElem?_eq_some_iff.mp gx).1
    have hl1 : x.2.1 < R.length := by omega
    have tt := total_set hl1 ⟨false, x.1, x.2.2⟩
    refine ⟨_, _, eq, left, _, _, l', _, _, _, _, _, rfl, rfl, k1, ⟨own_set d.own a2 a1 a3 (by omega), by rw [tt]; simp; omega, dle, fun z hz => ?_, len_total _⟩, by rw [tt, tj]⟩
    rcases List.mem_append.mp hz with q | q
    · exact d.ok z (List.mem_of_mem_take q)
    · exact d.ok z (List.mem_of_mem_drop q)
  show ∃ e2 s2, chartB [some (.ref b), some (handsA n), some most, some (.int left), some (.ref s.length), some (.lst (y.map lgA)), some (natA j), c7, c8, c9, c10, none, none, none] (s.set b (.lst l) ++ [.dK (rowsK R n)]) = .nx e2 s2 ∧ CI n b left0 s most (j + 1) e2 s2
  unfold chartB
  by_cases z : left = 0
  · obtain ⟨e2, s2, q1, q2⟩ := takeH l bo (by omega)
    refine ⟨e2, s2, ?_, q2⟩
    subst z
    simp -implicitDefEqProofs
    exact q1
  · have zl : 0 < left := by omega
    by_cases yn : y = []
    · obtain ⟨e2, s2, q1, q2⟩ := give l bo zl
      refine ⟨e2, s2, ?_, q2⟩
      simp -implicitDefEqProofs [zl, nl, yn]
      subst yn
      exact q1
    · obtain ⟨r, l1, e1, p0, p1, k1⟩ := take_eq (many := 2) (hB l) bo (by decide) (by decide)
      rw [st] at e1
      by_cases rz : r = 0
      · obtain ⟨e2, s2, q1, q2⟩ := give l1 k1 zl
        refine ⟨e2, s2, ?_, q2⟩
        simp -implicitDefEqProofs [zl, nl, yn, e1, rz]
        exact q1
      · obtain ⟨e2, s2, q1, q2⟩ := takeH l1 k1 (List.length_pos_iff.mpr yn)
        refine ⟨e2, s2, ?_, q2⟩
        simp -implicitDefEqProofs [zl, nl, yn, e1, rz]
        exact q1
end K76
end S
set_option Elab.async false
set_option linter.all false
set_option maxRecDepth 100000
set_option maxHeartbeats 4000000
/-! Mathematics, N.A: _law_chart. -/
namespace S
namespace K76
open PySem PySem.Spec PyProof.Rows L2 Pm
theorem chart_tail {Q : Rows → Sto → Prop} {I : AE → Sto → Prop} {mb mt : SM} {p : Pat} {xs : List AV} {e : AE} {s : Sto} (h : ∃ e' s', forC p mb ⟨xs, []⟩ e s = .nx e' s' ∧ I e' s')
    (k : ∀ e' s', I e' s' → ∃ R x, Q R x ∧ fin (mt e' s') = .ok (rowsA R) x) : ∃ R x, Q R x ∧ fin (bQ (forC p mb ⟨xs, []⟩ e s) mt) = .ok (rowsA R) x := by
  obtain ⟨e', s', h1, h2⟩ := h
  rw [h1]
  exact k e' s' h2
theorem rows_all {R : Rows} {n : Nat} (hl : R.length = n) : (List.range n).map (fun h => rowA (R.getD h [])) = R.map rowA := by
  subst hl
  apply List.ext_getElem
  · simp
  · intro i h1 h2
    simp at h1
    simp [List.getD, h1]
theorem chart_eq {n b : Nat} {s : Sto} {most : Nat} (h2 : 2 ≤ n) (h3 : n ≤ 3) (hm : most ≤ 4) (B : BagAt s b) : ∃ R s', (Own n R ∧ total R ≤ 8 ∧ Gr s s' b) ∧ f__law_chart [.ref b, handsA n, .int most] s = .ok (rowsA R) s' := by
  have bl : b < s.length := by obtain ⟨l, h, _⟩ := B; exact (List.getElem?_eq_some_iff.mp h).1
  obtain ⟨bl0, hb, bo⟩ := B
  obtain ⟨r0, l0, e0, q0, q1, k0⟩ := take_eq hb bo (many := (most : Int) + 1) (by omega) (by omega)
  obtain ⟨left0, rfl⟩ : ∃ k : Nat, r0 = (k : Int) := ⟨r0.toNat, (Int.toNat_of_nonneg q0).symm⟩
  have d0 := dict_eq h3 (s.set b (.lst l0))
  have rs : ∀ s, rSrc (.ok (.int (2 * (left0 : Int))) s) = .ok ⟨(List.range (2 * left0)).map natA, []⟩ s := fun s => by
    have := rSrc_n (s := s) (k := 2 * left0) (by omega)
    rw [show ((2 * left0 : Nat) : Int) = 2 * (left0 : Int) by simp] at this
    exact this
  have mu : ∀ s, mulA false (.int 2) (.int (left0 : Nat)) s = some (.int (2 * (left0 : Int)), s) := fun s => x_mulI (.inl (by decide))
  have LC : ∀ s, lcC (.nm 11) yesM (eTup (aCons (eVar 11) (aCons (eTup aNil) aNil))) [11] ⟨(List.range n).map hnA, []⟩ [some (.ref b), some (handsA n), some (.int most), none, none, none, none, none, none, none, none, none, none, none] s = .ok (.lst ((List.range n).map fun h => .tup [hnA h, .tup []])) s := fun s => by
    rw [lc_all (gd := []) (List.range n) hnA (fun h => .tup [hnA h, .tup []]) rfl (by simp) (by simp; omega) (fun x hx => ⟨_, rfl, by simp -implicitDefEqProofs [wipeA, hnA]⟩)]
  rw [e__law_chart]
  unfold m__law_chart
  simp -implicitDefEqProofs [-exists_and_left, -exists_and_right, startA, e0, hands_src, LC, d0, mu, rs]
  refine chart_tail (Q := fun R s' => Own n R ∧ total R ≤ 8 ∧ Gr s s' b) (chart_loop h2 h3 bl k0 (by omega)) fun e' s' ⟨left, R, y, l, c6, c7, c8, c9, c10, he, hs, bo, d, tj⟩ => ?_
  subst he hs
  have hB : (s.set b (.lst l) ++ [.dK (rowsK R n)] : Sto)[b]? = some (.lst l) := by
    rw [List.getElem?_append_left (by rw [List.length_set]; exact bl)]; exact List.getElem?_set_self bl
  have hr : (s.set b (.lst l) ++ [.dK (rowsK R n)] : Sto)[s.length]? = some (.dK (rowsK R n)) := by
    rw [List.getElem?_append_right (by simp)]; simp
  refine ⟨R, s.set b (.lst l) ++ [.dK (rowsK R n)], ⟨d.own, by omega, ⟨⟨l, hB, bo⟩, by simp, fun k ne hk => ?_⟩⟩, ?_⟩
  · rw [List.getElem?_append_left (by rw [List.length_set]; exact hk), List.getElem?_set_ne (Ne.symm ne)]
  · generalize (s.set b (.lst l) ++ [.dK (rowsK R n)] : Sto) = s1 at hr
    have LD : lcC (.nm 11) yesM (eOp ixA (eVar 4) (eVar 11)) [11] ⟨(List.range n).map hnA, []⟩ [some (.ref b), some (handsA n), some (.int most), some (.int left), some (.ref s.length), some (.lst (y.map lgA)), c6, c7, c8, c9, c10, none, none, none] s1 = .ok (.lst (R.map rowA)) s1 := by
      rw [lc_all (gd := []) (List.range n) hnA (fun h => rowA (R.getD h [])) rfl (by simp) (by simp; omega) (fun x hx => ⟨_, rfl, by
        have i := rk_at h3 (List.mem_range.mp hx) hr
        generalize R.getD x [] = R1 at i ⊢
        simp -implicitDefEqProofs [wipeA, i]⟩), rows_all d.own.len]
    simp -implicitDefEqProofs [-List.map_append, hands_src]
    rw [LD]
    rfl
end K76
end S
set_option Elab.async false
set_option linter.all false
set_option maxRecDepth 100000
set_option maxHeartbeats 4000000
/-! Mathematics, N.B: _law_mixed. -/
namespace S
open PySem PySem.Spec PyProof.Rows L2
section
variable {p : Pat} {mb : SM} {α : Type}
theorem pre_go {src : Src} (hs : src.gd = []) (enc : α → AV) (whole : List α) (I : List α → AE → Sto → Prop)
    (h : ∀ pre x post e s, pre ++ x :: post = whole → I pre e s → ∃ e1, setP p (enc x) e = some e1 ∧ ∃ e2 s2, mb e1 s = .nx e2 s2 ∧ I (pre ++ [x]) e2 s2) :
    ∀ (post pre : List α) (e : AE) (s : Sto), I pre e s → pre ++ post = whole → ∃ e' s', forGo src p mb (post.map enc) e s = .nx e' s' ∧ I whole e' s'
  | [], pre, e, s, hI, hw => ⟨e, s, by
      have ok : src.ok s := by intro q hq; rw [hs] at hq; cases hq
      simp [forGo, ok], by rw [← hw, List.append_nil]; exact hI⟩
  | x :: post, pre, e, s, hI, hw => by
    have ok : src.ok s := by intro q hq; rw [hs] at hq; cases hq
    obtain ⟨e1, h1, e2, s2, h2, h3⟩ := h pre x post e s hw hI
    rw [List.map_cons, forGo, if_pos ok, h1]
    dsimp only
    rw [h2]
    exact pre_go hs enc whole I h post (pre ++ [x]) e2 s2 h3 (by rw [List.append_assoc]; exact hw)
theorem pre_for (enc : α → AV) (whole : List α) {e : AE} {s : Sto} (I : List α → AE → Sto → Prop) (hI : I [] e s)
    (h : ∀ pre x post e s, pre ++ x :: post = whole → I pre e s → ∃ e1, setP p (enc x) e = some e1 ∧ ∃ e2 s2, mb e1 s = .nx e2 s2 ∧ I (pre ++ [x]) e2 s2) :
    ∃ e' s', forC p mb ⟨whole.map enc, []⟩ e s = .nx e' s' ∧ I whole e' s' :=
  pre_go (src := ⟨whole.map enc, []⟩) rfl enc whole I h whole [] e s hI rfl
theorem for_tail {Q : AV → Sto → Prop} {I : AE → Sto → Prop} {mt : SM} {xs : List AV} {e : AE} {s : Sto} (h : ∃ e' s', forC p mb ⟨xs, []⟩ e s = .nx e' s' ∧ I e' s')
    (k : ∀ e' s', I e' s' → ∃ a x, Q a x ∧ fin (mt e' s') = .ok a x) : ∃ a x, Q a x ∧ fin (bQ (forC p mb ⟨xs, []⟩ e s) mt) = .ok a x := by
  obtain ⟨e', s', h1, h2⟩ := h
  rw [h1]
  exact k e' s' h2
end
namespace K76
open PySem PySem.Spec PyProof.Rows L2 Pm
theorem mixed_eq {α : Type} {b : Nat} {s : Sto} (enc : α → AV) (T : List α) (ht : T.length < 900) (B : BagAt s b) :
    ∃ a s', (∃ (T' : List α) (l : List AV), a = .ref s.length ∧ T'.Perm T ∧ BagOk l ∧ s' = s.set b (.lst l) ++ [.lst (T'.map enc)]) ∧ f__law_mixed [.ref b, .lst (T.map enc)] s = .ok a s' := by
  have bl : b < s.length := by obtain ⟨l, h, _⟩ := B; exact (List.getElem?_eq_some_iff.mp h).1
  obtain ⟨l0, hb, bo⟩ := B
  rw [e__law_mixed]
  unfold m__law_mixed
  simp -implicitDefEqProofs [-exists_and_left, -exists_and_right, -List.map_append]
  refine for_tail (Q := fun a s' => ∃ (T' : List α) (l : List AV), a = .ref s.length ∧ T'.Perm T ∧ BagOk l ∧ s' = s.set b (.lst l) ++ [.lst (T'.map enc)]) (pre_for enc T
    (fun pre e s' => ∃ (T' : List α) (l : List AV) (c : Option AV), e = [some (.ref b), some (.lst (T.map enc)), some (.ref s.length), c] ∧ s' = s.set b (.lst l) ++ [.lst (T'.map enc)] ∧ BagOk l ∧ T'.Perm pre) ⟨[], l0, _, rfl, by rw [self_set hb]; rfl, bo, .nil⟩
    fun pre x post e s' hw ⟨T', l, c, he, hs, bo, pm⟩ => ?_) fun e' s' ⟨T', l, c, he, hs, bo, pm⟩ => ?_
  · subst he hs
    refine ⟨_, rfl, ?_⟩
    have hT : T'.length < 900 := by
      have : pre.length < T.length := by rw [← hw]; simp
      rw [pm.length_eq]; omega
    have hB : (s.set b (.lst l) ++ [.lst (T'.map enc)] : Sto)[b]? = some (.lst l) := by
      rw [List.getElem?_append_left (by rw [List.length_set]; exact bl)]; exact List.getElem?_set_self bl
    obtain ⟨r, l1, e1, p0, p1, k1⟩ := take_eq (many := (T'.length : Int) + 1) hB bo (by omega) (by omega)
    have st : ((s.set b (.lst l) ++ [.lst (T'.map enc)] : Sto).set b (.lst l1)) = s.set b (.lst l1) ++ [.lst (T'.map enc)] := by
      rw [List.set_append_left _ _ (by rw [List.length_set]; exact bl), List.set_set]
    rw [st] at e1
    have hr : ∀ l, (s.set b (.lst l) ++ [.lst (T'.map enc)] : Sto)[s.length]? = some (.lst (T'.map enc)) := fun l => by
      rw [List.getElem?_append_right (by simp)]; simp
    have ln := x_lenR (hr l)
    rw [List.length_map] at ln
    have bm : bmOk "list" (.ref s.length) (s.set b (.lst l) ++ [.lst (T'.map enc)]) = true := by simp only [bmOk, hr l]; rfl
    have ins : insertA (.ref s.length) [.int r, enc x] (s.set b (.lst l1) ++ [.lst (T'.map enc)]) = some (.non, s.set b (.lst l1) ++ [.lst ((T'.take r.toNat ++ [x] ++ T'.drop r.toNat).map enc)]) := by
      have c : (T'.map enc).length < 16777216 ∧ 0 ≤ r ∧ r < 2 ^ 63 := by rw [List.length_map]; omega
      simp only [insertA, hr l1, if_pos c]
      rw [List.set_append_right _ _ (by simp)]
      simp
    refine ⟨[some (.ref b), some (.lst (T.map enc)), some (.ref s.length), some (enc x)], s.set b (.lst l1) ++ [.lst ((T'.take r.toNat ++ [x] ++ T'.drop r.toNat).map enc)], ?_, ⟨_, l1, _, rfl, rfl, k1, ?_⟩⟩
    · simp -implicitDefEqProofs [-List.map_append, -List.append_assoc, x_bmC bm, ln, e1, ins]
    · have h1 : (T'.take r.toNat ++ [x] ++ T'.drop r.toNat).Perm (x :: T') := by
        rw [List.append_assoc]
        refine List.perm_middle.trans ?_
        simp
      exact h1.trans ((List.Perm.cons x pm).trans (List.perm_append_singleton x pre).symm)
  · subst he hs
    exact ⟨_, _, ⟨T', l, rfl, pm, bo, rfl⟩, rfl⟩
end K76
end S
set_option Elab.async false
set_option linter.all false
set_option maxRecDepth 100000
set_option maxHeartbeats 4000000
/-! Mathematics, N.C: _law_loose. -/
namespace S
namespace K76
open PySem PySem.Spec PyProof.Rows L2 Pm
theorem wd_eqC (g c : Bool) {wd : Str} (hw : wd = wdS c) (s : Sto) : eqA false (.str (wdS g)) (.str wd) s = some (.bl (g == c), s) := by
  subst hw
  have ok : ∀ b, PyData.strOk (wdS b) = true := fun b => by cases b <;> decide +kernel
  have wi : ∀ b c, wdS b = wdS c ↔ b = c := by decide +kernel
  rw [eqA_str false (ok g) (ok c)]
  have := wi g c
  cases g <;> cases c <;> simp at this ⊢ <;> exact this
noncomputable def looseB : SM := (sExpr (eBMT "list" appendA (eVar 5) (aCons (eIf (asB (eOp (eqA false) (eOp ixA (eVar 6) (eC (.int 0))) (eC (.str "give")))) (eVar 6) (eBMT "list" popA (eVar 4) aNil)) aNil)))
def tks (r : Pm.Row) : Pm.Row := r.filter fun e => !e.g
def LI (s3 : Sto) (row : Pm.Row) (a0 a1 a2 a3 : Option AV) (pre : Pm.Row) (e : AE) (s' : Sto) : Prop :=
  ∃ (N U : List Ev) (c : Option AV), e = [a0, a1, a2, a3, some (.ref s3.length), some (.ref (s3.length + 1)), c] ∧ s' = s3 ++ [.lst (U.map evA), .lst (N.map evA)] ∧ N.length = pre.length ∧ (∀ x ∈ N, x ∈ row) ∧ (∀ x ∈ U, x ∈ row) ∧ U.length + (tks pre).length = (tks row).length
theorem loose_loop {s3 : Sto} {row : Pm.Row} {T' : List Ev} {a0 a1 a2 a3 a6 : Option AV} (mem : ∀ x ∈ T', x ∈ row) (hl : T'.length = (tks row).length) (hr : row.length < 100) :
    ∃ e' s', forC (.nm 6) looseB ⟨row.map evA, []⟩ [a0, a1, a2, a3, some (.ref s3.length), some (.ref (s3.length + 1)), a6] (s3 ++ [.lst (T'.map evA), .lst []]) = .nx e' s' ∧
      ∃ (N : List Ev) (U : List AV) (c : Option AV), e' = [a0, a1, a2, a3, some (.ref s3.length), some (.ref (s3.length + 1)), c] ∧ s' = s3 ++ [.lst U, .lst (N.map evA)] ∧ N.length = row.length ∧ ∀ x ∈ N, x ∈ row := by
  have key : ∀ pre x post (e : AE) (s : Sto), pre ++ x :: post = row → LI s3 row a0 a1 a2 a3 pre e s → ∃ e1, setP (.nm 6) (evA x) e = some e1 ∧ ∃ e2 s2, looseB e1 s = .nx e2 s2 ∧ LI s3 row a0 a1 a2 a3 (pre ++ [x]) e2 s2 := ?step
  · obtain ⟨e', s', h1, N, U, c, h2, h3, h4, h5, h6⟩ := pre_for (p := .nm 6) (mb := looseB) (e := [a0, a1, a2, a3, some (.ref s3.length), some (.ref (s3.length + 1)), a6]) (s := s3 ++ [.lst (T'.map evA), .lst []]) evA row (LI s3 row a0 a1 a2 a3) ⟨[], T', _, rfl, rfl, rfl, by simp, mem, by simpa [tks] using hl⟩ key
    exact ⟨e', s', h1, N, _, c, h2, h3, h4, h5⟩
  rintro pre x post e s' hw ⟨N, U, c, he, hs, q1, q2, q3, q4⟩
  subst he hs
  refine ⟨_, rfl, ?_⟩
  have mx : x ∈ row := by rw [← hw]; simp
  have nl : N.length < 100 := by
    have : pre.length < row.length := by rw [← hw]; simp
    omega
  have hR : ∀ a c : AO, (s3 ++ [a, c] : Sto)[s3.length]? = some a := fun a c => by
    rw [List.getElem?_append_right (Nat.le_refl _)]; simp
  have hW : ∀ a c : AO, (s3 ++ [a, c] : Sto)[s3.length + 1]? = some c := fun a c => by
    rw [List.getElem?_append_right (by omega)]; simp
  have sR : ∀ a c d : AO, (s3 ++ [a, c] : Sto).set s3.length d = s3 ++ [d, c] := fun a c d => by
    rw [List.set_append_right _ _ (Nat.le_refl _)]; simp
  have sW : ∀ a c d : AO, (s3 ++ [a, c] : Sto).set (s3.length + 1) d = s3 ++ [a, d] := fun a c d => by
    rw [List.set_append_right _ _ (by omega)]; simp
  have b1 : ∀ xs ys, bmOk "list" (.ref s3.length) (s3 ++ [.lst xs, .lst ys]) = true := fun xs ys => by simp only [bmOk, hR]; rfl
  have b2 : ∀ xs ys, bmOk "list" (.ref (s3.length + 1)) (s3 ++ [.lst xs, .lst ys]) = true := fun xs ys => by simp only [bmOk, hW]; rfl
  have ap : ∀ U y, appendA (.ref (s3.length + 1)) [evA y] (s3 ++ [.lst U, .lst (N.map evA)]) = some (.non, s3 ++ [.lst U, .lst ((N ++ [y]).map evA)]) := fun U y => by
    have c : (N.map evA).length < 16777216 := by rw [List.length_map]; omega
    simp only [appendA, hW, if_pos c, sW]
    rw [List.map_append]; rfl
  have i0 : ∀ s, ixA (evA x) (.int 0) s = some (.str (wdS x.g), s) := fun s => ixA_tup rfl
  have wq := fun s => wd_eqC x.g true (wd := "give") rfl s
  have tk : (tks (pre ++ [x])).length = (tks pre).length + if x.g then 0 else 1 := by
    unfold tks; rw [List.filter_append]; cases h : x.g <;> simp [h]
  cases g : x.g with
  | true =>
    rw [g] at wq i0 tk
    refine ⟨[a0, a1, a2, a3, some (.ref s3.length), some (.ref (s3.length + 1)), some (evA x)], s3 ++ [.lst (U.map evA), .lst ((N ++ [x]).map evA)], ?_, N ++ [x], U, _, rfl, rfl, by simp [q1], fun z hz => ?_, q3, by simp at tk; omega⟩
    · unfold looseB
      simp -implicitDefEqProofs [-List.map_append, x_bmC (b2 _ _), i0, wq, ap]
    · rcases List.mem_append.mp hz with z1 | z1
      · exact q2 z z1
      · rw [List.mem_singleton.mp z1]; exact mx
  | false =>
    rw [g] at wq i0 tk
    have post1 : (tks (pre ++ [x])).length ≤ (tks row).length := by
      rw [← hw, show pre ++ x :: post = (pre ++ [x]) ++ post by simp]
      unfold tks
      rw [List.filter_append (pre ++ [x]) post, List.length_append]
      omega
    have un : U ≠ [] := by
      intro z; subst z
      simp at tk q4; omega
    have pp : popA (.ref s3.length) [] (s3 ++ [.lst (U.map evA), .lst (N.map evA)]) = some (evA (U.getLast un), s3 ++ [.lst (U.dropLast.map evA), .lst (N.map evA)]) := by
      have hu : (U.map evA)[(U.map evA).length - 1]? = some (evA (U.getLast un)) := by
        rw [List.length_map, List.getElem?_map, ← List.getLast?_eq_getElem?, List.getLast?_eq_some_getLast un]; rfl
      simp only [popA, hR, hu, sR]
      rw [List.map_dropLast]
    refine ⟨[a0, a1, a2, a3, some (.ref s3.length), some (.ref (s3.length + 1)), some (evA x)], s3 ++ [.lst (U.dropLast.map evA), .lst ((N ++ [U.getLast un]).map evA)], ?_, N ++ [U.getLast un], U.dropLast, _, rfl, rfl, by simp [q1], fun z hz => ?_, fun z hz => q3 z ((List.dropLast_subset U) hz), ?_⟩
    · unfold looseB
      simp -implicitDefEqProofs [-List.map_append, -List.map_dropLast, x_bmC (b2 _ _), x_bmC (b1 _ _), i0, wq, ap, pp]
    · rcases List.mem_append.mp hz with z1 | z1
      · exact q2 z z1
      · rw [List.mem_singleton.mp z1]; exact q3 _ (List.getLast_mem un)
    · have := List.length_pos_iff.mpr un
      simp at tk ⊢
      omega
end K76
end S
set_option Elab.async false
set_option linter.all false
set_option maxRecDepth 100000
set_option maxHeartbeats 4000000
/-! Mathematics, N.D: _law_loose. -/
namespace S
namespace K76
open PySem PySem.Spec PyProof.Rows L2 Pm
theorem total_rep {R : Rows} {h : Nat} {N : Pm.Row} (hh : h < R.length) (hl : N.length = (R.getD h []).length) : total (R.set h N) = total R := by
  unfold total
  induction R generalizing h with
  | nil => simp at hh
  | cons r R ih =>
    cases h with
    | zero => simp [List.getD] at hl ⊢; omega
    | succ h =>
      have e' : (r :: R).getD (h + 1) [] = R.getD h [] := by simp [List.getD]
      rw [e'] at hl
      have := ih (h := h) (by simpa using hh) hl
      rw [List.set_cons_succ, List.map_cons, List.sum_cons, this, List.map_cons, List.sum_cons]
theorem own_rep {n : Nat} {R : Rows} {h : Nat} {N : Pm.Row} (w : Own n R) (hh : h < n) (hl : N.length = (R.getD h []).length) (hm : ∀ x ∈ N, x ∈ R.getD h []) : Own n (R.set h N) := by
  have hr := w.toWf.row hh
  have hL : h < R.length := by rw [w.len]; exact hh
  refine ⟨⟨by rw [List.length_set]; exact w.len, w.le, fun r hr' x hx => ?_, fun r hr' => ?_⟩, fun k hk x hx => ?_⟩
  · rcases List.mem_or_eq_of_mem_set hr' with z | z
    · exact w.ev r z x hx
    · subst z; exact w.ev _ hr.2 x (hm x hx)
  · rcases List.mem_or_eq_of_mem_set hr' with z | z
    · exact w.sz r z
    · subst z; rw [hl]; exact w.sz _ hr.2
  · by_cases q : k = h
    · subst q
      have : (R.set k N).getD k [] = N := by simp [List.getD, hL]
      rw [this] at hx
      exact w.own k hk x (hm x hx)
    · have : (R.set h N).getD k [] = R.getD k [] := by simp [List.getD, List.getElem?_set_ne (Ne.symm q)]
      rw [this] at hx
      exact w.own k hk x hx
theorem loose_eq {n b : Nat} {s : Sto} (h2 : 2 ≤ n) (h3 : n ≤ 3) (B : BagAt s b) : ∃ R s', (Own n R ∧ total R ≤ 8 ∧ Gr s s' b) ∧ f__law_loose [.ref b, handsA n] s = .ok (rowsA R) s' := by
  obtain ⟨R, s1, ⟨own, tot, gr⟩, ec⟩ := chart_eq (most := 4) h2 h3 (by decide) B
  have bl1 : b < s1.length := by obtain ⟨l, h, _⟩ := gr.bag; exact (List.getElem?_eq_some_iff.mp h).1
  obtain ⟨l0, hb0, bo0⟩ := gr.bag
  have hb : (s1 ++ [.lst (R.map rowA)] : Sto)[b]? = some (.lst l0) := by rw [List.getElem?_append_left bl1]; exact hb0
  have hc : (s1 ++ [.lst (R.map rowA)] : Sto)[s1.length]? = some (.lst (R.map rowA)) := by simp
  have g12 : ∀ l, BagOk l → Gr s1 ((s1 ++ [.lst (R.map rowA)] : Sto).set b (.lst l)) b := fun l k => ⟨⟨l, List.getElem?_set_self (by simp; omega), k⟩, by simp, fun k ne hk => by
    rw [List.getElem?_set_ne (Ne.symm ne), List.getElem?_append_left hk]⟩
  have li : listA true [rowsA R] s1 = some (.ref s1.length, s1 ++ [.lst (R.map rowA)]) := rfl
  have l2len : (s1 ++ [.lst (R.map rowA)] : Sto).length = s1.length + 1 := by simp
  generalize (s1 ++ [.lst (R.map rowA)] : Sto) = s2 at hb hc g12 li l2len
  have bl2 : b < s2.length := by omega
  have hbc : b ≠ s1.length := by omega
  obtain ⟨r1, l1, e1, p1, p1', k1⟩ := take_eq (many := 3) hb bo0 (by decide) (by decide)
  have hc1 : ∀ l, (s2.set b (.lst l))[s1.length]? = some (.lst (R.map rowA)) := fun l => by rw [List.getElem?_set_ne hbc]; exact hc
  have ec' : f__law_chart [.ref b, handsA n, .int 4] s = .ok (rowsA R) s1 := ec
  by_cases z : 0 < r1
  · have B1 : (s2.set b (.lst l1))[b]? = some (.lst l1) := List.getElem?_set_self bl2
    obtain ⟨r2, lb, e2, p2, p2', k2⟩ := take_eq (many := (n : Int)) B1 k1 (by omega) (by omega)
    rw [List.set_set] at e2
    obtain ⟨h, rfl⟩ : ∃ k : Nat, r2 = (k : Int) := ⟨r2.toNat, (Int.toNat_of_nonneg p2).symm⟩
    have hn : h < n := by omega
    have hL : h < R.length := by rw [own.len]; exact hn
    have rz := own.sz _ (own.toWf.row hn).2
    obtain ⟨a, s3', ⟨T', l3, rfl, pm, k3, rfl⟩, e3⟩ := mixed_eq (s := s2.set b (.lst lb)) evA (tks (R.getD h [])) (by have := List.length_filter_le (fun e : Ev => !e.g) (R.getD h []); unfold tks; omega) ⟨lb, List.getElem?_set_self bl2, k2⟩
    rw [List.set_set, List.length_set] at e3
    obtain ⟨e', s', el, N, U, c, he, hs, hN, hM⟩ := loose_loop (s3 := s2.set b (.lst l3)) (row := R.getD h []) (T' := T') (a0 := some (.ref b)) (a1 := some (handsA n)) (a2 := some (.ref s1.length)) (a3 := some (.int (h : Nat))) (a6 := none) (fun x hx => (List.mem_filter.mp ((pm.mem_iff).mp hx)).1) pm.length_eq (by omega)
    rw [List.length_set] at el he
    subst he hs
    have i1 : ∀ l, ixA (.ref s1.length) (.int (h : Nat)) (s2.set b (.lst l)) = some (rowA (R.getD h []), s2.set b (.lst l)) := fun l => ixA_ref (hc1 l) (atI_some (by rw [List.getElem?_map, (own.toWf.row hn).1]; rfl))
    have cl : s1.length < s2.length := by omega
    have ap2 : ∀ l (X : Sto), (s2.set b (.lst l) ++ X)[s1.length]? = some (.lst (R.map rowA)) := fun l X => by rw [List.getElem?_append_left (by rw [List.length_set]; exact cl)]; exact hc1 l
    have i2 : ∀ l (X : Sto), ixA (.ref s1.length) (.int (h : Nat)) (s2.set b (.lst l) ++ X) = some (rowA (R.getD h []), s2.set b (.lst l) ++ X) := fun l X => ixA_ref (ap2 l X) (atI_some (by rw [List.getElem?_map, (own.toWf.row hn).1]; rfl))
    let s5 : Sto := s2.set b (.lst l3) ++ [.lst U, .lst (N.map evA)]
    have w5 : s5[s2.length + 1]? = some (.lst (N.map evA)) := by
      show (s2.set b (.lst l3) ++ [.lst U, .lst (N.map evA)] : Sto)[s2.length + 1]? = _
      rw [List.getElem?_append_right (by simp)]; simp
    have tu5 : tupleA false [.ref (s2.length + 1)] s5 = some (rowA N, s5) := x_tupR (st := false) w5
    have c5 : s5[s1.length]? = some (.lst (R.map rowA)) := ap2 _ _
    have lenm : (R.map rowA).length = n := by rw [List.length_map]; exact own.len
    have se : setA (.ref s1.length) (.int (h : Nat)) (rowA N) s5 = some (s5.set s1.length (.lst ((R.set h N).map rowA))) := by
      have ix : L2.ixN (R.map rowA).length (h : Int) = some h := ixN_nat (by omega)
      simp only [setA, c5, ix]
      rw [List.map_set]
    have c6 : (s5.set s1.length (.lst ((R.set h N).map rowA)))[s1.length]? = some (.lst ((R.set h N).map rowA)) := List.getElem?_set_self (List.getElem?_eq_some_iff.mp c5).1
    have tu6 : tupleA false [.ref s1.length] (s5.set s1.length (.lst ((R.set h N).map rowA))) = some (rowsA (R.set h N), s5.set s1.length (.lst ((R.set h N).map rowA))) := x_tupR (st := false) c6
    have g5 : Gr s2 s5 b := ⟨⟨l3, by
      show (s2.set b (.lst l3) ++ [.lst U, .lst (N.map evA)] : Sto)[b]? = _
      rw [List.getElem?_append_left (by rw [List.length_set]; exact bl2)]; exact List.getElem?_set_self bl2, k3⟩, by simp [s5], fun k ne hk => by
      show (s2.set b (.lst l3) ++ [.lst U, .lst (N.map evA)] : Sto)[k]? = _
      rw [List.getElem?_append_left (by rw [List.length_set]; exact hk), List.getElem?_set_ne (Ne.symm ne)]⟩
    refine ⟨R.set h N, s5.set s1.length (.lst ((R.set h N).map rowA)), ⟨own_rep own hn hN hM, by rw [total_rep hL hN]; exact tot, gr.trans ⟨⟨l3, ?_, k3⟩, ?_, ?_⟩⟩, ?_⟩
    · rw [List.getElem?_set_ne (Ne.symm hbc)]
      show (s2.set b (.lst l3) ++ [.lst U, .lst (N.map evA)] : Sto)[b]? = _
      rw [List.getElem?_append_left (by rw [List.length_set]; exact bl2)]; exact List.getElem?_set_self bl2
    · simp [s5]; omega
    · intro k ne hk
      rw [List.getElem?_set_ne (by omega), g5.keep k ne (by omega)]
      have := (g12 l3 k3).keep k ne hk
      rwa [List.getElem?_set_ne (Ne.symm ne)] at this
    · have fl : ∀ s, lcC (.nm 6) (asB (eOp (eqA false) (eOp ixA (eVar 6) (eC (.int 0))) (eC (.str "take")))) (eVar 6) [6] ⟨(R.getD h []).map evA, []⟩ [some (.ref b), some (handsA n), some (.ref s1.length), some (.int (h : Nat)), none, none, none] s = .ok (.lst ((tks (R.getD h [])).map evA)) s := fun s => by
        rw [lc_map (gd := []) (R.getD h []) evA (fun e => !e.g) evA rfl (by simp) (by omega) (fun x hx => ⟨_, rfl, by
          have i0 : ∀ s, ixA (evA x) (.int 0) s = some (.str (wdS x.g), s) := fun s => ixA_tup rfl
          have wq := fun s => wd_take x.g false s
          simp -implicitDefEqProofs [wipeA, i0, wq], fun _ => by simp -implicitDefEqProofs [wipeA]⟩)]
        rfl
      rw [e__law_loose]
      unfold m__law_loose
      generalize R.getD h [] = R1 at *
      have sp : (s2.set b (.lst l3) ++ [.lst (T'.map evA)] : Sto) ++ [.lst []] = s2.set b (.lst l3) ++ [.lst (T'.map evA), .lst []] := by simp
      have el' : forC (.nm 6) (sExpr (eBMT "list" appendA (eVar 5) (aCons (eIf (asB (eOp (eqA false) (eOp ixA (eVar 6) (eC (.int 0))) (eC (.str "give")))) (eVar 6) (eBMT "list" popA (eVar 4) aNil)) aNil))) ⟨R1.map evA, []⟩ [some (.ref b), some (handsA n), some (.ref s1.length), some (.int (h : Nat)), some (.ref s2.length), some (.ref (s2.length + 1)), none] (s2.set b (.lst l3) ++ [.lst (T'.map evA), .lst []]) = .nx _ s5 := el
      simp -implicitDefEqProofs [-List.map_append, -List.map_set, ec', li, e1, z, e2, hands_len, i1, row_src, fl, e3, i2, el', tu5, se, tu6]
  · refine ⟨R, s2.set b (.lst l1), ⟨own, tot, gr.trans (g12 l1 k1)⟩, ?_⟩
    have tu := x_tupR (st := false) (hc1 l1)
    rw [e__law_loose]
    unfold m__law_loose
    generalize s2.set b (.lst l1) = s4 at e1 tu ⊢
    simp -implicitDefEqProofs [ec', li, e1, z, tu]
    rfl
end K76
end S
set_option Elab.async false
set_option linter.all false
set_option maxRecDepth 100000
set_option maxHeartbeats 4000000
/-! Mathematics, N.E: a lot. -/
namespace S
namespace K76
open PySem PySem.Spec PyProof.Rows L2 Pm
theorem fault_eq {n : Nat} {rs : Rows} {m : Bool} {s : Sto} (w : Own n rs) (h2 : 2 ≤ n) (ht : total rs ≤ 60) (d : due m rs) : ∃ t, f_fault_of [handsA n, mnA m, rowsA rs] s = .ok .non (s ++ t) := by
  obtain ⟨t, h, _⟩ := checked_chart_eq (m := m) (s := s) w h2 ht
  refine ⟨t, ?_⟩
  have h := h d
  rw [e_fault_of]
  unfold m_fault_of
  have b : sExpr (eFn f_checked_chart (aCons (eVar 0) (aCons (eVar 1) (aCons (eVar 2) aNil)))) [some (handsA n), some (mnA m), some (rowsA rs), none] s = .nx [some (handsA n), some (mnA m), some (rowsA rs), none] (s ++ t) := by
    simp -implicitDefEqProofs [h]
  have tn : sTryN (sExpr (eFn f_checked_chart (aCons (eVar 0) (aCons (eVar 1) (aCons (eVar 2) aNil))))) [some (handsA n), some (mnA m), some (rowsA rs), none] s = .nx [some (handsA n), some (mnA m), some (rowsA rs), none] (s ++ t) := by
    unfold sTryN; rw [b]
  simp -implicitDefEqProofs [tn]
theorem is_lot_eq {n : Nat} {rs : Rows} {m : Bool} {s : Sto} (w : Own n rs) (h2 : 2 ≤ n) : f_is_lot_form [.tup [handsA n, mnA m, .tup [rowsA rs]]] s = .ok (.bl true) s := by
  have sz := is_sized_eq (k := 3) (xs := [handsA n, mnA m, .tup [rowsA rs]]) rfl s (.tup [handsA n, mnA m, .tup [rowsA rs]]) (.inl rfl)
  have sz' : f_is_sized [.tup [handsA n, mnA m, .tup [rowsA rs]], .int 3] s = .ok (.bl true) s := sz
  have hh := is_hands_eq h2 w.le s
  have t := tuple_of (hn := "is_rows") (fm := f_is_rows) (l := [rs]) (enc := rowsA) (s := s) (by simp) (fun x hx => by rw [List.mem_singleton.mp hx]; exact is_rows_eq w.toWf s) (.tup [rowsA rs]) (.inl rfl)
  have t' : f_is_tuple_of_of_is_rows [.tup [rowsA rs], .fn "is_rows"] s = .ok (.bl true) s := t
  have i0 : ixA (.tup [handsA n, mnA m, .tup [rowsA rs]]) (.int 0) s = some (handsA n, s) := ixA_tup rfl
  have i1 : ixA (.tup [handsA n, mnA m, .tup [rowsA rs]]) (.int 1) s = some (mnA m, s) := ixA_tup rfl
  have i2 : ixA (.tup [handsA n, mnA m, .tup [rowsA rs]]) (.int 2) s = some (.tup [rowsA rs], s) := ixA_tup rfl
  have is : isA TN.str (mnA m) = some true := rfl
  rw [e_is_lot_form]
  unfold m_is_lot_form
  simp -implicitDefEqProofs [sz', hh, t', i0, i1, i2, is]
end K76
end S
set_option Elab.async false
set_option linter.all false
set_option maxRecDepth 100000
set_option maxHeartbeats 4000000
/-! Mathematics, N.F: a checked lot. -/
namespace S
namespace K76
open PySem PySem.Spec PyProof.Rows L2 Pm
theorem lens_all {R : Rows} {n : Nat} (hl : R.length = n) : (List.range n).map (fun h => (R.getD h []).length) = R.map List.length := by
  subst hl
  apply List.ext_getElem
  · simp
  · intro i h1 h2
    simp at h1
    simp [List.getD, h1]
theorem checked_lot_eq {n : Nat} {rs : Rows} {m : Bool} {s : Sto} (w : Own n rs) (h2 : 2 ≤ n) (ht : total rs ≤ 60) (d : due m rs) : ∃ t, f_checked_lot [.tup [handsA n, mnA m, .tup [rowsA rs]]] s = .ok (.tup [handsA n, mnA m, .tup [rowsA rs]]) (s ++ t) := by
  obtain ⟨t, hf⟩ := fault_eq (s := s) w h2 ht d
  refine ⟨t, ?_⟩
  have lf := is_lot_eq (m := m) (s := s) w h2
  have c : (["order", "any"] : List Str).contains (mnS m) = true := by cases m <;> decide +kernel
  have g : ∀ e s, inGC true ["order", "any"] (mnA m) e s = .ok (.bl false) s := fun e s => by
    show Res.ok (AV.bl (!(["order", "any"] : List Str).contains (mnS m))) s = _
    rw [c]; rfl
  have pe : ∀ e : Ev, Pl 1 (evA e) (.tuple [.str (wdS e.g), .str (hnS e.o), .str (ltS e.l)]) := fun e => .tup (.cons (.str (by cases e.g <;> decide +kernel) 0) (.cons (.str (hnS_ok _) 0) (.cons (.str (ltS_ok _) 0) (.nil 0))))
  have pr : Pl 3 (rowsA rs) (.tuple (rs.map fun r => .tuple (r.map fun e => .tuple [.str (wdS e.g), .str (hnS e.o), .str (ltS e.l)]))) := .tup (Pls.map rs fun r _ => .tup (Pls.map r fun e _ => pe e))
  have nn : ∀ s, eqA false (.tup [rowsA rs]) (.tup []) s = some (.bl false, s) := fun s => by
    have := eqA_pl (p := False) false ((Pl.tup (.cons pr (.nil 3))).s (s := s)) ((Pl.tup (Pls.nil 0)).s (s := s)) (by simp)
    simpa using this
  have cz : cutL [rowsA rs] (some 1) none = [] := rfl
  have zs : zS1 true true (.ok [.tup [rowsA rs], .tup []] s) = .ok ⟨[], []⟩ s := zS1_ok (u := ⟨[rowsA rs], []⟩) (v := ⟨[], []⟩) rfl rfl rfl rfl
  have ns : nS1 true (.ok [.tup [rowsA rs]] s) = .ok ⟨[.tup [.int 0, rowsA rs]], []⟩ s := nS1_ok (u := ⟨[rowsA rs], []⟩) rfl rfl
  have le : ∀ (e : AE), lcC (.tp [8, 9]) yesM (eOp (ordA ltD) (eVar 8) (eVar 9)) [8, 9] ⟨[], []⟩ e s = .ok (.lst []) s := fun e => by
    rw [lc_all (xs := []) (gd := []) ([] : List Nat) natA natA rfl (by simp) (by simp) (fun x hx => by cases hx)]; rfl
  have al : allA [.lst []] s = some (.bl true, s) := rfl
  have fo : forC (.tp [4, 5]) (sSeq (sSet 6 (eFn f_fault_of (aCons (eVar 1) (aCons (eVar 2) (aCons (eVar 5) aNil))))) (sIf (asB (eOp (isNA true) (eVar 6) (eC .non))) sNever sPass)) ⟨[.tup [.int 0, rowsA rs]], []⟩ [some (.tup [handsA n, mnA m, .tup [rowsA rs]]), some (handsA n), some (mnA m), some (.tup [rowsA rs]), none, none, none, none, none, none] s =
      .nx [some (.tup [handsA n, mnA m, .tup [rowsA rs]]), some (handsA n), some (mnA m), some (.tup [rowsA rs]), some (.int 0), some (rowsA rs), some .non, none, none, none] (s ++ t) := by
    have ok : ∀ s : Sto, Src.ok ⟨[.tup [.int 0, rowsA rs]], []⟩ s := fun s q hq => by cases hq
    have st : setP (.tp [4, 5]) (.tup [.int 0, rowsA rs]) [some (.tup [handsA n, mnA m, .tup [rowsA rs]]), some (handsA n), some (mnA m), some (.tup [rowsA rs]), none, none, none, none, none, none] = some [some (.tup [handsA n, mnA m, .tup [rowsA rs]]), some (handsA n), some (mnA m), some (.tup [rowsA rs]), some (.int 0), some (rowsA rs), none, none, none, none] := rfl
    show forGo _ _ _ _ _ _ = _
    rw [forGo, if_pos (ok s), st]
    dsimp only
    have isn : isNA true .non .non (s ++ t) = some (.bl false, s ++ t) := rfl
    have bd : (sSeq (sSet 6 (eFn f_fault_of (aCons (eVar 1) (aCons (eVar 2) (aCons (eVar 5) aNil))))) (sIf (asB (eOp (isNA true) (eVar 6) (eC .non))) sNever sPass)) [some (.tup [handsA n, mnA m, .tup [rowsA rs]]), some (handsA n), some (mnA m), some (.tup [rowsA rs]), some (.int 0), some (rowsA rs), none, none, none, none] s = .nx [some (.tup [handsA n, mnA m, .tup [rowsA rs]]), some (handsA n), some (mnA m), some (.tup [rowsA rs]), some (.int 0), some (rowsA rs), some .non, none, none, none] (s ++ t) := by
      simp -implicitDefEqProofs [hf, isn]
    rw [bd]
    dsimp only
    rw [forGo, if_pos (ok (s ++ t))]
  have lo : ∀ s, lcC (.nm 7) yesM (eCall maxA (aCons (eLc (iT (eVar 3)) (.nm 5) yesM (eCall lenA (aCons (eOp ixA (eVar 5) (eVar 7)) aNil)) [5]) aNil)) [7] ⟨(List.range n).map fun i => AV.int (i : Nat), []⟩ [some (.tup [handsA n, mnA m, .tup [rowsA rs]]), some (handsA n), some (mnA m), some (.tup [rowsA rs]), some (.int 0), some (rowsA rs), some .non, none, none, none] s = .ok (.lst ((rs.map List.length).map natA)) s := fun s => by
    rw [lc_all (xs := (List.range n).map fun i => AV.int (i : Nat)) (gd := []) (List.range n) natA (fun h => natA (rs.getD h []).length) rfl (by simp) (by have := w.le; simp; omega) (fun x hx => ⟨_, rfl, by
      have xn := List.mem_range.mp hx
      have ir := fun s => rows_at w.toWf xn s
      generalize rs.getD x [] = R1 at ir ⊢
      have ln : ∀ s, lenA [rowA R1] s = some (natA R1.length, s) := fun s => by simp only [lenA, seqA, rowA, Option.map_some, List.length_map]; rfl
      have mx : ∀ s, maxA [.lst [natA R1.length]] s = some (natA R1.length, s) := fun s => rfl
      have inn : ∀ e : AE, e.length = 10 → e[7]? = some (some (natA x)) → lcC (.nm 5) yesM (eCall lenA (aCons (eOp ixA (eVar 5) (eVar 7)) aNil)) [5] ⟨[rowsA rs], []⟩ e s = .ok (.lst [natA R1.length]) s := fun e el e7 => by
        match e, el with
        | [b0, b1, b2, b3, b4, b5, b6, b7, b8, b9], _ =>
          simp at e7
          subst e7
          rw [lc_all (xs := [rowsA rs]) (gd := []) [0] (fun _ : Nat => rowsA rs) (fun _ => natA R1.length) rfl (by simp) (by simp) (fun y hy => ⟨_, rfl, by
            have ir' : ∀ s, ixA (rowsA rs) (natA x) s = some (rowA R1, s) := ir
            simp -implicitDefEqProofs [wipeA, ir', ln]⟩)]
          rfl
      simp -implicitDefEqProofs [wipeA]
      rw [inn _ rfl rfl]
      simp -implicitDefEqProofs [mx]⟩), ← lens_all w.len, List.map_map]
    rfl
  have su := x_sumL (rs.map List.length)
  have h6 : (rs.map List.length).sum ≤ 60 := ht
  generalize rs.map List.length = ls at lo su h6
  have h7 : ¬ (60 < (ls.sum : Int)) := by omega
  rw [e_checked_lot]
  unfold m_checked_lot
  simp -implicitDefEqProofs [lf, g, nn, cz, zs, le, al, ns, fo, hands_len, rSrc_n (show n < 1000000 by have := w.le; omega), lo, su, h7]
end K76
end S
set_option Elab.async false
set_option linter.all false
set_option maxRecDepth 100000
set_option maxHeartbeats 4000000
/-! Mathematics, N.G: charts_in_order of a lot of one. -/
namespace S
namespace K76
open PySem PySem.Spec PyProof.Rows L2 Pm
theorem in_order_eq {n : Nat} {rs : Rows} {m : Bool} {s : Sto} (w : Own n rs) (h2 : 2 ≤ n) (ht : total rs ≤ 60) (d : due m rs) : ∃ t b, f_charts_in_order [.tup [handsA n, mnA m, .tup [rowsA rs]]] s = .ok (.tup (if b then [.int 0] else [])) (s ++ t) ∧ (b = true ↔ due true rs) := by
  obtain ⟨t1, e1⟩ := checked_lot_eq (s := s) w h2 ht d
  obtain ⟨t2, b, e2, hb⟩ := p_is_chart_eq (m := true) (s := s ++ t1) w h2 ht
  have e2' : f_is_chart [handsA n, .str "order", rowsA rs] (s ++ t1) = .ok (.bl b) (s ++ t1 ++ t2) := e2
  refine ⟨t1 ++ t2, b, ?_, hb⟩
  rw [← List.append_assoc]
  have ns : nS1 true (.ok [.tup [rowsA rs]] (s ++ t1)) = .ok ⟨[.tup [.int 0, rowsA rs]], []⟩ (s ++ t1) := nS1_ok (u := ⟨[rowsA rs], []⟩) rfl rfl
  have L : ∀ e : AE, e.length = 6 → e[1]? = some (some (handsA n)) → lcC (.tp [4, 5]) (asT (eFnN f_is_chart (aCons (eVar 1) (aCons (eC (.str "order")) (aCons (eVar 5) aNil))))) (eVar 4) [4, 5] ⟨[.tup [.int 0, rowsA rs]], []⟩ e (s ++ t1) = .ok (.lst (if b then [.int 0] else [])) (s ++ t1 ++ t2) := fun e el e0 => by
    match e, el with
    | [b0, b1, b2, b3, b4, b5], _ =>
      simp at e0
      subst e0
      have ok : ∀ s : Sto, Src.ok ⟨[.tup [.int 0, rowsA rs]], []⟩ s := fun s q hq => by cases hq
      have st : setP (.tp [4, 5]) (.tup [.int 0, rowsA rs]) (wipeA [b0, some (handsA n), b2, b3, b4, b5] [4, 5]) = some [b0, some (handsA n), b2, b3, some (.int 0), some (rowsA rs)] := rfl
      have tt : asT (eFnN f_is_chart (aCons (eVar 1) (aCons (eC (.str "order")) (aCons (eVar 5) aNil)))) [b0, some (handsA n), b2, b3, some (.int 0), some (rowsA rs)] (s ++ t1) = .ok b (s ++ t1 ++ t2) := by
        simp -implicitDefEqProofs [-List.append_assoc, e2', fnNC, noX]
      show lcGo _ _ _ _ _ _ _ _ = _
      rw [lcGo, if_pos (ok _), st]
      dsimp only
      rw [tt]
      cases b with
      | true =>
        have te : eVar 4 [b0, some (handsA n), b2, b3, some (.int 0), some (rowsA rs)] (s ++ t1 ++ t2) = .ok (.int 0) (s ++ t1 ++ t2) := rfl
        dsimp only
        rw [te]
        dsimp only
        rw [if_pos (by decide), lcGo, if_pos (ok _)]
        rfl
      | false =>
        dsimp only
        rw [lcGo, if_pos (ok _)]
        rfl
  rw [e_charts_in_order]
  unfold m_charts_in_order
  simp -implicitDefEqProofs [-List.append_assoc, e1, ns]
  rw [L _ rfl rfl]
  simp -implicitDefEqProofs [-List.append_assoc]
end K76
end S
set_option Elab.async false
set_option linter.all false
set_option maxRecDepth 100000
set_option maxHeartbeats 4000000
/-! Mathematics, N.H: headed, plain. -/
namespace S
namespace Pm
/-- the turn from the stand st takes, if it takes, what lies first -/
def headT (rs : Rows) (st : List Nat) : Bool := match ready false rs st with
  | [] => true
  | h :: _ => match nxt rs st h with
    | some e => e.g || decide (((qS false rs st e.o h).getD []).head? = some e.l)
    | none => true
def headed (rs : Rows) (k : Nat) : Bool := (List.range k).all fun j => headT rs (gree false rs j).2
theorem headed_succ (rs : Rows) (k : Nat) : headed rs (k + 1) = (headed rs k && headT rs (gree false rs k).2) := by
  unfold headed
  rw [List.range_succ, List.all_append]
  simp
theorem gree_pre (m : Bool) (rs : Rows) (k : Nat) : ∃ x, (gree m rs (k + 1)).1 = (gree m rs k).1 ++ x := by
  show ∃ x, (gstep m rs (gree m rs k)).1 = _
  unfold gstep
  split
  · exact ⟨_, rfl⟩
  · exact ⟨[], by simp⟩
theorem gree_pres (m : Bool) (rs : Rows) (k : Nat) : ∀ j, ∃ x, (gree m rs (k + j)).1 = (gree m rs k).1 ++ x
  | 0 => ⟨[], by simp⟩
  | j + 1 => by
    obtain ⟨x, hx⟩ := gree_pres m rs k j
    obtain ⟨y, hy⟩ := gree_pre m rs (k + j)
    exact ⟨x ++ y, by rw [← Nat.add_assoc, hy, hx, List.append_assoc]⟩
end Pm
end S
set_option Elab.async false
set_option linter.all false
set_option maxRecDepth 100000
set_option maxHeartbeats 4000000
/-! Mathematics, N.I: unlike_takes. -/
namespace S
open PySem PySem.Spec PyProof.Rows L2
section
variable {p : Pat} {mb : SM} {t : TM} {α : Type}
/-- a while that ends behind T turns -/
theorem wh_for {T : Nat} (I : Nat → AE → Sto → Prop) (h1 : ∀ k e s, k < T → I k e s → t e s = .ok true s ∧ ∃ e2 s2, mb e s = .nx e2 s2 ∧ I (k + 1) e2 s2) (h2 : ∀ e s, I T e s → t e s = .ok false s) :
    ∀ (j k f : Nat) (e : AE) (s : Sto), k + j = T → j < f → I k e s → ∃ e' s', whC f t mb e s = .nx e' s' ∧ I T e' s' := by
  intro j
  induction j with
  | zero =>
    intro k f e s hk hf hI
    obtain ⟨f, rfl⟩ : ∃ f', f = f' + 1 := ⟨f - 1, by omega⟩
    have : k = T := by omega
    subst this
    refine ⟨e, s, ?_, hI⟩
    unfold whC
    rw [whGo, h2 e s hI]
    rfl
  | succ j ih =>
    intro k f e s hk hf hI
    obtain ⟨f, rfl⟩ : ∃ f', f = f' + 1 := ⟨f - 1, by omega⟩
    obtain ⟨a, e2, s2, b, c⟩ := h1 k e s (by omega) hI
    obtain ⟨e', s', q, r⟩ := ih (k + 1) f e2 s2 (by omega) (by omega) c
    refine ⟨e', s', ?_, r⟩
    unfold whC at q ⊢
    rw [whGo, a]
    simp only [Res.ok_sbind, if_true, b]
    exact q
theorem wh_tail {Q : AV → Sto → Prop} {I : AE → Sto → Prop} {mt : SM} {f : Nat} {e : AE} {s : Sto} (h : ∃ e' s', whC f t mb e s = .nx e' s' ∧ I e' s')
    (k : ∀ e' s', I e' s' → ∃ a x, Q a x ∧ fin (mt e' s') = .ok a x) : ∃ a x, Q a x ∧ fin (bQ (whC f t mb e s) mt) = .ok a x := by
  obtain ⟨e', s', h1, h2⟩ := h
  rw [h1]
  exact k e' s' h2
/-- a loop that may end early by a return -/
theorem ret_go {src : Src} (hs : src.gd = []) (enc : α → AV) (whole : List α) (V : AV) (I : List α → AE → Sto → Prop) (J : Sto → Prop)
    (h : ∀ pre x post e s, pre ++ x :: post = whole → I pre e s → ∃ e1, setP p (enc x) e = some e1 ∧ ((∃ e2 s2, mb e1 s = .nx e2 s2 ∧ I (pre ++ [x]) e2 s2) ∨ ∃ s2, mb e1 s = .rt V s2 ∧ J s2)) :
    ∀ (post pre : List α) (e : AE) (s : Sto), I pre e s → pre ++ post = whole → (∃ e' s', forGo src p mb (post.map enc) e s = .nx e' s' ∧ I whole e' s') ∨ ∃ s', forGo src p mb (post.map enc) e s = .rt V s' ∧ J s'
  | [], pre, e, s, hI, hw => .inl ⟨e, s, by
      have ok : src.ok s := by intro q hq; rw [hs] at hq; cases hq
      simp [forGo, ok], by rw [← hw, List.append_nil]; exact hI⟩
  | x :: post, pre, e, s, hI, hw => by
    have ok : src.ok s := by intro q hq; rw [hs] at hq; cases hq
    obtain ⟨e1, h1, h2⟩ := h pre x post e s hw hI
    rw [List.map_cons, forGo, if_pos ok, h1]
    dsimp only
    rcases h2 with ⟨e2, s2, h2, h3⟩ | ⟨s2, h2, h3⟩
    · rw [h2]
      exact ret_go hs enc whole V I J h post (pre ++ [x]) e2 s2 h3 (by rw [List.append_assoc]; exact hw)
    · rw [h2]
      exact .inr ⟨s2, rfl, h3⟩
theorem ret_for (enc : α → AV) (whole : List α) (V : AV) {e : AE} {s : Sto} (I : List α → AE → Sto → Prop) (J : Sto → Prop) (hI : I [] e s)
    (h : ∀ pre x post e s, pre ++ x :: post = whole → I pre e s → ∃ e1, setP p (enc x) e = some e1 ∧ ((∃ e2 s2, mb e1 s = .nx e2 s2 ∧ I (pre ++ [x]) e2 s2) ∨ ∃ s2, mb e1 s = .rt V s2 ∧ J s2)) :
    (∃ e' s', forC p mb ⟨whole.map enc, []⟩ e s = .nx e' s' ∧ I whole e' s') ∨ ∃ s', forC p mb ⟨whole.map enc, []⟩ e s = .rt V s' ∧ J s' :=
  ret_go (src := ⟨whole.map enc, []⟩) rfl enc whole V I J h whole [] e s hI rfl
theorem ret_tail {Q : AV → Sto → Prop} {I : AE → Sto → Prop} {J : Sto → Prop} {V : AV} {mt : SM} {xs : List AV} {gd : List (Nat × AO)} {e : AE} {s : Sto} (h : (∃ e' s', forC p mb ⟨xs, gd⟩ e s = .nx e' s' ∧ I e' s') ∨ ∃ s', forC p mb ⟨xs, gd⟩ e s = .rt V s' ∧ J s')
    (k1 : ∀ e' s', I e' s' → ∃ a x, Q a x ∧ fin (mt e' s') = .ok a x) (k2 : ∀ s', J s' → Q V s') : ∃ a x, Q a x ∧ fin (bQ (forC p mb ⟨xs, gd⟩ e s) mt) = .ok a x := by
  rcases h with ⟨e', s', h1, h2⟩ | ⟨s', h1, h2⟩
  · rw [h1]; exact k1 e' s' h2
  · rw [h1]; exact ⟨V, s', k2 s' h2, rfl⟩
end
namespace K76
open PySem PySem.Spec PyProof.Rows L2 Pm
theorem eq_lt (a b : Lt) (n : Bool) (s : Sto) : eqA n (ltA a) (ltA b) s = some (.bl (if n then !decide (a = b) else decide (a = b)), s) := by
  show eqA n (.str (ltS a)) (.str (ltS b)) s = _
  rw [eqA_str n (ltS_ok a) (ltS_ok b)]
  have : ltS a = ltS b ↔ a = b := ⟨ltS_inj, fun e => by rw [e]⟩
  simp only [this]
def prA (q : Nat × Nat) : AV := .tup [natA q.1, natA q.2]
def prD (q : Nat × Nat) : PyData := .tuple [.int (q.1 : Nat), .int (q.2 : Nat)]
theorem pl_pr (x : Nat × Nat) : Pl 1 (prA x) (prD x) := Pl.tup (.cons (.int _ 0) (.cons (.int _ 0) (.nil 0)))
theorem sort_pr (F : List (Nat × Nat)) (h : F.length ≤ 1000) : sortOk (F.map prA) = true := by
  have en : ∀ x, encA (prA x) = prD x := fun x => by unfold encA; rw [(pl_pr x).1]; rfl
  unfold sortOk
  simp only [Bool.and_eq_true, Bool.or_eq_true, List.all_eq_true, decide_eq_true_eq, Bool.not_eq_true']
  refine ⟨⟨fun a ha => ?_, by rw [List.length_map]; omega⟩, .inl (.inl fun a ha => ?_)⟩
  · obtain ⟨x, _, rfl⟩ := List.mem_map.mp ha
    refine ⟨⟨⟨by rw [(pl_pr x).1]; rfl, ?_⟩, ?_⟩, fun b hb => ?_⟩
    · rw [en]; have := (pl_pr x).2.2; omega
    · rw [en]; rfl
    · obtain ⟨y, _, rfl⟩ := List.mem_map.mp hb
      rw [en, en]
      simp [prD, PySem.W.alike, PySem.W.alikeAll]
  · obtain ⟨x, _, rfl⟩ := List.mem_map.mp ha
    rw [en]; rfl
def St5 (s : Sto) (n : Nat) (m : Bool) (rs : Rows) (st : List Nat) (D : Dq) (xs : List AV) : Sto := s ++ [.ins "Playing" (plF n m rs (s.length + 1) (s.length + 2)), .lst (st.map natA), .dT (dA D), .lst xs]
section
variable {n : Nat} {m : Bool} {rs : Rows} {st st' : List Nat} {D D' : Dq} {s : Sto} {xs : List AV} {e : AE}
theorem st5_at : PAt (St5 s n m rs st D xs) s.length (s.length + 1) (s.length + 2) n m rs st D := by
  unfold St5
  refine ⟨get_mid, ?_, ?_⟩
  · rw [List.getElem?_append_right (by omega), show s.length + 1 - s.length = 1 by omega]; rfl
  · rw [List.getElem?_append_right (by omega), show s.length + 2 - s.length = 2 by omega]; rfl
theorem st5_o : (St5 s n m rs st D xs)[s.length + 3]? = some (.lst xs) := by
  unfold St5
  rw [List.getElem?_append_right (by omega), show s.length + 3 - s.length = 3 by omega]; rfl
theorem st5_go : goS (St5 s n m rs st D xs) (s.length + 1) (s.length + 2) st' D' = St5 s n m rs st' D' xs := by
  unfold goS St5
  rw [List.set_append_right _ _ (by omega), show s.length + 2 - s.length = 2 by omega, List.set_append_right _ _ (by omega), show s.length + 1 - s.length = 1 by omega]
  rfl
theorem st5_app (hl : xs.length ≤ 1000) (a : AV) : appendA (.ref (s.length + 3)) [a] (St5 s n m rs st D xs) = some (.non, St5 s n m rs st D (xs ++ [a])) := by
  simp only [appendA, st5_o]
  rw [if_pos (by omega)]
  unfold St5
  rw [List.set_append_right _ _ (by omega), show s.length + 3 - s.length = 3 by omega]
  rfl
def UI (s : Sto) (n : Nat) (rs : Rows) (k : Nat) (e : AE) (s' : Sto) : Prop :=
  ∃ (D : Dq) (F : List (Nat × Nat)) (c5 c6 c7 : Option AV), DQ false n rs (gree false rs k).2 D ∧ F.length ≤ k ∧ (F = [] ↔ headed rs k = true) ∧
    e = [some (handsA n), some (rowsA rs), some (.ref s.length), some (.ref (s.length + 3)), some (.lst ((ready false rs (gree false rs k).2).map natA)), c5, c6, c7] ∧
    s' = St5 s n false rs (gree false rs k).2 D (F.map prA)
theorem unlike_eq (w : Own n rs) (h2 : 2 ≤ n) (ht : total rs ≤ 60) (du : due false rs) : ∃ t a, f_unlike_takes [handsA n, rowsA rs] s = .ok a (s ++ t) ∧ ∀ s', eqA false a (.tup []) s' = some (.bl (headed rs (total rs)), s') := by
  have le := w.le
  have c0 := fun s => check_hands_eq h2 w.le s
  obtain ⟨t1, hc, _⟩ := checked_chart_eq (m := false) (s := s) w h2 ht
  have hc := hc du
  have hc' : f_checked_chart [handsA n, .str "any", rowsA rs] s = .ok (rowsA rs) (s ++ t1) := hc
  generalize hs1 : s ++ t1 = s1 at hc'
  suffices H : ∃ a x, (∃ t, x = s1 ++ t ∧ ∀ s', eqA false a (.tup []) s' = some (.bl (headed rs (total rs)), s')) ∧ f_unlike_takes [handsA n, rowsA rs] s = .ok a x by
    obtain ⟨a, x, ⟨t, rfl, h⟩, e⟩ := H
    exact ⟨t1 ++ t, a, by rw [e, ← hs1, List.append_assoc], h⟩
  have cmp : Comp false rs := (gree_full w).mp du.1
  have st0 : s1 ++ [.ins "Playing" (plF n false rs (s1.length + 1) (s1.length + 2)), .lst ((zeros n).map natA), .dT []] ++ [.lst []] = St5 s1 n false rs (zeros n) [] [] := by simp [St5, dA]
  have l3 : (s1 ++ [AO.ins "Playing" (plF n false rs (s1.length + 1) (s1.length + 2)), .lst ((zeros n).map natA), .dT []]).length = s1.length + 3 := by simp
  have mk := fun e => x_mkC (e := e) (init_eq (s := s1) (n := n) (m := false) (rs := rs) le)
  have mk : ∀ e, mkC "Playing" f_Playing___init__ [handsA n, .str "any", rowsA rs] e s1 = _ := mk
  have v0 : Vd false n rs (zeros n) := .zeros w
  have re := ready_eq (st5_at (s := s1) (n := n) (m := false) (rs := rs) (st := zeros n) (D := []) (xs := [])) w v0 (.zeros w)
  have mtR := fun (st : List Nat) (D : Dq) (xs : List AV) e ms => x_methC (e := e) (ms := ms) (fm := f_Playing_ready) (m := "ready") (st5_at (s := s1) (n := n) (m := false) (rs := rs) (st := st) (D := D) (xs := xs)).o (pl_m _ (by decide) (by decide) (by decide) (by decide) (by decide))
  have mtG := fun (st : List Nat) (D : Dq) (xs : List AV) e ms => x_methC (e := e) (ms := ms) (fm := f_Playing_go) (m := "go") (st5_at (s := s1) (n := n) (m := false) (rs := rs) (st := st) (D := D) (xs := xs)).o (pl_m _ (by decide) (by decide) (by decide) (by decide) (by decide))
  have mtN := fun (st : List Nat) (D : Dq) (xs : List AV) e ms => x_methC (e := e) (ms := ms) (fm := f_Playing_next_event) (m := "next_event") (st5_at (s := s1) (n := n) (m := false) (rs := rs) (st := st) (D := D) (xs := xs)).o (pl_m _ (by decide) (by decide) (by decide) (by decide) (by decide))
  rw [e_unlike_takes]
  unfold m_unlike_takes
  generalize hs3 : s1 ++ [AO.ins "Playing" (plF n false rs (s1.length + 1) (s1.length + 2)), .lst ((zeros n).map natA), .dT []] = s3 at st0 l3 mk
  simp -implicitDefEqProofs [-exists_and_left, -exists_and_right, startA, c0, hc', mk, l3, st0, mtR, re]
  have g0 : gree false rs 0 = ([], zeros n) := by simp [gree, w.len]
  refine wh_tail (I := UI s1 n rs (total rs)) (wh_for (UI s1 n rs) ?step ?stop (total rs) 0 1000 _ _ (by omega) (by omega) ⟨[], [], none, none, none, by rw [g0]; exact .zeros w, by simp, by simp [headed], by rw [g0], by rw [g0]; rfl⟩) ?fin
  case stop =>
    rintro e s' ⟨D, F, c5, c6, c7, d, fl, fh, rfl, rfl⟩
    have v := gree_vd (m := false) w (total rs)
    have : ready false rs (gree false rs (total rs)).2 = [] := by rw [du.1]; exact ready_full w
    rw [this]
    have q := fun s => ne_natsL [] s
    simp only [List.map_nil] at q
    simp -implicitDefEqProofs [q]
  case fin =>
    rintro e s' ⟨D, F, c5, c6, c7, d, fl, fh, rfl, rfl⟩
    have so := sort_pr F (by omega)
    have sa : sortedA [.ref (s1.length + 3)] (St5 s1 n false rs (gree false rs (total rs)).2 D (F.map prA)) = some (.lst (sortAV (F.map prA)), St5 s1 n false rs (gree false rs (total rs)).2 D (F.map prA)) := by
      show ((litA some [.ref (s1.length + 3)] _).bind fun xs => if sortOk xs then some (AV.lst (sortAV xs), _) else none) = _
      simp only [litA, lstA, st5_o, Option.bind_some, so, if_true]
    refine ⟨.tup (sortAV (F.map prA)), _, ⟨_, rfl, fun s' => ?_⟩, by simp -implicitDefEqProofs [sa]; rfl⟩
    have sm : ∀ a ∈ sortAV (F.map prA), ∃ d, Pl 1 a d := fun a ha => by
      unfold sortAV at ha
      rw [List.mem_mergeSort] at ha
      obtain ⟨y, _, rfl⟩ := List.mem_map.mp ha
      exact ⟨_, pl_pr y⟩
    have sn : sortAV (F.map prA) = [] ↔ F = [] := by
      unfold sortAV
      rw [← List.length_eq_zero_iff, List.length_mergeSort, List.length_map, List.length_eq_zero_iff]
    obtain ⟨ds, hp, hz⟩ := pls_of (n := 1) _ sm
    rw [eqA_pl (p := headed rs (total rs) = true) false ((Pl.tup hp).s (s := s')) ((Pl.tup (Pls.nil 0)).s (s := s')) (by rw [PyData.tuple.injEq, hz, sn, fh])]
    simp
  case step =>
    rintro k e s' hk ⟨D, F, c5, c6, c7, d, fl, fh, rfl, rfl⟩
    have v := gree_vd (m := false) w k
    have su := gree_sum w cmp k (by omega)
    have hne : (gree false rs k).2 ≠ full rs := fun z => by
      have : (full rs).sum = total rs := rfl
      rw [← z] at this
      omega
    have hr := comp_ready w cmp v hne
    obtain ⟨h, r, hr⟩ := List.exists_cons_of_ne_nil hr
    have hm : h ∈ ready false rs (gree false rs k).2 := by rw [hr]; simp
    obtain ⟨hh, he⟩ := mem_ready.mp hm
    obtain ⟨ev, hn, ho⟩ := en_nxt he
    have gs : gree false rs (k + 1) = ((gree false rs k).1 ++ [h], adv (gree false rs k).2 h) := by
      show gstep false rs (gree false rs k) = _
      unfold gstep
      rw [hr]
    have hd : headed rs (k + 1) = (headed rs k && headT rs (gree false rs k).2) := headed_succ rs k
    have hT : headT rs (gree false rs k).2 = (ev.g || decide (((qS false rs (gree false rs k).2 ev.o h).getD []).head? = some ev.l)) := by
      unfold headT
      rw [hr]
      dsimp only
      rw [hn]
    rw [hT] at hd
    generalize (gree false rs k).1 = o at gs
    generalize (gree false rs k).2 = st at d v hr hm he hn ho gs hd
    rw [hr]
    refine ⟨by
      have q := fun s => ne_natsL (h :: r) s
      simp only [List.map_cons] at q ⊢
      simp -implicitDefEqProofs [q], ?_⟩
    have hhn := nxt_h w hn
    have sl : h < st.length := by rw [v.len]; exact hhn
    obtain ⟨o1, o2⟩ := nxt_o w hn
    have d' := d.go w v hn ho
    have ne := fun xs => next_eq (st5_at (s := s1) (n := n) (m := false) (rs := rs) (st := st) (D := D) (xs := xs)) w v hhn
    rw [hn] at ne
    simp only [evO, evA] at ne
    have ge := fun xs => go_eq (st5_at (s := s1) (xs := xs)) w v d hn ho
    simp only [st5_go] at ge
    have re := fun xs => ready_eq (st5_at (s := s1) (n := n) (m := false) (rs := rs) (st := adv st h) (D := goD D h ev) (xs := xs)) w (v.adv w he) d'
    have ix : ∀ s, ixA (.lst ((h :: r).map natA)) (.int 0) s = some (.int (h : Nat), s) := fun s => ixA_lst (atI_some (k := 0) rfl)
    have ch : headed rs (k + 1) = (headed rs k && (ev.g || decide (((look D (ev.o, h)).getD []).head? = some ev.l))) := by
      rw [hd, d.val ev.o h o1 hhn o2]; rfl
    simp only [List.map_cons] at ix ⊢
    cases hg : ev.g with
    | true =>
      rw [hg] at ne ch
      simp only [Bool.true_or, Bool.and_true] at ch
      refine ⟨_, _, ?_, ⟨goD D h ev, F, some (.str "give"), some (.str (hnS ev.o)), some (.str (ltS ev.l)), by rw [gs]; exact d', by omega, by rw [ch]; exact fh, rfl, rfl⟩⟩
      rw [gs]
      have wt : ∀ s, eqA false (.str "give") (.str "take") s = some (.bl false, s) := fun s => wd_take true false s
      have ne : ∀ xs, f_Playing_next_event [.ref s1.length, .int (h : Nat)] (St5 s1 n false rs st D xs) = .ok (.tup [.str "give", .str (hnS ev.o), .str (ltS ev.l)]) (St5 s1 n false rs st D xs) := ne
      simp -implicitDefEqProofs [mtN, mtG, mtR, ix, ne, ge, re, wt]
    | false =>
      rw [hg] at ne ch
      simp only [Bool.false_or] at ch
      have wt : ∀ s, eqA false (.str "take") (.str "take") s = some (.bl true, s) := fun s => wd_take false false s
      have ne : ∀ xs, f_Playing_next_event [.ref s1.length, .int (h : Nat)] (St5 s1 n false rs st D xs) = .ok (.tup [.str "take", .str (hnS ev.o), .str (ltS ev.l)]) (St5 s1 n false rs st D xs) := ne
      have gd := fun xs => dg (st5_at (s := s1) (n := n) (m := false) (rs := rs) (st := st) (D := D) (xs := xs)) d le o1 hhn
      have av : ev.l ∈ (look D (ev.o, h)).getD [] := by
        unfold ok1 at ho
        rw [hg, d.val ev.o h o1 hhn o2] at ho
        simp only [Bool.false_or] at ho
        simpa [avail] using ho
      obtain ⟨q0, hq0⟩ : ∃ q, look D (ev.o, h) = some q := by
        cases hq : look D (ev.o, h) with
        | none => rw [hq] at av; cases av
        | some q => exact ⟨q, rfl⟩
      rw [hq0] at av gd ch
      simp only [Option.getD_some] at av ch
      obtain ⟨x, q, rfl⟩ : ∃ x q, q0 = x :: q := by
        cases q0 with
        | nil => cases av
        | cons x q => exact ⟨x, q, rfl⟩
      simp only [List.head?_cons, Option.some.injEq] at ch
      have q3 := fun xs e => x_fldC (e := e) (st5_at (s := s1) (n := n) (m := false) (rs := rs) (st := st) (D := D) (xs := xs)).o f_lying
      have q2 := fun xs e => x_fldC (e := e) (st5_at (s := s1) (n := n) (m := false) (rs := rs) (st := st) (D := D) (xs := xs)).o f_stand
      have hmn := fun s => hands_at hhn s
      have i1 : ∀ xs, ixA (.ref (s1.length + 2)) (.tup [.str (hnS ev.o), hnA h]) (St5 s1 n false rs st D xs) = some (tlA (x :: q), St5 s1 n false rs st D xs) := fun xs => by
        have := gd xs
        simp only [ixA]
        rw [show dgetA (.ref (s1.length + 2)) (.tup [.str (hnS ev.o), hnA h]) (St5 s1 n false rs st D xs) = _ from this]
        rfl
      have i2 : ∀ s, ixA (tlA (x :: q)) (.int 0) s = some (ltA x, s) := fun s => ixA_tpS (atI_some (k := 0) rfl)
      have el := fun s => eq_lt x ev.l true s
      have el : ∀ s, eqA true (ltA x) (.str (ltS ev.l)) s = _ := el
      have si := fun xs => ixA_nat (st5_at (s := s1) (n := n) (m := false) (rs := rs) (st := st) (D := D) (xs := xs)).sa sl
      have bm : ∀ xs, bmOk "list" (.ref (s1.length + 3)) (St5 s1 n false rs st D xs) = true := fun xs => by simp [bmOk, st5_o]
      by_cases c : x = ev.l
      · have dc : decide (x = ev.l) = true := decide_eq_true c
        rw [dc] at ch
        simp only [Bool.and_true] at ch
        refine ⟨_, _, ?_, ⟨goD D h ev, F, some (.str "take"), some (.str (hnS ev.o)), some (.str (ltS ev.l)), by rw [gs]; exact d', by omega, by rw [ch]; exact fh, rfl, rfl⟩⟩
        rw [gs]
        rw [dc] at el
        simp -implicitDefEqProofs [mtN, mtG, mtR, ix, ne, ge, re, wt, q3, hmn, i1, i2, el]
      · have dc : decide (x = ev.l) = false := decide_eq_false c
        rw [dc] at ch
        simp only [Bool.and_false] at ch
        refine ⟨_, _, ?_, ⟨goD D h ev, F ++ [(h, st.getD h 0)], some (.str "take"), some (.str (hnS ev.o)), some (.str (ltS ev.l)), by rw [gs]; exact d', by simp; omega, by rw [ch]; simp, rfl, rfl⟩⟩
        rw [gs]
        rw [dc] at el
        have ap := st5_app (s := s1) (n := n) (m := false) (rs := rs) (st := st) (D := D) (xs := F.map prA) (by rw [List.length_map]; omega) (prA (h, st.getD h 0))
        have ap : appendA (.ref (s1.length + 3)) [.tup [.int (h : Nat), .int (st.getD h 0 : Nat)]] (St5 s1 n false rs st D (F.map prA)) = some (.non, St5 s1 n false rs st D ((F ++ [(h, st.getD h 0)]).map prA)) := by
          rw [List.map_append]; exact ap
        generalize st.getD h 0 = z at ap si ⊢
        simp -implicitDefEqProofs [-List.map_append, mtN, mtG, mtR, ix, ne, ge, re, wt, q3, q2, hmn, i1, i2, el, si, x_bmC (bm _), ap]
end
end K76
end S
set_option Elab.async false
set_option linter.all false
set_option maxRecDepth 100000
set_option maxHeartbeats 4000000
/-! Mathematics, N.J: _law_headed. -/
namespace S
open PySem PySem.Spec PyProof.Rows L2
namespace Pm
section
variable {m : Bool} {n : Nat} {rs : Rows} {st : List Nat}
theorem run_count {o st' : List Nat} (w : Own n rs) (r : Run m rs st o st') : Vd m n rs st → ∀ g, st'.getD g 0 = st.getD g 0 + o.count g := by
  induction r with
  | nil _ => intro _ g; simp
  | @cons st o st' h he _ ih =>
    intro v g
    have hl := en_lt w v he
    rw [ih (v.adv w he) g, getD_adv st h g hl, List.count_cons]
    by_cases c : g = h
    · subst c
      simp
      omega
    · have : ¬ h = g := fun z => c z.symm
      simp [c, this]
theorem run_len {o st' : List Nat} (w : Own n rs) (r : Run m rs st o st') : Vd m n rs st → st'.sum = st.sum + o.length := by
  induction r with
  | nil _ => intro _; simp
  | @cons st o st' h he _ ih =>
    intro v
    have hl := en_lt w v he
    rw [ih (v.adv w he), sum_adv hl, List.length_cons]
    omega
theorem run_stand {o st' : List Nat} (w : Own n rs) (r : Run m rs (zeros n) o st') : st' = (List.range n).map fun g => o.count g := by
  have v := r.vd w (.zeros w)
  have c := run_count w r (.zeros w)
  apply List.ext_getElem
  · simp [v.len]
  · intro i h1 h2
    simp at h2
    have := c i
    rw [zeros_getD, Nat.zero_add] at this
    simp only [List.getD, List.getElem?_eq_getElem h1, Option.getD_some] at this
    simp [this]
theorem gree_length (w : Own n rs) (c : Comp m rs) {k : Nat} (hk : k ≤ total rs) : (gree m rs k).1.length = k := by
  have r := gree_run (m := m) (rs := rs) k
  rw [w.len] at r
  have := run_len w r (.zeros w)
  rw [gree_sum w c k hk] at this
  simp [zeros] at this
  omega
theorem gree_take (w : Own n rs) (c : Comp m rs) {k : Nat} (hk : k ≤ total rs) : (gree m rs (total rs)).1.take k = (gree m rs k).1 := by
  obtain ⟨x, hx⟩ := gree_pres m rs k (total rs - k)
  rw [show k + (total rs - k) = total rs by omega] at hx
  rw [hx]
  exact List.take_left' (gree_length w c hk)
theorem gree_next (w : Own n rs) (c : Comp m rs) {k : Nat} (hk : k < total rs) : ∃ h r, ready m rs (gree m rs k).2 = h :: r ∧ (gree m rs (total rs)).1[k]? = some h := by
  have su := gree_sum w c k (by omega)
  have v := gree_vd (m := m) w k
  have hne : (gree m rs k).2 ≠ full rs := fun z => by
    have : (full rs).sum = total rs := rfl
    rw [← z] at this
    omega
  obtain ⟨h, r, hr⟩ := List.exists_cons_of_ne_nil (comp_ready w c v hne)
  refine ⟨h, r, hr, ?_⟩
  have gs : gree m rs (k + 1) = ((gree m rs k).1 ++ [h], adv (gree m rs k).2 h) := by
    show gstep m rs (gree m rs k) = _
    unfold gstep
    rw [hr]
  have t := gree_take w c (k := k + 1) (by omega)
  rw [gs] at t
  have l := gree_length w c (k := k) (by omega)
  have : ((gree m rs (total rs)).1.take (k + 1))[k]? = some h := by
    rw [t, List.getElem?_append_right (by omega), l, Nat.sub_self]
    rfl
  rw [List.getElem?_take] at this
  simpa using this
end
end Pm
namespace K76
open PySem PySem.Spec PyProof.Rows L2 Pm
theorem flatMap_single {α β : Type} {f : α → List β} {a : α} : ∀ l : List α, l.Nodup → a ∈ l → (∀ x ∈ l, x ≠ a → f x = []) → l.flatMap f = f a
  | [], _, h, _ => by cases h
  | x :: l, nd, h, k => by
    rw [List.nodup_cons] at nd
    rw [List.flatMap_cons]
    rcases List.mem_cons.mp h with z | z
    · subst z
      have : l.flatMap f = [] := List.flatMap_eq_nil_iff.mpr fun y hy => k y (by simp [hy]) fun q => nd.1 (q ▸ hy)
      rw [this, List.append_nil]
    · have ne : x ≠ a := fun q => nd.1 (q ▸ z)
      rw [k x (by simp) ne, List.nil_append]
      exact flatMap_single l nd.2 z fun y hy => k y (by simp [hy])
theorem lyE_mem {m : Bool} {bg : Rows} {h g : Nat} {x : Nat × Nat × List Lt} (hx : x ∈ lyE m bg h g) : x.1 = h ∧ x.2.1 = g := by
  unfold lyE at hx
  split at hx
  · cases hx
  · split at hx
    · rw [List.mem_singleton.mp hx]; exact ⟨rfl, rfl⟩
    · cases hx
theorem ly_mem {m : Bool} {bg : Rows} {x : Nat × Nat × List Lt} (hx : x ∈ ly m bg) : x.1 < bg.length ∧ x.2.1 < bg.length := by
  unfold ly lyR at hx
  obtain ⟨h, hh, hx⟩ := List.mem_flatMap.mp hx
  obtain ⟨g, hg, hx⟩ := List.mem_flatMap.mp hx
  obtain ⟨a, b⟩ := lyE_mem hx
  rw [a, b]
  exact ⟨List.mem_range.mp hh, List.mem_range.mp hg⟩
theorem ly_filter {m : Bool} {bg : Rows} {a b : Nat} (ha : a < bg.length) (hb : b < bg.length) : (ly m bg).filter (fun x => decide (x.1 = a ∧ x.2.1 = b)) = lyE m bg a b := by
  have f0 : ∀ h g, ¬ (h = a ∧ g = b) → (lyE m bg h g).filter (fun x => decide (x.1 = a ∧ x.2.1 = b)) = [] := fun h g ne => by
    rw [List.filter_eq_nil_iff]
    intro x hx
    obtain ⟨p, q⟩ := lyE_mem hx
    rw [p, q]
    simpa using ne
  have f1 : (lyE m bg a b).filter (fun x => decide (x.1 = a ∧ x.2.1 = b)) = lyE m bg a b := by
    rw [List.filter_eq_self]
    intro x hx
    obtain ⟨p, q⟩ := lyE_mem hx
    simp [p, q]
  unfold ly
  rw [List.filter_flatMap, flatMap_single (a := a) _ List.nodup_range (List.mem_range.mpr ha) fun h hh ne => ?_]
  · unfold lyR
    rw [List.filter_flatMap, flatMap_single (a := b) _ List.nodup_range (List.mem_range.mpr hb) fun g hg ne => f0 a g fun z => ne z.2]
    exact f1
  · unfold lyR
    rw [List.filter_flatMap]
    exact List.flatMap_eq_nil_iff.mpr fun g _ => f0 h g fun z => ne z.1
theorem count_nat (o : List Nat) (g : Nat) (s : Sto) : countA (.tpS (o.map natA)) [.int (g : Nat)] s = some (.int (o.count g : Nat), s) := by
  have c : ∀ o : List Nat, (o.map fun k : Nat => (k : Int)).count ((g : Nat) : Int) = o.count g := fun o => by
    induction o with
    | nil => rfl
    | cons x o ih =>
      rw [List.map_cons, List.count_cons, List.count_cons, ih]
      by_cases q : x = g
      · subst q; simp
      · have : ¬ (x : Int) = (g : Int) := by omega
        simp [q, this]
  simp only [countA, ints_nat, Option.map_some, c]
def HI (s : Sto) (n : Nat) (rs : Rows) (a2 a3 : Option AV) (pre : List (Nat × Nat)) (e : AE) (s' : Sto) : Prop :=
  ∃ (t : Sto) (c4 c5 c6 c7 c8 c9 : Option AV), s' = s ++ t ∧ headed rs pre.length = true ∧ e = [some (handsA n), some (rowsA rs), a2, a3, c4, c5, c6, c7, c8, c9, none, none, none, none, none, none]
theorem headed_eq {n : Nat} {rs : Rows} {s : Sto} (w : Own n rs) (du : due false rs) : ∃ t, f__law_headed [handsA n, rowsA rs] s = .ok (.bl (headed rs (total rs))) (s ++ t) := by
  have le := w.le
  have wl := w.len
  have cmp : Comp false rs := (gree_full w).mp du.1
  have ge := greedy_eq (m := false) (s := s) w
  have ge : f__law_greedy [handsA n, .str "any", rowsA rs] s = _ := ge
  have tk := fun k hk => gree_take (k := k) w cmp hk
  have nx := fun k hk => gree_next (k := k) w cmp hk
  generalize hs1 : s ++ [AO.lst ((gree false rs (total rs)).2.map natA)] = s1 at ge
  generalize ho : (gree false rs (total rs)).1 = o at ge tk nx
  have ol : o.length = total rs := by rw [← ho]; exact gree_length w cmp (Nat.le_refl _)
  suffices H : ∃ a x, (a = .bl (headed rs (total rs)) ∧ ∃ t, x = s1 ++ t) ∧ f__law_headed [handsA n, rowsA rs] s = .ok a x by
    obtain ⟨a, x, ⟨rfl, t, rfl⟩, H⟩ := H
    exact ⟨_, by rw [H, ← hs1, List.append_assoc]⟩
  rw [e__law_headed]
  unfold m__law_headed
  have ns : nS1 true (.ok [.tpS (o.map natA)] s1) = .ok ⟨numA 0 (o.map natA), []⟩ s1 := nS1_ok (u := ⟨o.map natA, []⟩) rfl rfl
  have nu : numA 0 (o.map natA) = o.zipIdx.map fun q => .tup [.int (q.2 : Nat), natA q.1] := numA_map natA o 0
  simp -implicitDefEqProofs [-exists_and_left, -exists_and_right, startA, ge, ns, nu]
  refine ret_tail (ret_for (fun q : Nat × Nat => AV.tup [.int (q.2 : Nat), natA q.1]) o.zipIdx (.bl false) (HI s1 n rs (some (.tpS (o.map natA))) (some (.tup ((gree false rs (total rs)).2.map natA)))) (fun s' => (∃ t, s' = s1 ++ t) ∧ headed rs (total rs) = false) ⟨[], none, none, none, none, none, none, by simp, by simp [headed], rfl⟩ ?step) (fun e' s' ⟨t, c4, c5, c6, c7, c8, c9, hs, hd, he⟩ => ?_) fun s' ⟨⟨t, hs⟩, hd⟩ => ⟨by rw [hd], t, hs⟩
  case step =>
    rintro pre ⟨h, i⟩ post e s' hw ⟨t, c4, c5, c6, c7, c8, c9, rfl, hd, rfl⟩
    refine ⟨_, rfl, ?_⟩
    have gi : o.zipIdx[pre.length]? = some (h, i) := by rw [← hw]; simp
    rw [List.getElem?_zipIdx] at gi
    obtain ⟨h', hh', e'⟩ := Option.map_eq_some_iff.mp gi
    obtain ⟨rfl, rfl⟩ : h' = h ∧ pre.length = i := by
      injection e' with a b
      exact ⟨a, by omega⟩
    have hk : pre.length < total rs := by
      have := (List.getElem?_eq_some_iff.mp hh').1
      omega
    obtain ⟨h2, r, hr, hx⟩ := nx _ hk
    have : h2 = h' := Option.some.inj (hx.symm.trans hh')
    subst this
    have tk := tk pre.length (by omega)
    have hds : headed rs (pre ++ [(h2, pre.length)]).length = (headed rs pre.length && headT rs (gree false rs pre.length).2) := by
      rw [List.length_append]; exact headed_succ rs _
    have mono : headed rs (pre.length + 1) = false → headed rs (total rs) = false := fun z => by
      cases q : headed rs (total rs) with
      | false => rfl
      | true =>
        unfold headed at q z
        rw [List.all_eq_true] at q
        have : ((List.range (pre.length + 1)).all fun j => headT rs (gree false rs j).2) = true := List.all_eq_true.mpr fun j hj => q j (List.mem_range.mpr (by have := List.mem_range.mp hj; omega))
        rw [z] at this
        cases this
    have hds0 := headed_succ rs pre.length
    have v := gree_vd (m := false) w pre.length
    have rn := gree_run (m := false) (rs := rs) pre.length
    rw [wl] at rn
    have rn := run_stand w rn
    have hm : h2 ∈ ready false rs (gree false rs pre.length).2 := by rw [hr]; simp
    obtain ⟨hh, he⟩ := mem_ready.mp hm
    obtain ⟨ev, hn, ho'⟩ := en_nxt he
    have hT : headT rs (gree false rs pre.length).2 = (ev.g || decide (((qS false rs (gree false rs pre.length).2 ev.o h2).getD []).head? = some ev.l)) := by
      unfold headT
      rw [hr]
      dsimp only
      rw [hn]
    rw [hT] at hds hds0
    generalize (gree false rs pre.length).1 = o1 at tk rn
    generalize (gree false rs pre.length).2 = st at v rn hr hm he hn ho' hds hds0 hT
    have hhn := nxt_h w hn
    have sl : h2 < st.length := by rw [v.len]; exact hhn
    have cn := fun g s => count_nat o1 g s
    have LC : ∀ (e : AE) s, e.length = 16 → e[2]? = some (some (.tpS (o.map natA))) → e[4]? = some (some (.int (pre.length : Nat))) → lcC (.nm 10) yesM (eTM countA (eSl (eVar 2) oNone (oSome (eVar 4))) (aCons (eVar 10) aNil)) [10] ⟨(List.range n).map fun i => AV.int (i : Nat), []⟩ e s = .ok (.lst (st.map natA)) s := fun e s el e2 e4 => by
      match e, el with
      | [b0, b1, b2, b3, b4, b5, b6, b7, b8, b9, b10, b11, b12, b13, b14, b15], _ =>
        simp at e2 e4
        subst e2 e4
        rw [lc_all (gd := []) (xs := (List.range n).map fun i => AV.int (i : Nat)) (List.range n) natA (fun g => .int (o1.count g : Nat)) rfl (by simp) (by simp; omega) (fun x hx => ⟨_, rfl, by
          have cx := fun s => cn x s
          simp -implicitDefEqProofs [wipeA, natA, cutL_take]
          rw [← List.map_take, tk]
          simp -implicitDefEqProofs [cx]⟩)]
        rw [rn, List.map_map]
        rfl
    have rw1 : ∀ s, ixA (rowsA rs) (natA h2) s = some (rowA (rs.getD h2 []), s) := fun s => rows_at w.toWf hhn s
    have hl := nxt_lt hn
    have ixr : ∀ s, ixA (rowA (rs.getD h2 [])) (natA (st.getD h2 0)) s = some (evA ev, s) := fun s => row_at (show (rs.getD h2 [])[st.getD h2 0]? = some ev from hn) s
    have si : ∀ s, ixA (.lst (st.map natA)) (natA h2) s = some (natA (st.getD h2 0), s) := fun s => ixA_natL (s := s) (k := h2) (l := st) sl
    have e0 := fun s => ev_0 ev s
    have wt := fun s => wd_take ev.g false s
    obtain ⟨oo1, oo2⟩ := nxt_o w hn
    cases hg : ev.g with
    | true =>
      rw [hg] at wt e0 hds
      left
      refine ⟨_, _, ?_, ⟨t, some (.int (pre.length : Nat)), some (natA h2), some (.lst (st.map natA)), some (evA ev), c8, c9, rfl, by rw [hds, hd]; rfl, rfl⟩⟩
      simp -implicitDefEqProofs [setL, hands_len, rSrc_n (show n < 1000000 by omega)]
      rw [LC _ _ rfl rfl rfl]
      generalize rs.getD h2 [] = R at rw1 hl ixr
      generalize st.getD h2 0 = z at hl si ixr
      simp -implicitDefEqProofs [rw1, si, ixr, e0, wt]
    | false =>
      rw [hg] at wt e0 hds hds0
      simp only [Bool.false_or] at hds hds0
      obtain ⟨q0, hq0⟩ := v.q ev.o h2 oo1 hhn oo2
      have av : ev.l ∈ q0 := by
        unfold ok1 at ho'
        rw [hg, hq0] at ho'
        simpa [avail] using ho'
      obtain ⟨x, q, rfl⟩ : ∃ x q, q0 = x :: q := by
        cases q0 with
        | nil => cases av
        | cons x q => exact ⟨x, q, rfl⟩
      rw [hq0] at hds hds0
      simp only [Option.getD_some, List.head?_cons, Option.some.injEq] at hds hds0
      have sll : st.length = rs.length := by rw [v.len, wl]
      have bw := begins_wf w.toWf v.len
      have told : Told false (begins rs st) := fun a b ha hb hne => by
        rw [queue_begins sll]
        exact v.q a b (by rw [← bw.len]; exact ha) (by rw [← bw.len]; exact hb) hne
      have ly := fun s => lying_eq (s := s) bw told
      have ly : ∀ s, f__law_lying [handsA n, .str "any", rowsA (begins rs st)] s = _ := ly
      have lf : (K76.ly false (begins rs st)).filter (fun x => decide (x.1 = ev.o ∧ x.2.1 = h2)) = [(ev.o, h2, x :: q)] := by
        rw [ly_filter (by rw [bw.len]; exact oo1) (by rw [bw.len]; exact hhn)]
        unfold lyE
        rw [if_neg oo2, queue_begins sll, hq0]
      have lmem : ∀ y ∈ K76.ly false (begins rs st), y.1 < 3 ∧ y.2.1 < 3 := fun y hy => by
        have := ly_mem hy
        rw [bw.len] at this
        omega
      have llen : (K76.ly false (begins rs st)).length ≤ 100 := by
        have key : ∀ (f : Nat → List (Nat × Nat × List Lt)) (hf : ∀ g, (f g).length ≤ 3) (l : List Nat), (l.flatMap f).length ≤ 3 * l.length := fun f hf l => by
          induction l with
          | nil => simp
          | cons y l ih =>
            have := hf y
            rw [List.flatMap_cons, List.length_append, List.length_cons]
            omega
        have := key (lyR false (begins rs st)) (lyR_len (by rw [bw.len]; exact le)) (List.range (begins rs st).length)
        rw [List.length_range, bw.len] at this
        show (List.flatMap _ _).length ≤ 100
        rw [bw.len]
        omega
      generalize K76.ly false (begins rs st) = L at ly lf lmem llen
      have h1 := fun s => hands_at hhn s
      have e1 := fun s => ev_1 ev s
      have e2 := fun s => ev_2 ev s
      have LB : ∀ (e : AE) s, e.length = 16 → lcC (.tp [14, 15]) yesM (eSl (eVar 14) oNone (oSome (eVar 15))) [14, 15] ⟨(rs.zip st).map (fun q => .tup [rowA q.1, natA q.2]), []⟩ e s = .ok (.lst ((rs.zip st).map fun q => rowA (q.1.take q.2))) s := fun e s el => by
        match e, el with
        | [b0, b1, b2, b3, b4, b5, b6, b7, b8, b9, b10, b11, b12, b13, b14, b15], _ =>
          rw [lc_all (rs.zip st) (fun q => .tup [rowA q.1, natA q.2]) (fun q => rowA (q.1.take q.2)) rfl (by simp) (by simp; omega) (fun x hx => ⟨_, rfl, by simp -implicitDefEqProofs [wipeA, setL, natA, row_take]⟩)]
      have LD : ∀ (e : AE) (s : Sto) (k : Nat), e.length = 16 → e[0]? = some (some (handsA n)) → e[5]? = some (some (natA h2)) → e[7]? = some (some (evA ev)) → s[k]? = some (.lst (L.map lyA)) → lcC (.tp [11, 12, 13]) (asB (eOp (eqA false) (eTup (aCons (eVar 11) (aCons (eVar 12) aNil))) (eTup (aCons (eOp ixA (eVar 7) (eC (.int 1))) (aCons (eOp ixA (eVar 0) (eVar 5)) aNil))))) (eVar 13) [11, 12, 13] ⟨L.map lyA, [(k, .lst (L.map lyA))]⟩ e s = .ok (.lst [.tup ((x :: q).map ltA)]) s := fun e s k el e0' e5 e7 hk => by
        match e, el with
        | [b0, b1, b2, b3, b4, b5, b6, b7, b8, b9, b10, b11, b12, b13, b14, b15], _ =>
          simp at e0' e5 e7
          subst e0' e5 e7
          rw [lc_map L lyA (fun y => decide (y.1 = ev.o ∧ y.2.1 = h2)) (fun y => .tup (y.2.2.map ltA)) rfl (by simpa using hk) (by omega) (fun y hy => ⟨_, rfl, by
            obtain ⟨u1, u2⟩ := lmem y hy
            have te := fun s => two_eq (a := y.1) (b := y.2.1) (c := ev.o) (d := h2) u1 u2 (by omega) (by omega) s
            have te : ∀ s, eqA false (.tup [hnA y.1, hnA y.2.1]) (.tup [.str (hnS ev.o), hnA h2]) s = _ := te
            simp -implicitDefEqProofs [-Bool.decide_eq_true, -Bool.decide_and, wipeA, setL, lyA, natA, h1, e1, te], fun _ => by simp -implicitDefEqProofs [wipeA, setL]⟩), lf]
          rfl
      have n0 : ∀ s, eqA false (.lst [.tup ((x :: q).map ltA)]) (.lst []) s = some (.bl false, s) := fun s => by
        rw [eqA_pl (p := False) false ((Pl.lst (.cons (Pl.tup (pl_lts (x :: q))) (.nil 1))).s (s := s)) ((Pl.lst (Pls.nil 0)).s (s := s)) (by simp)]
        rfl
      have i1 : ∀ s, ixA (.lst [.tup ((x :: q).map ltA)]) (.int 0) s = some (.tup ((x :: q).map ltA), s) := fun s => ixA_lst (atI_some (k := 0) rfl)
      have i2 : ∀ s, ixA (.tup ((x :: q).map ltA)) (.int 0) s = some (ltA x, s) := fun s => ixA_tup (atI_some (k := 0) rfl)
      have el := fun s => eq_lt x ev.l true s
      have gl := fun s => get_last (s := s) (o := .lst (L.map lyA))
      have zr := fun s => zs_rowsL (rs := rs) (st := st) (s := s)
      have bA := begins_A rs st
      simp only [List.map_cons] at n0 i1 i2 LD
      by_cases c : x = ev.l
      · have dc : decide (x = ev.l) = true := decide_eq_true c
        rw [dc] at hds el
        left
        refine ⟨_, _, ?_, ⟨t ++ [.lst (L.map lyA)], some (.int (pre.length : Nat)), some (natA h2), some (.lst (st.map natA)), some (evA ev), some (.ref (s1 ++ t).length), some (.lst [.tup (ltA x :: q.map ltA)]), rfl, by rw [hds, hd]; rfl, rfl⟩⟩
        simp -implicitDefEqProofs [setL, -List.append_assoc, hands_len, rSrc_n (show n < 1000000 by omega)]
        rw [LC _ _ rfl rfl rfl]
        generalize rs.getD h2 [] = R at rw1 hl ixr
        generalize st.getD h2 0 = z at hl si ixr
        simp -implicitDefEqProofs [-List.append_assoc, rw1, si, ixr, e0, wt, zr]
        rw [LB _ _ rfl]
        simp -implicitDefEqProofs [-List.append_assoc, -List.length_append, bA, ly, lSrc_r (gl _)]
        rw [LD _ _ _ rfl rfl rfl rfl (gl _)]
        simp -implicitDefEqProofs [-List.append_assoc, -List.length_append, n0, i1, i2, e2, el]
        exact ⟨List.length_append, List.append_assoc _ _ _⟩
      · have dc : decide (x = ev.l) = false := decide_eq_false c
        rw [dc] at hds0 el
        right
        refine ⟨s1 ++ t ++ [.lst (L.map lyA)], ?_, ⟨_, List.append_assoc ..⟩, mono (by rw [hds0]; simp)⟩
        simp -implicitDefEqProofs [setL, -List.append_assoc, hands_len, rSrc_n (show n < 1000000 by omega)]
        rw [LC _ _ rfl rfl rfl]
        generalize rs.getD h2 [] = R at rw1 hl ixr
        generalize st.getD h2 0 = z at hl si ixr
        simp -implicitDefEqProofs [-List.append_assoc, rw1, si, ixr, e0, wt, zr]
        rw [LB _ _ rfl]
        simp -implicitDefEqProofs [-List.append_assoc, -List.length_append, bA, ly, lSrc_r (gl _)]
        rw [LD _ _ _ rfl rfl rfl rfl (gl _)]
        simp -implicitDefEqProofs [-List.append_assoc, -List.length_append, n0, i1, i2, e2, el]
  · subst hs
    rw [List.length_zipIdx, ol] at hd
    exact ⟨_, _, ⟨by rw [hd], t, rfl⟩, rfl⟩
end K76
end S
set_option Elab.async false
set_option linter.all false
set_option maxRecDepth 100000
set_option maxHeartbeats 4000000
/-! Mathematics, N.K: numbers of runs; _law_orders. -/
namespace S
namespace Pm
/-- how many runs of k turns lead on from a stand -/
def runsN (m : Bool) (rs : Rows) : Nat → List Nat → Nat
  | 0, _ => 1
  | k + 1, st => ((ready m rs st).map fun h => runsN m rs k (adv st h)).sum
/-- the stand behind an order -/
def stn (n : Nat) (o : List Nat) : List Nat := (List.range n).map fun g => o.count g
/-- all orders, a turn longer -/
def stepO (m : Bool) (rs : Rows) (P : List (List Nat)) : List (List Nat) := P.flatMap fun o => (ready m rs (stn rs.length o)).map fun h => o ++ [h]
def ordsK (m : Bool) (rs : Rows) : Nat → List (List Nat)
  | 0 => [[]]
  | k + 1 => stepO m rs (ordsK m rs k)
section
variable {m : Bool} {n : Nat} {rs : Rows} {st : List Nat}
theorem stn_snoc {o : List Nat} {h : Nat} (hh : h < n) : stn n (o ++ [h]) = adv (stn n o) h := by
  have l : (stn n o).length = n := by simp [stn]
  have g : ∀ (o : List Nat) i, i < n → (stn n o).getD i 0 = o.count i := fun o i hi => by simp [stn, List.getD, hi]
  have e : ∀ i, i < n → (stn n (o ++ [h])).getD i 0 = (adv (stn n o) h).getD i 0 := fun i hi => by
    rw [g _ i hi, getD_adv _ _ _ (by rw [l]; exact hh), List.count_append]
    by_cases c : i = h
    · subst c
      rw [if_pos rfl, g _ i hi]; simp
    · have : ¬ h = i := fun z => c z.symm
      rw [if_neg c, g _ i hi]; simp [this]
  refine le_eq (n := n) (fun i hi => by rw [e i hi]; exact Nat.le_refl _) (fun i hi => by rw [e i hi]; exact Nat.le_refl _) (by simp [stn]) (by unfold adv; rw [List.length_set, l])
theorem ordsK_run (w : Own n rs) : ∀ k, ∀ o ∈ ordsK m rs k, Run m rs (zeros n) o (stn n o) ∧ o.length = k
  | 0, o, h => by
    rw [List.mem_singleton.mp h]
    refine ⟨?_, rfl⟩
    have : stn n [] = zeros n := by
      unfold stn zeros
      apply List.ext_getElem <;> simp
    rw [this]
    exact .nil _
  | k + 1, o, h => by
    obtain ⟨o', ho, h⟩ := List.mem_flatMap.mp h
    obtain ⟨x, hx, rfl⟩ := List.mem_map.mp h
    obtain ⟨r, l⟩ := ordsK_run w k o' ho
    rw [w.len] at hx
    obtain ⟨hh, he⟩ := mem_ready.mp hx
    rw [w.len] at hh
    exact ⟨by rw [stn_snoc hh]; exact r.snoc he, by simp [l]⟩
theorem sum_flatMap {α β : Type} (f : α → List β) (g : β → Nat) : ∀ l : List α, ((l.flatMap f).map g).sum = (l.map fun x => ((f x).map g).sum).sum
  | [] => rfl
  | x :: l => by rw [List.flatMap_cons, List.map_append, List.sum_append, sum_flatMap f g l, List.map_cons, List.sum_cons]
theorem runs_step (w : Own n rs) (k : Nat) (P : List (List Nat)) : ((stepO m rs P).map fun o => runsN m rs k (stn n o)).sum = (P.map fun o => runsN m rs (k + 1) (stn n o)).sum := by
  unfold stepO
  rw [sum_flatMap, w.len]
  congr 1
  apply List.map_congr_left
  intro o ho
  rw [List.map_map]
  show _ = ((ready m rs (stn n o)).map fun h => runsN m rs k (adv (stn n o) h)).sum
  congr 1
  apply List.map_congr_left
  intro h hh
  have := (mem_ready.mp hh).1
  rw [w.len] at this
  show runsN m rs k (stn n (o ++ [h])) = _
  rw [stn_snoc this]
theorem runs_it (w : Own n rs) : ∀ k j, ((ordsK m rs k).map fun o => runsN m rs j (stn n o)).sum = runsN m rs (k + j) (zeros n)
  | 0, j => by
    have : stn n [] = zeros n := by
      unfold stn zeros
      apply List.ext_getElem <;> simp
    simp [ordsK, this]
  | k + 1, j => by
    show ((stepO m rs (ordsK m rs k)).map _).sum = _
    rw [runs_step w, runs_it w k (j + 1)]
    congr 1
    omega
theorem ordsK_len (w : Own n rs) (k : Nat) : (ordsK m rs k).length = runsN m rs k (zeros n) := by
  have := runs_it (m := m) w k 0
  rw [Nat.add_zero] at this
  rw [← this]
  have key : ∀ l : List (List Nat), (l.map fun o => runsN m rs 0 (stn n o)).sum = l.length := fun l => by
    induction l with
    | nil => rfl
    | cons x l ih => rw [List.map_cons, List.sum_cons, ih, List.length_cons]; show 1 + _ = _; omega
  exact (key _).symm
end
end Pm
open PySem PySem.Spec PyProof.Rows L2
section
variable {p : Pat} {mb : SM} {α : Type}
/-- a loop over what lies in the store -/
theorem pre_goG {src : Src} (enc : α → AV) (whole : List α) (I : List α → AE → Sto → Prop) (ok : ∀ pre e s, I pre e s → src.ok s)
    (h : ∀ pre x post e s, pre ++ x :: post = whole → I pre e s → ∃ e1, setP p (enc x) e = some e1 ∧ ∃ e2 s2, mb e1 s = .nx e2 s2 ∧ I (pre ++ [x]) e2 s2) :
    ∀ (post pre : List α) (e : AE) (s : Sto), I pre e s → pre ++ post = whole → ∃ e' s', forGo src p mb (post.map enc) e s = .nx e' s' ∧ I whole e' s'
  | [], pre, e, s, hI, hw => ⟨e, s, by simp [forGo, ok pre e s hI], by rw [← hw, List.append_nil]; exact hI⟩
  | x :: post, pre, e, s, hI, hw => by
    obtain ⟨e1, h1, e2, s2, h2, h3⟩ := h pre x post e s hw hI
    rw [List.map_cons, forGo, if_pos (ok pre e s hI), h1]
    dsimp only
    rw [h2]
    exact pre_goG enc whole I ok h post (pre ++ [x]) e2 s2 h3 (by rw [List.append_assoc]; exact hw)
theorem pre_forG {gd : List (Nat × AO)} (enc : α → AV) (whole : List α) {e : AE} {s : Sto} (I : List α → AE → Sto → Prop) (ok : ∀ pre e s, I pre e s → ∀ q ∈ gd, s[q.1]? = some q.2) (hI : I [] e s)
    (h : ∀ pre x post e s, pre ++ x :: post = whole → I pre e s → ∃ e1, setP p (enc x) e = some e1 ∧ ∃ e2 s2, mb e1 s = .nx e2 s2 ∧ I (pre ++ [x]) e2 s2) :
    ∃ e' s', forC p mb ⟨whole.map enc, gd⟩ e s = .nx e' s' ∧ I whole e' s' :=
  pre_goG (src := ⟨whole.map enc, gd⟩) enc whole I ok h whole [] e s hI rfl
end
namespace K76
open PySem PySem.Spec PyProof.Rows L2 Pm
def orA (o : List Nat) : AV := .tpS (o.map natA)
/-- where the line of orders lies -/
def LineAt (s : Sto) (v : AV) (L : List (List Nat)) : Prop := v = .lst (L.map orA) ∨ ∃ k, v = .ref k ∧ s[k]? = some (.lst (L.map orA))
theorem LineAt.app {s : Sto} {v : AV} {L : List (List Nat)} (h : LineAt s v L) (t : Sto) : LineAt (s ++ t) v L := by
  rcases h with h | ⟨k, h1, h2⟩
  · exact .inl h
  · exact .inr ⟨k, h1, by rw [List.getElem?_append_left (List.getElem?_eq_some_iff.mp h2).1]; exact h2⟩
theorem LineAt.src {s : Sto} {v : AV} {L : List (List Nat)} (h : LineAt s v L) : ∃ gd : List (Nat × AO), (∀ q ∈ gd, q.1 < s.length ∧ s[q.1]? = some q.2) ∧ lSrc (.ok v s) = .ok ⟨L.map orA, gd⟩ s := by
  rcases h with rfl | ⟨k, rfl, h2⟩
  · exact ⟨[], by simp, rfl⟩
  · exact ⟨[(k, .lst (L.map orA))], by simp only [List.mem_singleton]; rintro q rfl; exact ⟨(List.getElem?_eq_some_iff.mp h2).1, h2⟩, lSrc_r h2⟩
theorem stn_at {n : Nat} {o : List Nat} {h : Nat} (hh : h < n) : (stn n o).getD h 0 = o.count h := by simp [stn, List.getD, hh]
noncomputable def ordIn : SM := (sIf (mAnd (asB (eOp (ordA ltD) (eOp ixA (eVar 9) (eVar 11)) (eCall lenA (aCons (eOp ixA (eVar 2) (eVar 11)) aNil)))) (asT (eFn f__law_can (aCons (eVar 0) (aCons (eVar 1) (aCons (eVar 10) (aCons (eVar 11) (aCons (eOp ixA (eOp ixA (eVar 2) (eVar 11)) (eOp ixA (eVar 9) (eVar 11))) aNil)))))))) (sExpr (eBMT "list" appendA (eVar 7) (aCons (eOp addA (eVar 8) (eTupS (aCons (eVar 11) aNil))) aNil))) sPass)
noncomputable def ordMid : SM := (sSeq (sSet 9 (eLc (iRg (eCall lenA (aCons (eVar 0) aNil))) (.nm 11) yesM (eTM countA (eVar 8) (aCons (eVar 11) aNil)) [11]))
    (sSeq (sSet 10 (eCall (tupleA false) (aCons (eLc (iZip true false (aCons (eVar 2) (aCons (eVar 9) aNil))) (.tp [12, 13]) yesM (eSl (eVar 12) oNone (oSome (eVar 13))) [12, 13]) aNil)))
    (sFor (iRg (eCall lenA (aCons (eVar 0) aNil))) (.nm 11) ordIn)))
section
variable {m : Bool} {n : Nat} {rs : Rows} {s0 : Sto}
/-- one hand -/
theorem ord_in (w : Own n rs) {o : List Nat} (v : Vd m n rs (stn n o)) (ol : o.length ≤ 100) {acc : List (List Nat)} (al : acc.length ≤ 5000) {h : Nat} (hh : h < n) {c3 c4 c5 c6 c12 c13 : Option AV} :
    ordIn [some (handsA n), some (mnA m), some (rowsA rs), c3, c4, c5, c6, some (.ref s0.length), some (orA o), some (.lst ((stn n o).map natA)), some (rowsA (begins rs (stn n o))), some (natA h), c12, c13] (s0 ++ [.lst (acc.map orA)]) =
      .nx [some (handsA n), some (mnA m), some (rowsA rs), c3, c4, c5, c6, some (.ref s0.length), some (orA o), some (.lst ((stn n o).map natA)), some (rowsA (begins rs (stn n o))), some (natA h), c12, c13] (s0 ++ [.lst ((acc ++ if en m rs (stn n o) h then [o ++ [h]] else []).map orA)]) := by
  have rw1 := fun s => rows_at w.toWf hh s
  have sl : h < (stn n o).length := by rw [v.len]; exact hh
  have si := fun s => ixA_natL (s := s) (k := h) (l := stn n o) sl
  unfold ordIn
  by_cases hl : (stn n o).getD h 0 < (rs.getD h []).length
  · obtain ⟨e, hn, hn2⟩ := nxt_at hl
    have cn := fun s => can_en (s := s) w v hh hn2
    have ix := fun s => row_at hn s
    generalize rs.getD h [] = R at hl rw1 ix
    generalize (stn n o).getD h 0 = z at hl si ix
    have ad : ∀ s, addA (orA o) (.tpS [.int (h : Nat)]) s = some (orA (o ++ [h]), s) := fun s => by
      have := x_addS (s := s) (xs := o.map natA) (ys := [.int (h : Nat)]) (by simp; omega)
      rw [show orA (o ++ [h]) = .tpS (o.map natA ++ [.int (h : Nat)]) by unfold orA; rw [List.map_append]; rfl]
      exact this
    have ap : ∀ x, appendA (.ref s0.length) [orA x] (s0 ++ [.lst (acc.map orA)]) = some (.non, s0 ++ [.lst ((acc ++ [x]).map orA)]) := fun x => by
      simp only [appendA, get_last]
      rw [if_pos (by rw [List.length_map]; omega), set_last, List.map_append]
      rfl
    have bm : bmOk "list" (.ref s0.length) (s0 ++ [.lst (acc.map orA)]) = true := bm_last
    cases he : en m rs (stn n o) h with
    | true =>
      rw [he] at cn
      simp -implicitDefEqProofs [-List.map_append, natA, si, rw1, row_len, hl, ix, cn, ad, ap, x_bmC bm]
    | false =>
      rw [he] at cn
      simp -implicitDefEqProofs [-List.map_append, natA, si, rw1, row_len, hl, ix, cn]
  · rw [en_false (n := n) hl]
    generalize rs.getD h [] = R at hl rw1
    generalize (stn n o).getD h 0 = z at hl si
    simp -implicitDefEqProofs [natA, si, rw1, row_len, hl]
/-- one order -/
theorem ord_mid (w : Own n rs) {o : List Nat} (v : Vd m n rs (stn n o)) (ol : o.length ≤ 100) {acc : List (List Nat)} (al : acc.length ≤ 4000) {c3 c4 c5 c6 c9 c10 c11 : Option AV} :
    ∃ d9 d10 d11, ordMid [some (handsA n), some (mnA m), some (rowsA rs), c3, c4, c5, c6, some (.ref s0.length), some (orA o), c9, c10, c11, none, none] (s0 ++ [.lst (acc.map orA)]) =
      .nx [some (handsA n), some (mnA m), some (rowsA rs), c3, c4, c5, c6, some (.ref s0.length), some (orA o), d9, d10, d11, none, none] (s0 ++ [.lst ((acc ++ (ready m rs (stn n o)).map fun h => o ++ [h]).map orA)]) := by
  have le := w.le
  have wl := w.len
  have cn := fun g s => count_nat o g s
  have LC : ∀ s, lcC (.nm 11) yesM (eTM countA (eVar 8) (aCons (eVar 11) aNil)) [11] ⟨(List.range n).map fun i => AV.int (i : Nat), []⟩ [some (handsA n), some (mnA m), some (rowsA rs), c3, c4, c5, c6, some (.ref s0.length), some (orA o), c9, c10, c11, none, none] s = .ok (.lst ((stn n o).map natA)) s := fun s => by
    rw [lc_all (gd := []) (xs := (List.range n).map fun i => AV.int (i : Nat)) (List.range n) natA (fun g => .int (o.count g : Nat)) rfl (by simp) (by simp; omega) (fun x hx => ⟨_, rfl, by
      have cx := fun s => cn x s
      simp -implicitDefEqProofs [wipeA, natA, orA, cx]⟩)]
    unfold stn
    rw [List.map_map]
    rfl
  have LB : ∀ s c9 c10 c11, lcC (.tp [12, 13]) yesM (eSl (eVar 12) oNone (oSome (eVar 13))) [12, 13] ⟨(rs.zip (stn n o)).map (fun q => .tup [rowA q.1, natA q.2]), []⟩ [some (handsA n), some (mnA m), some (rowsA rs), c3, c4, c5, c6, some (.ref s0.length), some (orA o), c9, c10, c11, none, none] s = .ok (.lst ((rs.zip (stn n o)).map fun q => rowA (q.1.take q.2))) s := fun s c9 c10 c11 => by
    rw [lc_all (gd := []) (xs := (rs.zip (stn n o)).map fun q => .tup [rowA q.1, natA q.2]) (rs.zip (stn n o)) (fun q => .tup [rowA q.1, natA q.2]) (fun q => rowA (q.1.take q.2)) rfl (by simp) (by simp; omega) (fun x hx => ⟨_, rfl, by simp -implicitDefEqProofs [wipeA, setL, natA, row_take]⟩)]
  have zr := fun s => zs_rowsL (rs := rs) (st := stn n o) (s := s)
  have bA := begins_A rs (stn n o)
  unfold ordMid
  simp -implicitDefEqProofs [-List.map_append, hands_len, rSrc_n (show n < 1000000 by omega)]
  rw [LC]
  simp -implicitDefEqProofs [-List.map_append, hands_len, rSrc_n (show n < 1000000 by omega), zr]
  rw [LB]
  simp -implicitDefEqProofs [-List.map_append, bA, hands_len, rSrc_n (show n < 1000000 by omega)]
  obtain ⟨e', s', h1, c, he, hs⟩ := rng_for (p := .nm 11) (mb := ordIn) (N := n) (e := [some (handsA n), some (mnA m), some (rowsA rs), c3, c4, c5, c6, some (.ref s0.length), some (orA o), some (.lst ((stn n o).map natA)), some (rowsA (begins rs (stn n o))), c11, none, none]) (s := s0 ++ [.lst (acc.map orA)])
    (fun j e s => ∃ c, e = [some (handsA n), some (mnA m), some (rowsA rs), c3, c4, c5, c6, some (.ref s0.length), some (orA o), some (.lst ((stn n o).map natA)), some (rowsA (begins rs (stn n o))), c, none, none] ∧ s = s0 ++ [.lst ((acc ++ ((List.range j).filter (en m rs (stn n o))).map fun h => o ++ [h]).map orA)])
    ⟨c11, rfl, by simp⟩ fun j e s hj ⟨c, he, hs⟩ => by
      subst he hs
      refine ⟨_, rfl, _, _, ord_in (h := j) w v ol (by
        have : ((List.range j).filter (en m rs (stn n o))).length ≤ j := by
          have := List.length_filter_le (en m rs (stn n o)) (List.range j)
          simpa using this
        simp; omega) (by omega), some (natA j), rfl, ?_⟩
      have : (List.range (j + 1)).filter (en m rs (stn n o)) = (List.range j).filter (en m rs (stn n o)) ++ (if en m rs (stn n o) j then [j] else []) := by
        rw [List.range_succ, List.filter_append]
        cases h : en m rs (stn n o) j <;> simp [h]
      rw [this]
      cases h : en m rs (stn n o) j <;> simp
  subst he hs
  unfold ready
  rw [wl]
  exact ⟨_, _, _, h1⟩
end
end K76
end S
set_option Elab.async false
set_option linter.all false
set_option maxRecDepth 100000
set_option maxHeartbeats 4000000
/-! Mathematics, N.L: _law_orders, to its end. -/
namespace S
open PySem PySem.Spec PyProof.Rows L2
namespace K76
open PySem PySem.Spec PyProof.Rows L2 Pm
def orD (o : List Nat) : PyData := .tuple (o.map fun k => PyData.int (k : Nat))
theorem pl_or (o : List Nat) : Pl 1 (orA o) (orD o) := Pl.tpS (pl_nats o)
theorem alike_ints : ∀ q r : List Nat, PySem.W.alikeAll (q.map fun k => PyData.int (k : Nat)) (r.map fun k => PyData.int (k : Nat)) = true
  | [], _ => by simp [PySem.W.alikeAll]
  | _ :: _, [] => by simp [PySem.W.alikeAll]
  | a :: q, b :: r => by simp [PySem.W.alikeAll, PySem.W.alike, alike_ints q r]
theorem sort_or (L : List (List Nat)) (h : L.length ≤ 1000) (hl : L.length ≤ 1 ∨ ∀ o ∈ L, o ≠ []) : sortOk (L.map orA) = true := by
  have en : ∀ x, encA (orA x) = orD x := fun x => by unfold encA; rw [(pl_or x).1]; rfl
  unfold sortOk
  simp only [Bool.and_eq_true, Bool.or_eq_true, List.all_eq_true, decide_eq_true_eq, Bool.not_eq_true']
  refine ⟨⟨fun a ha => ?_, by rw [List.length_map]; omega⟩, ?_⟩
  · obtain ⟨x, _, rfl⟩ := List.mem_map.mp ha
    refine ⟨⟨⟨by rw [(pl_or x).1]; rfl, ?_⟩, ?_⟩, fun b hb => ?_⟩
    · rw [en]; have := (pl_or x).2.2; omega
    · rw [en]; rfl
    · obtain ⟨y, _, rfl⟩ := List.mem_map.mp hb
      rw [en, en]
      simp [orD, PySem.W.alike, alike_ints]
  · rcases hl with hl | hl
    · right; rw [List.length_map]; exact hl
    · left; left
      intro a ha
      obtain ⟨x, hx, rfl⟩ := List.mem_map.mp ha
      rw [en]
      cases x with
      | nil => exact absurd rfl (hl [] hx)
      | cons y x => rfl
theorem LineAt.srcA {s : Sto} {v : AV} {L : List (List Nat)} (h : LineAt s v L) : ∃ gd : List (Nat × AO), (∀ t, ∀ q ∈ gd, (s ++ t)[q.1]? = some q.2) ∧ ∀ t, lSrc (.ok v (s ++ t)) = .ok ⟨L.map orA, gd⟩ (s ++ t) := by
  rcases h with rfl | ⟨k, rfl, h2⟩
  · exact ⟨[], by simp, fun t => rfl⟩
  · have e : ∀ t : Sto, (s ++ t)[k]? = some (.lst (L.map orA)) := fun t => by
      rw [List.getElem?_append_left (List.getElem?_eq_some_iff.mp h2).1]; exact h2
    exact ⟨[(k, .lst (L.map orA))], by simp only [List.mem_singleton]; rintro t q rfl; exact e t, fun t => lSrc_r (e t)⟩
theorem range_at {N : Nat} {pre post : List Nat} {x : Nat} (h : pre ++ x :: post = List.range N) : x = pre.length ∧ pre.length < N := by
  have g : (List.range N)[pre.length]? = some x := by rw [← h]; simp
  have l : pre.length < N := by
    have := congrArg List.length h
    simp at this
    omega
  rw [List.getElem?_range l] at g
  exact ⟨(Option.some.inj g).symm, l⟩
def OI (s : Sto) (m : Bool) (n : Nat) (rs : Rows) (lim : Nat) (pre : List Nat) (e : AE) (s' : Sto) : Prop :=
  ∃ (t : Sto) (v : AV) (c6 c7 c8 c9 c10 c11 : Option AV), s' = s ++ t ∧ LineAt s' v (ordsK m rs pre.length) ∧ (ordsK m rs pre.length).length ≤ lim ∧
    e = [some (handsA n), some (mnA m), some (rowsA rs), some (.int (lim : Nat)), some (.int (total rs : Nat)), some v, c6, c7, c8, c9, c10, c11, none, none]
theorem ready_len {m : Bool} {n : Nat} {rs : Rows} {st : List Nat} (w : Own n rs) : (ready m rs st).length ≤ 3 := by
  unfold ready
  have a := List.length_filter_le (en m rs st) (List.range rs.length)
  have b := w.le
  have c := w.len
  simp at a
  omega
theorem step_len {m : Bool} {n : Nat} {rs : Rows} (w : Own n rs) (P : List (List Nat)) : (stepO m rs P).length ≤ 3 * P.length := by
  unfold stepO
  induction P with
  | nil => simp
  | cons o P ih =>
    have := ready_len (m := m) (st := stn rs.length o) w
    rw [List.flatMap_cons, List.length_append, List.length_cons, List.length_map]
    omega
theorem orders_eq {m : Bool} {n : Nat} {rs : Rows} {s : Sto} {lim : Nat} (w : Own n rs) (h1 : 1 ≤ lim) (hl : lim ≤ 1000) :
    ∃ a x, (∃ t, x = s ++ t ∧ (a = .non ∨ ∃ X : List AV, a = .lst X ∧ X.Perm ((ordsK m rs (total rs)).map orA) ∧ X.length ≤ 1000)) ∧ f__law_orders [handsA n, mnA m, rowsA rs, .int (lim : Nat)] s = .ok a x := by
  have le := w.le
  have wl := w.len
  have tl := total_le w.toWf
  rw [e__law_orders]
  unfold m__law_orders
  simp -implicitDefEqProofs [-exists_and_left, -exists_and_right, startA, rows_src]
  rw [lc_all (gd := []) rs rowA (fun r => .int (r.length : Nat)) rfl (by simp) (by omega) (fun x hx => ⟨_, rfl, by simp -implicitDefEqProofs [row_len, wipeA]⟩)]
  simp -implicitDefEqProofs [-exists_and_left, -exists_and_right, lens_sum w.toWf, rSrc_n (show total rs < 1000000 by omega)]
  refine ret_tail (ret_for natA (List.range (total rs)) .non (OI s m n rs lim) (fun s' => ∃ t, s' = s ++ t) ⟨[], _, none, none, none, none, none, none, by simp, .inl rfl, by simpa [ordsK] using h1, rfl⟩ ?step) (fun e' s' ⟨t, v, c6, c7, c8, c9, c10, c11, hs, ln, ll, he⟩ => ?_) fun s' ⟨t, hs⟩ => ⟨t, hs, .inl rfl⟩
  case step =>
    rintro pre x post e s' hw ⟨t, v, c6, c7, c8, c9, c10, c11, rfl, ln, ll, rfl⟩
    obtain ⟨rfl, hk⟩ := range_at hw
    refine ⟨_, rfl, ?_⟩
    obtain ⟨gd, g1, g2⟩ := ln.srcA
    generalize hS : s ++ t = S0 at ln g1 g2
    have run := ordsK_run (m := m) w pre.length
    obtain ⟨e2, s2, f1, d8, d9, d10, d11, rfl, rfl⟩ := pre_forG (p := .nm 8) (mb := ordMid) orA (ordsK m rs pre.length) (gd := gd) (e := [some (handsA n), some (mnA m), some (rowsA rs), some (.int (lim : Nat)), some (.int (total rs : Nat)), some v, some (natA pre.length), some (.ref S0.length), c8, c9, c10, c11, none, none]) (s := S0 ++ [.lst []])
      (fun P e s => ∃ d8 d9 d10 d11, e = [some (handsA n), some (mnA m), some (rowsA rs), some (.int (lim : Nat)), some (.int (total rs : Nat)), some v, some (natA pre.length), some (.ref S0.length), d8, d9, d10, d11, none, none] ∧ s = S0 ++ [.lst ((stepO m rs P).map orA)])
      (fun P e s ⟨d8, d9, d10, d11, _, hs⟩ q hq => by rw [hs]; exact g1 _ q hq) ⟨c8, c9, c10, c11, rfl, rfl⟩ fun P o Q e s hP ⟨d8, d9, d10, d11, he, hs⟩ => by
        subst he hs
        refine ⟨_, rfl, ?_⟩
        have mo : o ∈ ordsK m rs pre.length := by rw [← hP]; simp
        obtain ⟨r, ol⟩ := run o mo
        have vd := r.vd w (.zeros w)
        have pl : P.length ≤ lim := by
          have := congrArg List.length hP
          simp at this
          omega
        have sl := step_len (m := m) w P
        obtain ⟨d9', d10', d11', eq⟩ := ord_mid (s0 := S0) w vd (by omega) (acc := stepO m rs P) (by omega) (c3 := some (.int (lim : Nat))) (c4 := some (.int (total rs : Nat))) (c5 := some v) (c6 := some (natA pre.length)) (c9 := d9) (c10 := d10) (c11 := d11)
        refine ⟨_, _, eq, some (orA o), d9', d10', d11', rfl, ?_⟩
        have : stepO m rs (P ++ [o]) = stepO m rs P ++ (ready m rs (stn n o)).map fun h => o ++ [h] := by
          unfold stepO
          rw [List.flatMap_append, wl]
          simp
        rw [this]
    unfold ordMid ordIn at f1
    have lr : lenA [.ref S0.length] (S0 ++ [.lst ((stepO m rs (ordsK m rs pre.length)).map orA)]) = some (.int ((ordsK m rs (pre.length + 1)).length : Nat), S0 ++ [.lst ((ordsK m rs (pre.length + 1)).map orA)]) := by
      rw [x_lenR get_last, List.length_map]; rfl
    by_cases c : lim < (ordsK m rs (pre.length + 1)).length
    · right
      refine ⟨S0 ++ [.lst ((ordsK m rs (pre.length + 1)).map orA)], ?_, t ++ [.lst ((ordsK m rs (pre.length + 1)).map orA)], by rw [← hS]; simp⟩
      simp -implicitDefEqProofs [-List.append_assoc, -List.length_append, g2, f1, lr, c]
    · left
      refine ⟨_, _, ?_, ⟨t ++ [.lst ((ordsK m rs (pre.length + 1)).map orA)], .ref S0.length, some (natA pre.length), some (.ref S0.length), d8, d9, d10, d11, by rw [← List.append_assoc, hS], .inr ⟨_, rfl, by rw [List.length_append]; exact get_last⟩, by rw [List.length_append]; exact Nat.le_of_not_lt c, rfl⟩⟩
      simp -implicitDefEqProofs [-List.append_assoc, -List.length_append, g2, f1, lr, c]
  · subst hs he
    rw [List.length_range] at ln ll
    have lt : lstA v (s ++ t) = some ((ordsK m rs (total rs)).map orA) := by
      rcases ln with rfl | ⟨k, rfl, h2⟩
      · rfl
      · simp only [lstA, h2]
    have so := sort_or (ordsK m rs (total rs)) (by omega) (by
      by_cases z : total rs = 0
      · left; rw [z]; simp [ordsK]
      · right
        intro o ho
        have := (ordsK_run w _ o ho).2
        rintro rfl
        simp at this
        omega)
    have sa : sortedA [v] (s ++ t) = some (.lst (sortAV ((ordsK m rs (total rs)).map orA)), s ++ t) := by
      show ((litA some [v] (s ++ t)).bind fun xs => if sortOk xs then some (AV.lst (sortAV xs), s ++ t) else none) = _
      simp only [litA, lt, Option.bind_some, so, if_true]
    refine ⟨.lst (sortAV ((ordsK m rs (total rs)).map orA)), s ++ t, ⟨t, rfl, .inr ⟨sortAV ((ordsK m rs (total rs)).map orA), rfl, List.mergeSort_perm _ _, ?_⟩⟩, ?_⟩
    · unfold sortAV
      rw [List.length_mergeSort, List.length_map]
      omega
    · simp -implicitDefEqProofs [sa]
end K76
end S
set_option Elab.async false
set_option linter.all false
set_option maxRecDepth 100000
set_option maxHeartbeats 4000000
/-! Mathematics, N.M: put_at, led, behind. -/
namespace S
open PySem PySem.Spec PyProof.Rows L2
section
variable {s : Sto} {p : Nat} {cn f : Str} {fs : List (Str × AV)} {v a b : AV} {e : AE}
theorem setFA_ref (h : s[p]? = some (.ins cn fs)) (hl : fs.length < 1000) : setFA cn f (.ref p) v s = some (s.set p (.ins cn (putFA f v fs))) := by
  unfold setFA insA
  simp only [h, if_true, if_pos hl]
theorem ixA_dT {kvs : List (List Key × AV)} {ks : List Key} (h : s[p]? = some (.dT kvs)) (hk : asTK a = some ks) (hv : valA kvs ks = some v) : ixA (.ref p) a s = some (v, s) := by
  simp only [ixA, dgetA, h, hk, Option.map_some, hv]
theorem setA_dT {kvs : List (List Key × AV)} {ks : List Key} (h : s[p]? = some (.dT kvs)) (hk : asTK a = some ks) (hl : kvs.length < 16777216) : setA (.ref p) a v s = some (s.set p (.dT (putA kvs ks v))) := by
  simp only [setA, h, hk, if_pos hl]
theorem inA_dT {neg : Bool} {kvs : List (List Key × AV)} {ks : List Key} (h : s[p]? = some (.dT kvs)) (hk : asTK a = some ks) : inA neg a (.ref p) s = some (.bl (if neg then !(valA kvs ks).isSome else (valA kvs ks).isSome), s) := by
  simp only [inA, inB, dgetA, h, hk, Option.map_some]
end
namespace K76
open PySem PySem.Spec PyProof.Rows L2 Pm
def stA (st : List Nat) : AV := .tup (st.map natA)
def stK (st : List Nat) : List Key := st.map fun k => Sum.inl ((k : Nat) : Int)
theorem asTK_st (st : List Nat) : asTK (stA st) = some (stK st) := by
  have : ∀ st : List Nat, asKs (st.map natA) = some (stK st) := fun st => by
    induction st with
    | nil => rfl
    | cons x st ih => show (asK (natA x)).bind _ = _; rw [ih]; rfl
  exact this st
theorem stK_inj {a b : List Nat} : stK a = stK b ↔ a = b := by
  constructor
  · intro h
    induction a generalizing b with
    | nil => cases b with
      | nil => rfl
      | cons y b => cases h
    | cons x a ih =>
      cases b with
      | nil => cases h
      | cons y b =>
        simp only [stK, List.map_cons, List.cons.injEq, Sum.inl.injEq] at h
        rw [ih h.2, show x = y by omega]
  · rintro rfl; rfl
section
variable {M : List (List Nat)} {f : List Nat → AV} {z : List Nat}
theorem val_st (hz : z ∈ M) : valA (M.map fun st => (stK st, f st)) (stK z) = some (f z) := by
  induction M with
  | nil => cases hz
  | cons x M ih =>
    unfold valA at ih ⊢
    rw [List.map_cons, List.find?_cons]
    by_cases c : x = z
    · subst c; simp
    · have : ¬ stK x = stK z := fun q => c (stK_inj.mp q)
      simp only [this, decide_false]
      rcases List.mem_cons.mp hz with q | q
      · exact absurd q.symm c
      · exact ih q
theorem val_no (hz : z ∉ M) : valA (M.map fun st => (stK st, f st)) (stK z) = none := by
  induction M with
  | nil => rfl
  | cons x M ih =>
    unfold valA at ih ⊢
    rw [List.map_cons, List.find?_cons]
    have c : ¬ x = z := fun q => hz (by simp [q])
    have : ¬ stK x = stK z := fun q => c (stK_inj.mp q)
    simp only [this, decide_false]
    exact ih fun q => hz (by simp [q])
theorem put_no (hz : z ∉ M) (v : AV) : putA (M.map fun st => (stK st, f st)) (stK z) v = M.map (fun st => (stK st, f st)) ++ [(stK z, v)] := by
  unfold putA
  rw [if_neg]
  rw [List.any_eq_true]
  rintro ⟨y, hy, e⟩
  obtain ⟨x, hx, rfl⟩ := List.mem_map.mp hy
  rw [decide_eq_true_iff] at e
  exact hz (stK_inj.mp e ▸ hx)
end
def St6 (s : Sto) (p n : Nat) (m : Bool) (rs : Rows) (st : List Nat) (D : Dq) : Sto := s.set p (.ins "Playing" (plF n m rs s.length (s.length + 1))) ++ [.lst (st.map natA), .dT (dA D)]
section
variable {n p a b : Nat} {m : Bool} {rs : Rows} {st st' z : List Nat} {D D' : Dq} {s : Sto} {o : List Nat} {e : AE}
theorem st6_at (hp : p < s.length) : PAt (St6 s p n m rs st D) p s.length (s.length + 1) n m rs st D := by
  have l : (s.set p (.ins "Playing" (plF n m rs s.length (s.length + 1)))).length = s.length := List.length_set
  unfold St6
  refine ⟨?_, ?_, ?_⟩
  · rw [List.getElem?_append_left (by rw [l]; exact hp), List.getElem?_set_self hp]
  · rw [List.getElem?_append_right (by rw [l]; exact Nat.le_refl _), l, Nat.sub_self]; rfl
  · rw [List.getElem?_append_right (by rw [l]; omega), l, show s.length + 1 - s.length = 1 by omega]; rfl
theorem st6_go : goS (St6 s p n m rs st D) s.length (s.length + 1) st' D' = St6 s p n m rs st' D' := by
  have l : (s.set p (.ins "Playing" (plF n m rs s.length (s.length + 1)))).length = s.length := List.length_set
  unfold goS St6
  rw [List.set_append_right _ _ (by rw [l]; omega), l, show s.length + 1 - s.length = 1 by omega, List.set_append_right _ _ (by rw [l]; omega), l, Nat.sub_self]
  rfl
def plX (n : Nat) (m : Bool) (rs : Rows) (x y : AV) : List (Str × AV) := [("hands", handsA n), ("manner", mnA m), ("rows", rowsA rs), ("stand", x), ("lying", y)]
theorem put_stand (x : AV) : putFA "stand" x (plF n m rs a b) = plX n m rs x (.ref b) := by
  unfold plF plX
  simp only [putFA]
  rw [if_neg (by decide), if_neg (by decide), if_neg (by decide), if_pos trivial]
theorem put_lying (x y : AV) : putFA "lying" y (plX n m rs x (.ref b)) = plX n m rs x y := by
  unfold plX
  simp only [putFA]
  rw [if_neg (by decide), if_neg (by decide), if_neg (by decide), if_neg (by decide), if_pos trivial]
def PI (s : Sto) (p n : Nat) (m : Bool) (rs : Rows) (z : List Nat) (k : Nat) (e : AE) (s' : Sto) : Prop :=
  ∃ (st : List Nat) (D : Dq) (c2 : Option AV), Vd m n rs st ∧ Le n st z ∧ st.sum = k ∧ DQ m n rs st D ∧ e = [some (.ref p), some (stA z), c2, none] ∧ s' = St6 s p n m rs st D
theorem put_at_eq (hp : s[p]? = some (.ins "Playing" (plF n m rs a b))) (w : Own n rs) (hz : Run m rs (zeros n) o z) : ∃ D', DQ m n rs z D' ∧ f_put_at [.ref p, stA z] s = .ok .non (St6 s p n m rs z D') := by
  have le := w.le
  have pl := (List.getElem?_eq_some_iff.mp hp).1
  have vz := hz.vd w (.zeros w)
  have lenz : z.length = n := vz.len
  have zm := zeros_mul le
  have tl := total_le w.toWf
  have zs := (vz.sum w).1
  have e1 : (s ++ [AO.lst ((zeros n).map natA)] ++ [AO.dT []])[p]? = some (.ins "Playing" (plF n m rs a b)) := by
    rw [List.append_assoc, List.getElem?_append_left pl]; exact hp
  have f1 := setFA_ref (f := "stand") (v := .ref s.length) e1 (by simp [plF])
  rw [put_stand] at f1
  have e2 : ((s ++ [AO.lst ((zeros n).map natA)] ++ [AO.dT []]).set p (.ins "Playing" (plX n m rs (.ref s.length) (.ref b))))[p]? = some (.ins "Playing" (plX n m rs (.ref s.length) (.ref b))) := List.getElem?_set_self (by simp; omega)
  have f2 := setFA_ref (f := "lying") (v := .ref (s.length + 1)) e2 (by simp [plX])
  rw [put_lying, List.set_set] at f2
  have l1 : (s ++ [AO.lst ((zeros n).map natA)]).length = s.length + 1 := by simp
  have s6 : (s ++ [AO.lst ((zeros n).map natA)] ++ [AO.dT []]).set p (.ins "Playing" (plX n m rs (.ref s.length) (.ref (s.length + 1)))) = St6 s p n m rs (zeros n) [] := by
    unfold St6
    rw [List.append_assoc, List.set_append_left _ _ pl]
    rfl
  rw [s6] at f2
  have ln : ∀ s, lenA [stA z] s = some (.int (n : Nat), s) := fun s => by
    show some (AV.int ((z.map natA).length : Nat), s) = _
    rw [List.length_map, lenz]
  suffices H : ∃ a x, (a = .non ∧ ∃ D', DQ m n rs z D' ∧ x = St6 s p n m rs z D') ∧ f_put_at [.ref p, stA z] s = .ok a x by
    obtain ⟨a, x, ⟨rfl, D', d, rfl⟩, e⟩ := H
    exact ⟨D', d, e⟩
  rw [e_put_at]
  unfold m_put_at
  simp -implicitDefEqProofs [-exists_and_left, -exists_and_right, -List.append_assoc, startA, ln, zm, l1, f1, f2]
  have hfin : ∀ (r : SR), (∃ e' s', r = .nx e' s' ∧ PI s p n m rs z z.sum e' s') → ∃ a x, (a = .non ∧ ∃ D', DQ m n rs z D' ∧ x = St6 s p n m rs z D') ∧ fin r = .ok a x := by
    rintro r ⟨e', s', rfl, st, D, c2, v, l, su, d, _, rfl⟩
    have : st = z := (sum_le st z (by rw [v.len, lenz]) fun i hi => l i (by rw [← v.len]; exact hi)).2 su
    subst this
    exact ⟨.non, _, ⟨rfl, D, d, rfl⟩, rfl⟩
  refine hfin _ (wh_for (PI s p n m rs z) ?step ?stop z.sum 0 1000 _ _ (by omega) (by omega) ⟨zeros n, [], none, .zeros w, fun h _ => by rw [zeros_getD]; exact Nat.zero_le _, by simp [zeros], .zeros w, rfl, rfl⟩)
  case stop =>
    rintro e s' ⟨st, D, c2, v, l, su, d, rfl, rfl⟩
    have : st = z := (sum_le st z (by rw [v.len, lenz]) fun i hi => l i (by rw [← v.len]; exact hi)).2 su
    subst this
    have P := st6_at (s := s) (n := n) (m := m) (rs := rs) (st := st) (D := D) pl
    have q2 := fun e => x_fldC (e := e) P.o f_stand
    have tr := x_tupR (st := false) P.sa
    have ee := fun s => eq_natsT st st true s
    have ee : ∀ s, eqA true (.tup (st.map natA)) (stA st) s = _ := ee
    simp -implicitDefEqProofs [q2, tr, ee]
  case step =>
    rintro k e s' hk ⟨st, D, c2, v, l, su, d, rfl, rfl⟩
    have P := st6_at (s := s) (n := n) (m := m) (rs := rs) (st := st) (D := D) pl
    have ne : st ≠ z := fun q => by subst q; omega
    have q2 := fun e => x_fldC (e := e) P.o f_stand
    have tr := x_tupR (st := false) P.sa
    have ee := fun s => eq_natsT st z true s
    have ee : ∀ s, eqA true (.tup (st.map natA)) (stA z) s = _ := ee
    refine ⟨by simp -implicitDefEqProofs [q2, tr, ee, ne], ?_⟩
    obtain ⟨h0, hh0, he0, hl0⟩ := hz.step w (.zeros w) v (fun k _ => by rw [zeros_getD]; exact Nat.zero_le _) l ne
    have mtR := fun e ms => x_methC (e := e) (ms := ms) (fm := f_Playing_ready) (m := "ready") P.o (pl_m _ (by decide) (by decide) (by decide) (by decide) (by decide))
    have mtG := fun e ms => x_methC (e := e) (ms := ms) (fm := f_Playing_go) (m := "go") P.o (pl_m _ (by decide) (by decide) (by decide) (by decide) (by decide))
    have re := ready_eq P w v d
    have rl : (ready m rs st).length ≤ 3 := ready_len w
    let F := (ready m rs st).filter fun h => decide (st.getD h 0 < z.getD h 0)
    have LC : ∀ c2, lcC (.nm 3) (asB (eOp (ordA ltD) (eOp ixA (eFld "Playing" "stand" (eVar 0)) (eVar 3)) (eOp ixA (eVar 1) (eVar 3)))) (eVar 3) [3] ⟨(ready m rs st).map natA, []⟩ [some (.ref p), some (stA z), c2, none] (St6 s p n m rs st D) = .ok (.lst (F.map natA)) (St6 s p n m rs st D) := fun c2 => by
      rw [lc_map (gd := []) (ready m rs st) natA (fun h => decide (st.getD h 0 < z.getD h 0)) natA rfl (by simp) (by omega) (fun x hx => ⟨_, rfl, by
        have hxn : x < n := by rw [← w.len]; exact (mem_ready.mp hx).1
        have i1 := ixA_nat P.sa (show x < st.length by rw [v.len]; exact hxn)
        have i2 : ∀ s, ixA (stA z) (.int (x : Nat)) s = some (.int (z.getD x 0 : Nat), s) := fun s => ixA_tup (atI_some (by
          rw [List.getElem?_map, List.getElem?_eq_getElem (show x < z.length by rw [lenz]; exact hxn)]
          simp [List.getD, show x < z.length by rw [lenz]; exact hxn, natA]))
        generalize st.getD x 0 = u1 at i1 ⊢
        generalize z.getD x 0 = u2 at i2 ⊢
        simp -implicitDefEqProofs [wipeA, natA, q2, i1, i2], fun _ => by simp -implicitDefEqProofs [wipeA, natA]⟩)]
    have mF : h0 ∈ F := List.mem_filter.mpr ⟨mem_ready.mpr ⟨by rw [w.len]; exact hh0, he0⟩, by simpa using hl0⟩
    obtain ⟨h, r, hF⟩ := List.exists_cons_of_ne_nil (List.ne_nil_of_mem mF)
    have hm : h ∈ F := by rw [hF]; simp
    obtain ⟨hm1, hm2⟩ := List.mem_filter.mp hm
    obtain ⟨hh, he⟩ := mem_ready.mp hm1
    have hlt : st.getD h 0 < z.getD h 0 := by simpa using hm2
    obtain ⟨ev, hn, ho⟩ := en_nxt he
    have hhn := nxt_h w hn
    have sl : h < st.length := by rw [v.len]; exact hhn
    have ge := go_eq P w v d hn ho
    rw [st6_go] at ge
    rw [hF] at LC
    have ix : ∀ s, ixA (.lst ((h :: r).map natA)) (.int 0) s = some (.int (h : Nat), s) := fun s => ixA_lst (atI_some (k := 0) rfl)
    refine ⟨_, _, ?_, ⟨adv st h, goD D h ev, some (.lst ((h :: r).map natA)), v.adv w he, fun g hg => ?_, by rw [sum_adv sl, su], d.go w v hn ho, rfl, rfl⟩⟩
    · simp -implicitDefEqProofs [-List.map_cons, mtR, re]
      rw [LC]
      simp -implicitDefEqProofs [-List.map_cons, ix, mtG, ge]
    · rw [getD_adv st h g sl]
      split
      · rename_i q; subst q; omega
      · exact l g hg
theorem adv_cut {h : Nat} (hl : h < st.length) : st.take h ++ [st.getD h 0 + 1] ++ st.drop (h + 1) = adv st h := by
  unfold adv
  apply List.ext_getElem
  · simp; omega
  · intro i h1 h2
    rw [List.getElem_set]
    by_cases c : h = i
    · subst c
      rw [List.getElem_append_left (by simp; omega), List.getElem_append_right (by simp; omega)]
      simp
    · rw [if_neg c]
      by_cases d : i < h
      · rw [List.getElem_append_left (by simp; omega), List.getElem_append_left (by simp; omega)]
        simp
      · rw [List.getElem_append_right (by simp; omega)]
        simp
        congr 1
        omega
theorem led_eq {x : AV} {h : Nat} (hl : h < st.length) (h3 : st.length ≤ 100) : f_Stands_led [x, stA st, .int (h : Nat)] s = .ok (stA (adv st h)) s := by
  have i1 : ∀ s, ixA (stA st) (.int (h : Nat)) s = some (.int (st.getD h 0 : Nat), s) := fun s => ixA_tup (atI_some (by
    rw [List.getElem?_map, List.getElem?_eq_getElem hl]
    simp [List.getD, hl, natA]))
  have s1 : ∀ s, slA (stA st) none (some (h : Int)) s = some (.tup ((st.take h).map natA), s) := fun s => by
    show some (AV.tup (cutL (st.map natA) none (some (h : Int))), s) = _
    rw [cutL_take, ← List.map_take]
  have s2 : ∀ s, slA (stA st) (some ((h : Int) + 1)) none s = some (.tup ((st.drop (h + 1)).map natA), s) := fun s => by
    show some (AV.tup (cutL (st.map natA) (some ((h : Int) + 1)) none), s) = _
    rw [cutL_drop1, ← List.map_drop]
  have a1 : ∀ s (x : Nat), addA (.tup ((st.take h).map natA)) (.tup [.int ((x : Int) + 1)]) s = some (.tup ((st.take h ++ [x + 1]).map natA), s) := fun s x => by
    rw [x_addT (by simp; omega), List.map_append]; rfl
  have a2 : ∀ s (y : List Nat), y.length ≤ 200 → addA (.tup (y.map natA)) (.tup ((st.drop (h + 1)).map natA)) s = some (.tup ((y ++ st.drop (h + 1)).map natA), s) := fun s y hy => by
    rw [x_addT (by simp; omega), List.map_append]
  have a3 := fun s => a2 s (st.take h ++ [st.getD h 0 + 1]) (by simp; omega)
  have ac := adv_cut hl
  rw [ac] at a3
  rw [e_Stands_led]
  unfold m_Stands_led
  generalize st.getD h 0 = y at i1 a3
  simp -implicitDefEqProofs [-List.map_append, -List.map_take, -List.map_drop, i1, s1, s2, a1, a3]
  rfl
end
end K76
end S
set_option Elab.async false
set_option linter.all false
set_option maxRecDepth 100000
set_option maxHeartbeats 4000000
/-! Mathematics, N.N: behind, sum_behind. -/
namespace S
open PySem PySem.Spec PyProof.Rows L2
/-- what lay there stays, but for some places -/
structure Fr (s s' : Sto) (ks : List Nat) : Prop where
  len : s.length ≤ s'.length
  keep : ∀ k, k ∉ ks → k < s.length → s'[k]? = s[k]?
theorem Fr.refl {s : Sto} {ks : List Nat} : Fr s s ks := ⟨Nat.le_refl _, fun _ _ _ => rfl⟩
theorem Fr.trans {s s' s'' : Sto} {ks : List Nat} (g : Fr s s' ks) (h : Fr s' s'' ks) : Fr s s'' ks :=
  ⟨Nat.le_trans g.len h.len, fun k a c => (h.keep k a (Nat.lt_of_lt_of_le c g.len)).trans (g.keep k a c)⟩
theorem Fr.mono {s s' : Sto} {ks js : List Nat} (g : Fr s s' ks) (h : ∀ k ∈ ks, k ∈ js) : Fr s s' js := ⟨g.len, fun k a c => g.keep k (fun z => a (h k z)) c⟩
theorem Fr.set {s : Sto} {k : Nat} {o : AO} {ks : List Nat} (h : k ∈ ks) : Fr s (s.set k o) ks := ⟨by simp, fun j a c => List.getElem?_set_ne (fun (z : k = j) => a (z ▸ h))⟩
theorem Fr.app {s t : Sto} {ks : List Nat} : Fr s (s ++ t) ks := ⟨by simp, fun k _ c => List.getElem?_append_left c⟩
theorem Fr.at {s s' : Sto} {ks : List Nat} {k : Nat} {o : AO} (g : Fr s s' ks) (h : s[k]? = some o) (n : k ∉ ks) : s'[k]? = some o := by
  rw [g.keep k n (List.getElem?_eq_some_iff.mp h).1]; exact h
/-- the store only grows -/
theorem Fr.ext {s s' : Sto} {ks : List Nat} (g : Fr s s' ks) (h : ∀ k ∈ ks, s.length ≤ k) : ∃ t, s' = s ++ t := by
  refine ⟨s'.drop s.length, ?_⟩
  have : s'.take s.length = s := by
    apply List.ext_getElem?
    intro i
    by_cases c : i < s.length
    · rw [List.getElem?_take, if_pos c]
      exact g.keep i (fun z => by have := h i z; omega) c
    · rw [List.getElem?_eq_none (by rw [List.length_take]; omega), List.getElem?_eq_none (by omega)]
  conv => lhs; rw [← List.take_append_drop s.length s', this]
namespace K76
open PySem PySem.Spec PyProof.Rows L2 Pm
def stF (n pl li mo qu : Nat) (x : List (Str × AV)) : List (Str × AV) := (("playing" : Str), AV.ref pl) :: (("begin" : Str), stA (zeros n)) :: (("line" : Str), AV.ref li) :: (("moves" : Str), AV.ref mo) :: (("queues" : Str), AV.ref qu) :: x
section
variable {n z pl li mo qu : Nat} {m : Bool} {rs : Rows} {st : List Nat} {s : Sto} {L M : List (List Nat)} {x : List (Str × AV)} {o : List Nat} {e : AE}
theorem g_playing : fldA (stF n pl li mo qu x) "playing" = some (.ref pl) := by
  unfold stF; simp only [fldA]
  rw [if_pos trivial]
theorem g_begin : fldA (stF n pl li mo qu x) "begin" = some (stA (zeros n)) := by
  unfold stF; simp only [fldA]
  rw [if_neg (by decide), if_pos trivial]
theorem g_line : fldA (stF n pl li mo qu x) "line" = some (.ref li) := by
  unfold stF; simp only [fldA]
  rw [if_neg (by decide), if_neg (by decide), if_pos trivial]
theorem g_moves : fldA (stF n pl li mo qu x) "moves" = some (.ref mo) := by
  unfold stF; simp only [fldA]
  rw [if_neg (by decide), if_neg (by decide), if_neg (by decide), if_pos trivial]
theorem g_queues : fldA (stF n pl li mo qu x) "queues" = some (.ref qu) := by
  unfold stF; simp only [fldA]
  rw [if_neg (by decide), if_neg (by decide), if_neg (by decide), if_neg (by decide), if_pos trivial]
theorem g_rest (f : Str) (h1 : ("playing" : Str) ≠ f) (h2 : ("begin" : Str) ≠ f) (h3 : ("line" : Str) ≠ f) (h4 : ("moves" : Str) ≠ f) (h5 : ("queues" : Str) ≠ f) : fldA (stF n pl li mo qu x) f = fldA x f := by
  unfold stF; simp only [fldA]
  rw [if_neg h1, if_neg h2, if_neg h3, if_neg h4, if_neg h5]
/-- the fields that may stand behind those -/
def Xs (x : List (Str × AV)) : Prop := x = [] ∨ ∃ v, x = [(("counts" : Str), v)]
theorem Xs.none (h : Xs x) {f : Str} (hf : ("counts" : Str) ≠ f) : fldA x f = .none := by
  rcases h with rfl | ⟨v, rfl⟩
  · rfl
  · simp only [fldA]; rw [if_neg hf]
structure SAt (s : Sto) (z pl li mo qu n : Nat) (m : Bool) (rs : Rows) (x : List (Str × AV)) (L M : List (List Nat)) : Prop where
  o : s[z]? = some (.ins "Stands" (stF n pl li mo qu x))
  xs : Xs x
  hp : ∃ a b, s[pl]? = some (.ins "Playing" (plF n m rs a b))
  hl : s[li]? = some (.lst (L.map stA))
  hm : s[mo]? = some (.dT (M.map fun st => (stK st, AV.lst ((ready m rs st).map natA))))
  hq : ∃ f : List Nat → Dq, (∀ st ∈ M, DQ m n rs st (f st)) ∧ s[qu]? = some (.dT (M.map fun st => (stK st, AV.tup (qsL (f st)))))
  ne : mo ≠ qu
theorem SAt.nes (S : SAt s z pl li mo qu n m rs x L M) : z ≠ pl ∧ z ≠ li ∧ z ≠ mo ∧ z ≠ qu ∧ pl ≠ li ∧ pl ≠ mo ∧ pl ≠ qu ∧ li ≠ mo ∧ li ≠ qu := by
  obtain ⟨a, b, hp⟩ := S.hp
  obtain ⟨f, _, hq⟩ := S.hq
  refine ⟨?_, ?_, ?_, ?_, ?_, ?_, ?_, ?_, ?_⟩ <;> rintro rfl
  · have := S.o; rw [hp] at this
    injection this with this
    injection this with c _
    exact absurd c (by decide)
  · have := S.o; rw [S.hl] at this; cases this
  · have := S.o; rw [S.hm] at this; cases this
  · have := S.o; rw [hq] at this; cases this
  · rw [S.hl] at hp; cases hp
  · rw [S.hm] at hp; cases hp
  · rw [hq] at hp; cases hp
  · have := S.hl; rw [S.hm] at this; cases this
  · have := S.hl; rw [hq] at this; cases this
theorem SAt.meth (S : SAt s z pl li mo qu n m rs x L M) {f : Str} (h1 : ("playing" : Str) ≠ f) (h2 : ("begin" : Str) ≠ f) (h3 : ("line" : Str) ≠ f) (h4 : ("moves" : Str) ≠ f) (h5 : ("queues" : Str) ≠ f) (h6 : ("counts" : Str) ≠ f) (e : AE) (ms : AM) (fm : Fn) :
    methC "Stands" f fm ms (.ref z) e s = bEA (ms e s) e (methD fm (.ref z)) := x_methC S.o (by rw [g_rest f h1 h2 h3 h4 h5, S.xs.none h6])
theorem behind_eq (S : SAt s z pl li mo qu n m rs x L M) (w : Own n rs) (hr : Run m rs (zeros n) o st) (hM : st ∉ M) (ml : M.length ≤ 10000) :
    ∃ s', f_Stands_behind [.ref z, stA st] s = .ok (.lst ((ready m rs st).map fun h => stA (adv st h))) s' ∧ SAt s' z pl li mo qu n m rs x L (M ++ [st]) ∧ Fr s s' [pl, mo, qu] := by
  obtain ⟨a, b, hp⟩ := S.hp
  obtain ⟨f, hf, hq⟩ := S.hq
  obtain ⟨n1, n2, n3, n4, n5, n6, n7, n8, n9⟩ := S.nes
  have n10 := S.ne
  have le := w.le
  have v := hr.vd w (.zeros w)
  obtain ⟨D, d, pe⟩ := put_at_eq hp w hr
  have ppl := (List.getElem?_eq_some_iff.mp hp).1
  have P := st6_at (s := s) (n := n) (m := m) (rs := rs) (st := st) (D := D) ppl
  have F6 : Fr s (St6 s pl n m rs st D) [pl] := ⟨by simp [St6], fun k hk hl => by
    unfold St6
    rw [List.getElem?_append_left (by rw [List.length_set]; exact hl), List.getElem?_set_ne (fun q => hk (by simp [q]))]⟩
  have o6 := F6.at S.o (by simpa using n1)
  have mo6 := F6.at S.hm (by simpa using Ne.symm n6)
  have qu6 := F6.at hq (by simpa using Ne.symm n7)
  have li6 := F6.at S.hl (by simpa using Ne.symm n5)
  have pz := (List.getElem?_eq_some_iff.mp S.o).1
  have lz : s.length ≤ (St6 s pl n m rs st D).length := F6.len
  have re := ready_eq P w v d
  have ll := len_lt d v w
  have qe := queues_eq P (by omega)
  have mtR := fun e ms => x_methC (e := e) (ms := ms) (fm := f_Playing_ready) (m := "ready") P.o (pl_m _ (by decide) (by decide) (by decide) (by decide) (by decide))
  have mtQ := fun e ms => x_methC (e := e) (ms := ms) (fm := f_Playing_queues) (m := "queues") P.o (pl_m _ (by decide) (by decide) (by decide) (by decide) (by decide))
  have q1 := fun e => x_fldC (e := e) S.o g_playing
  have q2 := fun e => x_fldC (e := e) o6 g_playing
  have q3 := fun e => x_fldC (e := e) o6 g_moves
  have po6 := P.o
  generalize St6 s pl n m rs st D = s1 at *
  have sm := setA_dT (v := .lst ((ready m rs st).map natA)) mo6 (asTK_st st) (by simp; omega)
  rw [put_no hM] at sm
  have pmo := (List.getElem?_eq_some_iff.mp mo6).1
  have pqu := (List.getElem?_eq_some_iff.mp qu6).1
  generalize hm2 : M.map (fun st => (stK st, AV.lst ((ready m rs st).map natA))) ++ [(stK st, AV.lst ((ready m rs st).map natA))] = M2 at sm
  have F2 : Fr s1 (s1.set mo (.dT M2)) [mo] := .set (by simp)
  have o2 := F2.at o6 (by simpa using n3)
  have qu2 := F2.at qu6 (by simpa using Ne.symm n10)
  have li2 := F2.at li6 (by simpa using n8)
  have mo2 : (s1.set mo (.dT M2))[mo]? = some (.dT M2) := List.getElem?_set_self pmo
  have po2 := F2.at po6 (by simpa using n6)
  have q4 := fun e => x_fldC (e := e) o2 g_queues
  have l2 : (s1.set mo (.dT M2)).length = s1.length := List.length_set
  generalize s1.set mo (.dT M2) = s2 at *
  have sq := setA_dT (v := .tup (qsL D)) qu2 (asTK_st st) (by simp; omega)
  rw [put_no hM] at sq
  generalize hm3 : M.map (fun st => (stK st, AV.tup (qsL (f st)))) ++ [(stK st, AV.tup (qsL D))] = M3 at sq
  have F3 : Fr s2 (s2.set qu (.dT M3)) [qu] := .set (by simp)
  have o3 := F3.at o2 (by simpa using n4)
  have li3 := F3.at li2 (by simpa using n9)
  have mo3 := F3.at mo2 (by simpa using n10)
  have po3 := F3.at po2 (by simpa using n7)
  have qu3 : (s2.set qu (.dT M3))[qu]? = some (.dT M3) := List.getElem?_set_self (by omega)
  have q5 := fun e => x_fldC (e := e) o3 g_moves
  have vm : valA M2 (stK st) = some (.lst ((ready m rs st).map natA)) := by
    rw [← hm2]
    have := val_st (M := M ++ [st]) (f := fun st => AV.lst ((ready m rs st).map natA)) (z := st) (by simp)
    rw [List.map_append] at this
    exact this
  have S3 : SAt (s2.set qu (.dT M3)) z pl li mo qu n m rs x L (M ++ [st]) := by
    refine ⟨o3, S.xs, ⟨_, _, po3⟩, li3, by rw [mo3, ← hm2, List.map_append]; rfl, ⟨fun y => if y = st then D else f y, fun y hy => ?_, ?_⟩, n10⟩
    · show DQ m n rs y (if y = st then D else f y)
      rcases List.mem_append.mp hy with q | q
      · have : ¬ y = st := fun c => hM (c ▸ q)
        rw [if_neg this]; exact hf y q
      · have : y = st := List.mem_singleton.mp q
        rw [if_pos this, this]; exact d
    · rw [qu3, ← hm3, List.map_append]
      have e1 : M.map (fun y => (stK y, AV.tup (qsL (if y = st then D else f y)))) = M.map (fun y => (stK y, AV.tup (qsL (f y)))) := by
        apply List.map_congr_left
        intro y hy
        have : ¬ y = st := fun c => hM (c ▸ hy)
        rw [if_neg this]
      have e2 : [st].map (fun y => (stK y, AV.tup (qsL (if y = st then D else f y)))) = [(stK st, AV.tup (qsL D))] := by simp
      exact congrArg some (congrArg AO.dT (by rw [← e1, ← e2]))
  have mtL := fun e ms => S3.meth (f := "led") (by decide) (by decide) (by decide) (by decide) (by decide) (by decide) e ms f_Stands_led
  have FF : Fr s (s2.set qu (.dT M3)) [pl, mo, qu] := ((F6.mono (by simp)).trans (F2.mono (by simp))).trans (F3.mono (by simp))
  generalize s2.set qu (.dT M3) = s3 at *
  refine ⟨s3, ?_, S3, FF⟩
  have im := ixA_dT mo3 (asTK_st st) vm
  have LC : lcC (.nm 2) yesM (eMeth "Stands" "led" f_Stands_led (eVar 0) (aCons (eVar 1) (aCons (eVar 2) aNil))) [2] ⟨(ready m rs st).map natA, []⟩ [some (.ref z), some (stA st), none] s3 = .ok (.lst ((ready m rs st).map fun h => stA (adv st h))) s3 := by
    have rl : (ready m rs st).length ≤ 3 := ready_len w
    rw [lc_all (gd := []) (ready m rs st) natA (fun h => stA (adv st h)) rfl (by simp) (by omega) (fun h hh => ⟨_, rfl, by
      have hn : h < n := by rw [← w.len]; exact (mem_ready.mp hh).1
      have ld := led_eq (s := s3) (x := .ref z) (st := st) (h := h) (by rw [v.len]; exact hn) (by rw [v.len]; omega)
      simp -implicitDefEqProofs [wipeA, natA, mtL, ld]⟩)]
  rw [e_Stands_behind]
  unfold m_Stands_behind
  simp -implicitDefEqProofs [q1, pe, q2, mtR, mtQ, re, qe, q3, sm, q4, sq, q5, im]
  rw [LC]
  rfl
/-- the counts lie there -/
theorem sum_behind_eq {co : Nat} {C : List (List Nat)} {c : List Nat → Nat} (S : SAt s z pl li mo qu n m rs [("counts", .ref co)] L M) (w : Own n rs) (v : Vd m n rs st) (hM : st ∈ M)
    (hco : s[co]? = some (.dT (C.map fun st => (stK st, AV.int (c st : Nat))))) (hC : ∀ h ∈ ready m rs st, adv st h ∈ C) :
    f_Stands_sum_behind [.ref z, stA st] s = .ok (.int (((ready m rs st).map fun h => c (adv st h)).sum : Nat)) s := by
  have le := w.le
  have q3 := fun e => x_fldC (e := e) S.o g_moves
  have q4 := fun e => x_fldC (e := e) (f := "counts") (a := .ref co) S.o (by rw [g_rest _ (by decide) (by decide) (by decide) (by decide) (by decide)]; rfl)
  have im := ixA_dT S.hm (asTK_st st) (val_st (f := fun st => AV.lst ((ready m rs st).map natA)) hM)
  have mtL := fun e ms => S.meth (f := "led") (by decide) (by decide) (by decide) (by decide) (by decide) (by decide) e ms f_Stands_led
  have rl : (ready m rs st).length ≤ 3 := ready_len w
  have LC : lcC (.nm 2) yesM (eOp ixA (eFld "Stands" "counts" (eVar 0)) (eMeth "Stands" "led" f_Stands_led (eVar 0) (aCons (eVar 1) (aCons (eVar 2) aNil)))) [2] ⟨(ready m rs st).map natA, []⟩ [some (.ref z), some (stA st), none] s = .ok (.lst (((ready m rs st).map fun h => c (adv st h)).map natA)) s := by
    rw [lc_all (gd := []) (ready m rs st) natA (fun h => natA (c (adv st h))) rfl (by simp) (by omega) (fun h hh => ⟨_, rfl, by
      have hn : h < n := by rw [← w.len]; exact (mem_ready.mp hh).1
      have ld := led_eq (s := s) (x := .ref z) (st := st) (h := h) (by rw [v.len]; exact hn) (by rw [v.len]; omega)
      have ic := ixA_dT hco (asTK_st (adv st h)) (val_st (f := fun st => AV.int (c st : Nat)) (hC h hh))
      simp -implicitDefEqProofs [wipeA, natA, mtL, ld, q4, ic]⟩), List.map_map]
    rfl
  have su := x_sumL ((ready m rs st).map fun h => c (adv st h)) s
  rw [e_Stands_sum_behind]
  unfold m_Stands_sum_behind
  simp -implicitDefEqProofs [q3, im]
  rw [LC]
  simp -implicitDefEqProofs [-List.map_map, su]
end
end K76
end S
set_option Elab.async false
set_option linter.all false
set_option maxRecDepth 100000
set_option maxHeartbeats 4000000
/-! Mathematics, N.P: all stands, their counts (plain; loops). -/
namespace S
namespace Pm
section
variable {m : Bool} {n : Nat} {rs : Rows} {st : List Nat} {L E : List (List Nat)} {k : Nat}
/-- the line of stands, k of them done -/
structure Bf (m : Bool) (n : Nat) (rs : Rows) (L : List (List Nat)) (k : Nat) : Prop where
  nd : L.Nodup
  run : ∀ x ∈ L, ∃ o, Run m rs (zeros n) o x
  srt : L.Pairwise fun a b => a.sum ≤ b.sum
  top : ∀ y, L[k]? = some y → ∀ x ∈ L, x.sum ≤ y.sum + 1
  cl : ∀ y ∈ L.take k, ∀ h ∈ ready m rs y, adv y h ∈ L
  kl : k ≤ L.length
  hd : L[0]? = some (zeros n)
/-- the line, some of the turns from st looked at -/
structure Bi (m : Bool) (n : Nat) (rs : Rows) (L : List (List Nat)) (st : List Nat) (pre : List Nat) (L' : List (List Nat)) : Prop where
  ext : ∃ E, L' = L ++ E ∧ ∀ x ∈ E, x.sum = st.sum + 1
  nd : L'.Nodup
  run : ∀ x ∈ L', ∃ o, Run m rs (zeros n) o x
  cl : ∀ h ∈ pre, adv st h ∈ L'
theorem Bf.zero (w : Own n rs) : Bf m n rs [zeros n] 0 :=
  ⟨by simp, fun x hx => by rw [List.mem_singleton.mp hx]; exact ⟨[], .nil _⟩, by simp, fun y hy x hx => by
    rw [List.mem_singleton.mp hx]
    simp at hy
    rw [← hy]; omega, fun y hy => by simp at hy, by simp, rfl⟩
theorem Bf.bi (b : Bf m n rs L k) : Bi m n rs L st [] L := ⟨⟨[], by simp, by simp⟩, b.nd, b.run, by simp⟩
theorem Bi.old {pre : List Nat} {h : Nat} {L' : List (List Nat)} (b : Bi m n rs L st pre L') (hm : adv st h ∈ L') : Bi m n rs L st (pre ++ [h]) L' :=
  ⟨b.ext, b.nd, b.run, fun g hg => by
    rcases List.mem_append.mp hg with q | q
    · exact b.cl g q
    · rw [List.mem_singleton.mp q]; exact hm⟩
theorem Bi.new {pre : List Nat} {h : Nat} {L' : List (List Nat)} (b : Bi m n rs L st pre L') (hm : adv st h ∉ L') (hl : h < st.length) (hr : ∃ o, Run m rs (zeros n) o (adv st h)) : Bi m n rs L st (pre ++ [h]) (L' ++ [adv st h]) := by
  obtain ⟨E, e1, e2⟩ := b.ext
  refine ⟨⟨E ++ [adv st h], by rw [e1, List.append_assoc], fun x hx => ?_⟩, ?_, fun x hx => ?_, fun g hg => ?_⟩
  · rcases List.mem_append.mp hx with q | q
    · exact e2 x q
    · rw [List.mem_singleton.mp q, sum_adv hl]
  · rw [List.nodup_append]
    refine ⟨b.nd, by simp, fun x hx y hy => ?_⟩
    rw [List.mem_singleton.mp hy]
    rintro rfl
    exact hm hx
  · rcases List.mem_append.mp hx with q | q
    · exact b.run x q
    · rw [List.mem_singleton.mp q]; exact hr
  · rcases List.mem_append.mp hg with q | q
    · exact List.mem_append_left _ (b.cl g q)
    · rw [List.mem_singleton.mp q]; simp
theorem Bi.bf {L' : List (List Nat)} (b0 : Bf m n rs L k) (hk : L[k]? = some st) (b : Bi m n rs L st (ready m rs st) L') : Bf m n rs L' (k + 1) ∧ L'.take (k + 1) = L.take k ++ [st] := by
  obtain ⟨E, rfl, e2⟩ := b.ext
  have kl := (List.getElem?_eq_some_iff.mp hk).1
  have tk : (L ++ E).take (k + 1) = L.take k ++ [st] := by
    rw [List.take_append_of_le_length (by omega), List.take_succ, hk]
    rfl
  have all : ∀ x ∈ L ++ E, x.sum ≤ st.sum + 1 := fun x hx => by
    rcases List.mem_append.mp hx with q | q
    · exact b0.top st hk x q
    · rw [e2 x q]; exact Nat.le_refl _
  have srt : (L ++ E).Pairwise fun a b => a.sum ≤ b.sum := by
    rw [List.pairwise_append]
    refine ⟨b0.srt, ?_, fun x hx y hy => by rw [e2 y hy]; exact b0.top st hk x hx⟩
    clear b tk all
    induction E with
    | nil => simp
    | cons a E ih =>
      rw [List.pairwise_cons]
      exact ⟨fun y hy => by rw [e2 a (by simp), e2 y (by simp [hy])]; exact Nat.le_refl _, ih fun x hx => e2 x (by simp [hx])⟩
  refine ⟨⟨b.nd, b.run, srt, fun y hy x hx => ?_, fun y hy h hh => ?_, by simp; omega, ?_⟩, tk⟩
  · have := all x hx
    have hk' : (L ++ E)[k]? = some st := by rw [List.getElem?_append_left kl]; exact hk
    have i1 := (List.getElem?_eq_some_iff.mp hk')
    have i2 := (List.getElem?_eq_some_iff.mp hy)
    have := (List.pairwise_iff_getElem.mp srt) k (k + 1) i1.1 i2.1 (by omega)
    rw [i1.2, i2.2] at this
    omega
  · rw [tk] at hy
    rcases List.mem_append.mp hy with q | q
    · exact List.mem_append_left _ (b0.cl y q h hh)
    · rw [List.mem_singleton.mp q] at hh ⊢
      exact b.cl h hh
  · rw [List.getElem?_append_left (by omega)]; exact b0.hd
/-- few stands -/
def box : Nat → List (List Nat)
  | 0 => [[]]
  | n + 1 => (List.range 9).flatMap fun a => (box n).map fun x => a :: x
theorem mem_box : ∀ (n : Nat) (x : List Nat), x.length = n → (∀ a ∈ x, a < 9) → x ∈ box n
  | 0, x, h, _ => by
    have : x = [] := List.length_eq_zero_iff.mp h
    rw [this]; simp [box]
  | n + 1, [], h, _ => by simp at h
  | n + 1, a :: x, h, k => List.mem_flatMap.mpr ⟨a, List.mem_range.mpr (k a (by simp)), List.mem_map.mpr ⟨x, mem_box n x (by simpa using h) fun b hb => k b (by simp [hb]), rfl⟩⟩
theorem sub_len {α : Type} [BEq α] [LawfulBEq α] : ∀ (L M : List α), L.Nodup → (∀ x ∈ L, x ∈ M) → L.length ≤ M.length
  | [], _, _, _ => Nat.zero_le _
  | x :: L, M, nd, h => by
    rw [List.nodup_cons] at nd
    have hx := h x (by simp)
    have := sub_len L (M.erase x) nd.2 fun y hy => (List.mem_erase_of_ne fun (q : y = x) => nd.1 (q ▸ hy)).mpr (h y (by simp [hy]))
    rw [List.length_erase_of_mem hx] at this
    have : 0 < M.length := List.length_pos_of_mem hx
    simp only [List.length_cons]
    omega
theorem len_le_total : ∀ {rs : Rows} {r : Row}, r ∈ rs → r.length ≤ total rs
  | x :: rs, r, h => by
    unfold total
    rw [List.map_cons, List.sum_cons]
    rcases List.mem_cons.mp h with q | q
    · rw [q]; omega
    · have := len_le_total q
      unfold total at this
      omega
theorem few (w : Own n rs) (ht : total rs ≤ 8) (nd : L.Nodup) (run : ∀ x ∈ L, ∃ o, Run m rs (zeros n) o x) : L.length ≤ 729 := by
  have := sub_len L (box n) nd fun x hx => by
    obtain ⟨o, r⟩ := run x hx
    have v := r.vd w (.zeros w)
    refine mem_box n x v.len fun a ha => ?_
    obtain ⟨i, hi, e⟩ := List.getElem_of_mem ha
    have hin : i < n := by rw [← v.len]; exact hi
    have l1 := v.le i hin
    have l2 := len_le_total (w.toWf.row hin).2
    have l3 : x.getD i 0 = a := by simp [List.getD, hi, e]
    omega
  have b : ∀ n, n ≤ 3 → (box n).length ≤ 729 := by decide +kernel
  exact Nat.le_trans this (b n w.le)
/-- counts of runs to the end -/
def cnt (m : Bool) (rs : Rows) (st : List Nat) : Nat := runsN m rs (total rs - st.sum) st
theorem cnt_nil (w : Own n rs) (c : Comp m rs) (v : Vd m n rs st) (h : ready m rs st = []) : cnt m rs st = 1 := by
  have : st = full rs := by
    cases q : decide (st = full rs) with
    | true => exact of_decide_eq_true q
    | false => exact absurd h (comp_ready w c v (of_decide_eq_false q))
  subst this
  unfold cnt
  rw [show (full rs).sum = total rs from rfl, Nat.sub_self]
  rfl
theorem cnt_sum (w : Own n rs) (v : Vd m n rs st) (h : ready m rs st ≠ []) (hf : ready m rs (full rs) = []) : cnt m rs st = ((ready m rs st).map fun h => cnt m rs (adv st h)).sum := by
  obtain ⟨a, b⟩ := v.sum w
  have lt : st.sum < total rs := by
    rcases Nat.lt_or_eq_of_le a with q | q
    · exact q
    · rw [b q] at h; exact absurd hf h
  have e : total rs - st.sum = (total rs - st.sum - 1) + 1 := by omega
  show runsN m rs (total rs - st.sum) st = _
  rw [e]
  show ((ready m rs st).map fun h => runsN m rs (total rs - st.sum - 1) (adv st h)).sum = _
  congr 1
  apply List.map_congr_left
  intro h hh
  have hl := (mem_ready.mp hh).1
  unfold cnt
  rw [sum_adv (by rw [v.len, ← w.len]; exact hl), show total rs - (st.sum + 1) = total rs - st.sum - 1 by omega]
end
end Pm
open PySem PySem.Spec PyProof.Rows L2
section
variable {t : TM} {mb : SM}
/-- a while that ends in time -/
theorem wh_end {B : Nat} (I : Nat → AE → Sto → Prop) (J : AE → Sto → Prop) (h : ∀ k e s, I k e s → (t e s = .ok false s ∧ J e s) ∨ (t e s = .ok true s ∧ k < B ∧ ∃ e2 s2, mb e s = .nx e2 s2 ∧ I (k + 1) e2 s2)) :
    ∀ (j k f : Nat) (e : AE) (s : Sto), k + j = B → j < f → I k e s → ∃ e' s', whC f t mb e s = .nx e' s' ∧ J e' s' := by
  intro j
  induction j with
  | zero =>
    intro k f e s hk hf hI
    obtain ⟨f, rfl⟩ : ∃ f', f = f' + 1 := ⟨f - 1, by omega⟩
    rcases h k e s hI with ⟨a, b⟩ | ⟨_, b, _⟩
    · refine ⟨e, s, ?_, b⟩
      unfold whC
      rw [whGo, a]
      rfl
    · omega
  | succ j ih =>
    intro k f e s hk hf hI
    obtain ⟨f, rfl⟩ : ∃ f', f = f' + 1 := ⟨f - 1, by omega⟩
    rcases h k e s hI with ⟨a, b⟩ | ⟨a, _, e2, s2, b, c⟩
    · refine ⟨e, s, ?_, b⟩
      unfold whC
      rw [whGo, a]
      rfl
    · obtain ⟨e', s', q, r⟩ := ih (k + 1) f e2 s2 (by omega) (by omega) c
      refine ⟨e', s', ?_, r⟩
      unfold whC at q ⊢
      rw [whGo, a]
      simp only [Res.ok_sbind, if_true, b]
      exact q
end
end S
set_option Elab.async false
set_option linter.all false
set_option maxRecDepth 100000
set_option maxHeartbeats 4000000
/-! Mathematics, N.Q: Stands.__init__, many_orders. -/
namespace S
open PySem PySem.Spec PyProof.Rows L2
section
variable {s s' : Sto} {e : AE} {ma mb : EM} {k v : AV} {ks : List Key} {xs : List AV}
theorem x_d1 (h1 : ma e (s ++ [.dT []]) = .ok k (s ++ [.dT []])) (h2 : mb e (s ++ [.dT []]) = .ok v (s ++ [.dT []])) (hk : asTK k = some ks) : eD1 ma mb e s = .ok (.ref s.length) (s ++ [.dT [(ks, v)]]) := by
  unfold eD1
  rw [h1, Res.ok_bind, h2, Res.ok_bind, hk, get_last]
  dsimp only
  rw [set_last]
def augC (i : Nat) (k u : Int) (v : AV) (e : AE) (s : Sto) : SR := match v with
  | .int v => .nx (e.set i (some (.int (u + k * v)))) s
  | _ => .no
theorem x_aug {i : Nat} {k u : Int} (h : e[i]? = some (some (.int u))) : sAug i k ma e s = bS (ma e s) e (augC i k u) := by
  unfold sAug; rw [h]; rfl
@[simp] theorem x_augC {i : Nat} {k u v : Int} : augC i k u (.int v) e s = .nx (e.set i (some (.int (u + k * v)))) s := rfl
def revR (r : Res AV) : Res AV := r.bind fun a s => match lstA a s with
  | some xs => .ok (.lst xs.reverse) s
  | none => .no
@[simp] theorem x_rev : eRev ma e s = revR (ma e s) := rfl
theorem revR_r {n : Nat} (h : s[n]? = some (.lst xs)) : revR (.ok (.ref n) s) = .ok (.lst xs.reverse) s := by
  show (match lstA (.ref n) s with | some xs => Res.ok (AV.lst xs.reverse) s | none => .no) = _
  simp only [lstA, h]
end
namespace K76
open PySem PySem.Spec PyProof.Rows L2 Pm
def SZ (s t : Sto) (fs : List (Str × AV)) (l : Sto) : Sto := s ++ (.ins "Stands" fs :: (t ++ l))
section
variable {n z pl li mo qu th co : Nat} {m : Bool} {rs : Rows} {st : List Nat} {s t l s0 : Sto} {L M : List (List Nat)} {x fs : List (Str × AV)} {o : List Nat} {e : AE} {f : Str} {v : AV}
theorem sz_app (a : AO) : SZ s t fs l ++ [a] = SZ s t fs (l ++ [a]) := by simp [SZ]
theorem sz_len : (SZ s t fs l).length = s.length + (1 + t.length) + l.length := by simp [SZ]; omega
theorem sz_set (h : fs.length < 1000) (e : AE) : fldM2 "Stands" f v (.ref s.length) e (SZ s t fs l) = .nx e (SZ s t (putFA f v fs) l) := x_fldM2 (setFA_mid h)
theorem sz_setA (h : fs.length < 1000) : setFA "Stands" f (.ref s.length) v (SZ s t fs l) = some (SZ s t (putFA f v fs) l) := setFA_mid h
theorem sz_fld (h : fldA fs f = some v) (e : AE) : fldC "Stands" f (.ref s.length) e (SZ s t fs l) = .ok v (SZ s t fs l) := x_fldC get_mid h
theorem sz_get {k : Nat} {a : AO} (h : l[k]? = some a) : (SZ s t fs l)[s.length + (1 + t.length) + k]? = some a := by
  unfold SZ
  rw [List.getElem?_append_right (by omega), show s.length + (1 + t.length) + k - s.length = (t.length + k) + 1 by omega, List.getElem?_cons_succ, List.getElem?_append_right (by omega), show t.length + k - t.length = k by omega]
  exact h
theorem SAt.fr {s' : Sto} {ks : List Nat} (S : SAt s z pl li mo qu n m rs x L M) (F : Fr s s' ks) (h1 : z ∉ ks) (h2 : pl ∉ ks) (h3 : li ∉ ks) (h4 : mo ∉ ks) (h5 : qu ∉ ks) : SAt s' z pl li mo qu n m rs x L M := by
  obtain ⟨a, b, hp⟩ := S.hp
  obtain ⟨f, hf, hq⟩ := S.hq
  exact ⟨F.at S.o h1, S.xs, ⟨a, b, F.at hp h2⟩, F.at S.hl h3, F.at S.hm h4, ⟨f, hf, F.at hq h5⟩, S.ne⟩
theorem zeros_tup (h2 : 2 ≤ n) (h3 : n ≤ 3) (s : Sto) : mulA false (.tup [.int 0]) (.int (n : Nat)) s = some (stA (zeros n), s) := by
  have : n = 2 ∨ n = 3 := by omega
  rcases this with rfl | rfl <;> rfl
/-- all of it laid, the line not yet walked -/
def thA (L : List (List Nat)) : AO := .dT (L.map fun st => (stK st, AV.bl true))
structure BI (s0 s : Sto) (z pl li mo qu th n : Nat) (m : Bool) (rs : Rows) (L M : List (List Nat)) : Prop where
  S : SAt s z pl li mo qu n m rs [] L M
  ht : s[th]? = some (thA L)
  fr : Fr s0 s [z, pl, li, mo, qu, th]
noncomputable def nextB : SM := (sIf (asB (eOp (inA true) (eVar 6) (eVar 4))) (sSeq (sIf (asB (eOp (eqA false) (eCall lenA (aCons (eFld "Stands" "line" (eVar 0)) aNil)) (eC (.int 20000)))) sNever sPass)
    (sSeq (sAsg (gSb (eVar 4) (eVar 6)) (eC (.bl true)))
    (sExpr (eBMT "list" appendA (eFld "Stands" "line" (eVar 0)) (aCons (eVar 6) aNil))))) sPass)
noncomputable def turnB : SM := (sSeq (sFor (iL (eMeth "Stands" "behind" f_Stands_behind (eVar 0) (aCons (eOp ixA (eFld "Stands" "line" (eVar 0)) (eVar 5)) aNil))) (.nm 6) nextB)
    (sAug 5 1 (eC (.int 1))))
noncomputable def turnT : TM := (asB (eOp (ordA ltD) (eVar 5) (eCall lenA (aCons (eFld "Stands" "line" (eVar 0)) aNil))))
theorem next_eq' {y : List Nat} {c1 c2 c3 c5 c7 : Option AV} (B : BI s0 s z pl li mo qu th n m rs L M) (nt : th ≠ mo ∧ th ≠ qu) (hl : L.length ≤ 1000) :
    ∃ s', nextB [some (.ref z), c1, c2, c3, some (.ref th), c5, some (stA y), c7] s = .nx [some (.ref z), c1, c2, c3, some (.ref th), c5, some (stA y), c7] s' ∧ BI s0 s' z pl li mo qu th n m rs (if y ∈ L then L else L ++ [y]) M := by
  obtain ⟨n1, n2, n3, n4, n5, n6, n7, n8, n9⟩ := B.S.nes
  have q1 := fun e => x_fldC (e := e) B.S.o g_line
  have lr := x_lenR B.S.hl
  rw [List.length_map] at lr
  have it := inA_dT (neg := true) B.ht (asTK_st y)
  unfold nextB
  by_cases c : y ∈ L
  · rw [val_st (f := fun _ => AV.bl true) c] at it
    simp only [Option.isSome_some, if_true, Bool.not_true] at it
    rw [if_pos c]
    refine ⟨s, ?_, B⟩
    simp -implicitDefEqProofs [it]
  · rw [val_no (f := fun _ => AV.bl true) c] at it
    simp only [Option.isSome_none, if_true, Bool.not_false] at it
    rw [if_neg c]
    have ne : ¬ ((L.length : Int) = 20000) := by omega
    have st := setA_dT (v := .bl true) B.ht (asTK_st y) (by simp; omega)
    rw [put_no (f := fun _ => AV.bl true) c] at st
    have tt : L.map (fun st => (stK st, AV.bl true)) ++ [(stK y, AV.bl true)] = (L ++ [y]).map fun st => (stK st, AV.bl true) := by rw [List.map_append]; rfl
    rw [tt] at st
    have F1 : Fr s (s.set th (thA (L ++ [y]))) [th] := .set (by simp)
    have tl := (List.getElem?_eq_some_iff.mp B.ht).1
    have ll := (List.getElem?_eq_some_iff.mp B.S.hl).1
    have zt : z ≠ th := by rintro rfl; have := B.S.o; rw [B.ht] at this; cases this
    have pt : pl ≠ th := by rintro rfl; obtain ⟨a, b, h⟩ := B.S.hp; rw [B.ht] at h; cases h
    have lt : li ≠ th := by rintro rfl; have := B.S.hl; rw [B.ht] at this; cases this
    have S1 := B.S.fr F1 (by simpa using zt) (by simpa using pt) (by simpa using lt) (by simpa using Ne.symm nt.1) (by simpa using Ne.symm nt.2)
    have t1 : (s.set th (thA (L ++ [y])))[th]? = some (thA (L ++ [y])) := List.getElem?_set_self tl
    have l1 : (s.set th (thA (L ++ [y]))).length = s.length := List.length_set
    have st' : setA (.ref th) (stA y) (.bl true) s = some (s.set th (thA (L ++ [y]))) := st
    generalize s.set th (thA (L ++ [y])) = s1 at *
    have q2 := fun e => x_fldC (e := e) S1.o g_line
    have bm : bmOk "list" (.ref li) s1 = true := by simp [bmOk, S1.hl]
    have ap : appendA (.ref li) [stA y] s1 = some (.non, s1.set li (.lst ((L ++ [y]).map stA))) := by
      simp only [appendA, S1.hl]
      rw [if_pos (by rw [List.length_map]; omega), List.map_append]
      rfl
    have F2 : Fr s1 (s1.set li (.lst ((L ++ [y]).map stA))) [li] := .set (by simp)
    refine ⟨s1.set li (.lst ((L ++ [y]).map stA)), ?_, ?_, F2.at t1 (by simpa using Ne.symm lt), (B.fr.trans (F1.mono (by simp))).trans (F2.mono (by simp))⟩
    · simp -implicitDefEqProofs [-List.map_append, it, q1, lr, ne, st', q2, x_bmC bm, ap]
    · obtain ⟨a, b, hp⟩ := S1.hp
      obtain ⟨f, hf, hq⟩ := S1.hq
      exact ⟨F2.at S1.o (by simpa using n2), S1.xs, ⟨a, b, F2.at hp (by simpa using n5)⟩, List.getElem?_set_self (by omega), F2.at S1.hm (by simpa using Ne.symm n8), ⟨f, hf, F2.at hq (by simpa using Ne.symm n9)⟩, S1.ne⟩
def TI (s0 : Sto) (z pl li mo qu th n : Nat) (m : Bool) (rs : Rows) (c1 c2 c3 c7 : Option AV) (k : Nat) (e : AE) (s : Sto) : Prop :=
  ∃ (L : List (List Nat)) (c6 : Option AV), Bf m n rs L k ∧ e = [some (.ref z), c1, c2, c3, some (.ref th), some (.int (k : Nat)), c6, c7] ∧ BI s0 s z pl li mo qu th n m rs L (L.take k)
theorem walk_eq {c1 c2 c3 c6 c7 : Option AV} (w : Own n rs) (ht : total rs ≤ 8) (nt : th ≠ mo ∧ th ≠ qu) (B : BI s0 s z pl li mo qu th n m rs [zeros n] []) :
    ∃ (L : List (List Nat)) (c6' : Option AV) (s' : Sto), Bf m n rs L L.length ∧ BI s0 s' z pl li mo qu th n m rs L L ∧ whC 30000 turnT turnB [some (.ref z), c1, c2, c3, some (.ref th), some (.int 0), c6, c7] s = .nx [some (.ref z), c1, c2, c3, some (.ref th), some (.int (L.length : Nat)), c6', c7] s' := by
  have le := w.le
  suffices H : ∃ e' s', whC 30000 turnT turnB [some (.ref z), c1, c2, c3, some (.ref th), some (.int 0), c6, c7] s = .nx e' s' ∧ ∃ L c6, Bf m n rs L L.length ∧ e' = [some (.ref z), c1, c2, c3, some (.ref th), some (.int (L.length : Nat)), c6, c7] ∧ BI s0 s' z pl li mo qu th n m rs L L by
    obtain ⟨e', s', h1, L, c6', b, he, B'⟩ := H
    subst he
    exact ⟨L, c6', s', b, B', h1⟩
  refine wh_end (B := 1000) (t := turnT) (mb := turnB) (TI s0 z pl li mo qu th n m rs c1 c2 c3 c7) (fun e s => ∃ L c6, Bf m n rs L L.length ∧ e = [some (.ref z), c1, c2, c3, some (.ref th), some (.int (L.length : Nat)), c6, c7] ∧ BI s0 s z pl li mo qu th n m rs L L) ?step 1000 0 30000 _ s (by omega) (by omega) ⟨[zeros n], c6, .zero w, rfl, B⟩
  rintro k e s ⟨L, c6, b, rfl, B⟩
  have lf := few w ht b.nd b.run
  have q1 := fun e => x_fldC (e := e) B.S.o g_line
  have lr := x_lenR B.S.hl
  rw [List.length_map] at lr
  by_cases c : k < L.length
  · right
    refine ⟨by unfold turnT; simp -implicitDefEqProofs [q1, lr, c], by omega, ?_⟩
    have hk := List.getElem?_eq_getElem c
    generalize L[k] = st at hk
    have mst : st ∈ L := List.mem_of_getElem? hk
    obtain ⟨o, hr⟩ := b.run st mst
    have v := hr.vd w (.zeros w)
    have nst : st ∉ L.take k := fun q => by
      obtain ⟨i, hi, ei⟩ := List.getElem_of_mem q
      have hi' : i < k := by rw [List.length_take] at hi; omega
      have e2 : L[i]? = some st := by
        rw [List.getElem_take] at ei
        rw [List.getElem?_eq_getElem (by omega), ei]
      have := (List.getElem?_inj (by omega : i < L.length) b.nd).mp (e2.trans hk.symm)
      omega
    obtain ⟨s1, be, S1, F1⟩ := behind_eq B.S w hr nst (by rw [List.length_take]; omega)
    have mtB := fun e ms => B.S.meth (f := "behind") (by decide) (by decide) (by decide) (by decide) (by decide) (by decide) e ms f_Stands_behind
    have ix : ixA (.ref li) (.int (k : Nat)) s = some (stA st, s) := ixA_ref B.S.hl (atI_some (by rw [List.getElem?_map, hk]; rfl))
    have t1 := F1.at B.ht (by
      obtain ⟨a, b, hp⟩ := B.S.hp
      simp only [List.mem_cons, List.not_mem_nil, or_false, not_or]
      refine ⟨fun q => ?_, nt⟩
      have h := B.ht
      rw [q, hp] at h
      cases h)
    have B1 : BI s0 s1 z pl li mo qu th n m rs L (L.take k ++ [st]) := ⟨S1, t1, B.fr.trans (F1.mono (by simp))⟩
    obtain ⟨e2, s2, g1, L', c6', bi, rfl, B2⟩ := pre_for (p := .nm 6) (mb := nextB) (fun h => stA (adv st h)) (ready m rs st) (e := [some (.ref z), c1, c2, c3, some (.ref th), some (.int (k : Nat)), c6, c7]) (s := s1)
      (fun pre e s => ∃ L' c6, Bi m n rs L st pre L' ∧ e = [some (.ref z), c1, c2, c3, some (.ref th), some (.int (k : Nat)), c6, c7] ∧ BI s0 s z pl li mo qu th n m rs L' (L.take k ++ [st])) ⟨L, c6, b.bi, rfl, B1⟩ fun pre h post e s hw ⟨L', c6, bi, he, B2⟩ => by
        subst he
        refine ⟨_, rfl, ?_⟩
        have mh : h ∈ ready m rs st := by rw [← hw]; simp
        obtain ⟨hh, hen⟩ := mem_ready.mp mh
        have lf := few w ht bi.nd bi.run
        obtain ⟨s3, n1, B3⟩ := next_eq' (y := adv st h) (c1 := c1) (c2 := c2) (c3 := c3) (c5 := some (.int (k : Nat))) (c7 := c7) B2 nt (by omega)
        refine ⟨_, s3, n1, _, some (stA (adv st h)), ?_, rfl, B3⟩
        split
        · rename_i hm; exact bi.old hm
        · rename_i hm; exact bi.new hm (by rw [v.len, ← w.len]; exact hh) ⟨_, hr.snoc hen⟩
    obtain ⟨b', tk⟩ := Bi.bf b hk bi
    rw [← tk] at B2
    refine ⟨[some (.ref z), c1, c2, c3, some (.ref th), some (.int ((k + 1 : Nat) : Int)), c6', c7], s2, ?_, L', c6', b', rfl, B2⟩
    have ls : lSrc (.ok (.lst ((ready m rs st).map fun h => stA (adv st h))) s1) = .ok ⟨(ready m rs st).map fun h => stA (adv st h), []⟩ s1 := rfl
    have au : ∀ c6, sAug 5 1 (eC (.int 1)) [some (.ref z), c1, c2, c3, some (.ref th), some (.int (k : Nat)), c6, c7] s2 = .nx [some (.ref z), c1, c2, c3, some (.ref th), some (.int ((k + 1 : Nat) : Int)), c6, c7] s2 := fun c6 => by
      rw [x_aug (u := (k : Int)) rfl]
      simp -implicitDefEqProofs
    unfold turnB
    simp -implicitDefEqProofs [-x_augIx, q1, ix, mtB, be, ls, g1, au]
  · left
    have : k = L.length := by have := b.kl; omega
    subst this
    rw [List.take_length] at B
    exact ⟨by unfold turnT; simp -implicitDefEqProofs [q1, lr], L, c6, b, rfl, B⟩
noncomputable def cntB : SM := (sAsg (gSb (eFld "Stands" "counts" (eVar 0)) (eVar 7)) (eIf (asB (eOp (eqA false) (eOp ixA (eFld "Stands" "moves" (eVar 0)) (eVar 7)) (eLst aNil))) (eC (.int 1)) (eMeth "Stands" "sum_behind" f_Stands_sum_behind (eVar 0) (aCons (eVar 7) aNil))))
theorem counts_eq {c1 c2 c3 c4 c5 c6 c7 : Option AV} {ks : List Nat} (w : Own n rs) (cm : Comp m rs) (b : Bf m n rs L L.length) (hl : L.length ≤ 1000) (S : SAt s z pl li mo qu n m rs [("counts", .ref co)] L L) (F : Fr s0 s ks) (hco : s[co]? = some (.dT [])) (hk : co ∈ ks) (nc : co ≠ mo ∧ co ≠ qu) :
    ∃ e' s', forC (.nm 7) cntB ⟨(L.map stA).reverse, []⟩ [some (.ref z), c1, c2, c3, c4, c5, c6, c7] s = .nx e' s' ∧ SAt s' z pl li mo qu n m rs [("counts", .ref co)] L L ∧ Fr s0 s' ks ∧ s'[co]? = some (.dT (L.reverse.map fun st => (stK st, AV.int (cnt m rs st : Nat)))) := by
  have rev : (L.map stA).reverse = L.reverse.map stA := by rw [List.map_reverse]
  rw [rev]
  have nz : co ≠ z := by rintro rfl; rw [S.o] at hco; cases hco
  have np : co ≠ pl := by rintro rfl; obtain ⟨a, b, h⟩ := S.hp; rw [h] at hco; cases hco
  have nl : co ≠ li := by rintro rfl; rw [S.hl] at hco; cases hco
  obtain ⟨e', s', h1, c7', _, h3, h4, h5⟩ := pre_for (p := .nm 7) (mb := cntB) stA L.reverse (e := [some (.ref z), c1, c2, c3, c4, c5, c6, c7]) (s := s)
    (fun pre e s => ∃ c7, e = [some (.ref z), c1, c2, c3, c4, c5, c6, c7] ∧ SAt s z pl li mo qu n m rs [("counts", .ref co)] L L ∧ Fr s0 s ks ∧ s[co]? = some (.dT (pre.map fun st => (stK st, AV.int (cnt m rs st : Nat))))) ⟨c7, rfl, S, F, hco⟩ fun pre st post e s hw ⟨c7, he, S, F, hco⟩ => by
      subst he
      refine ⟨_, rfl, ?_⟩
      have hw' : L = post.reverse ++ st :: pre.reverse := by
        have := congrArg List.reverse hw
        rw [List.reverse_reverse] at this
        rw [← this]
        simp
      have mst : st ∈ L := by rw [hw']; simp
      obtain ⟨o, hr⟩ := b.run st mst
      have v := hr.vd w (.zeros w)
      have nst : st ∉ pre := fun q => by
        have nd := b.nd
        rw [hw', List.nodup_append] at nd
        have := nd.2.1
        rw [List.nodup_cons] at this
        exact this.1 (by simpa using q)
      have hC : ∀ h ∈ ready m rs st, adv st h ∈ pre := fun h hh => by
        have m1 : adv st h ∈ L := b.cl st (by rw [List.take_length]; exact mst) h hh
        have su : (adv st h).sum = st.sum + 1 := sum_adv (by rw [v.len, ← w.len]; exact (mem_ready.mp hh).1)
        have sr := b.srt
        rw [hw'] at m1 sr
        rcases List.mem_append.mp m1 with q | q
        · rw [List.pairwise_append] at sr
          have := sr.2.2 _ q st (by simp)
          omega
        · rcases List.mem_cons.mp q with q | q
          · rw [q] at su; omega
          · simpa using q
      have pl : pre.length ≤ 1000 := by
        have := congrArg List.length hw'
        simp at this
        omega
      have cl := (List.getElem?_eq_some_iff.mp hco).1
      have q1 := fun e => x_fldC (e := e) (f := "counts") (a := .ref co) S.o (by rw [g_rest _ (by decide) (by decide) (by decide) (by decide) (by decide)]; rfl)
      have q2 := fun e => x_fldC (e := e) S.o g_moves
      have im := ixA_dT S.hm (asTK_st st) (val_st (f := fun st => AV.lst ((ready m rs st).map natA)) mst)
      have sb := sum_behind_eq S w v mst hco hC
      have mtS := fun e ms => S.meth (f := "sum_behind") (by decide) (by decide) (by decide) (by decide) (by decide) (by decide) e ms f_Stands_sum_behind
      have se := setA_dT (v := .int (cnt m rs st : Nat)) hco (asTK_st st) (by simp; omega)
      rw [put_no (f := fun st => AV.int (cnt m rs st : Nat)) nst] at se
      have tt : pre.map (fun st => (stK st, AV.int (cnt m rs st : Nat))) ++ [(stK st, AV.int (cnt m rs st : Nat))] = (pre ++ [st]).map fun st => (stK st, AV.int (cnt m rs st : Nat)) := by rw [List.map_append]; rfl
      rw [tt] at se
      have eqn : ∀ s, eqA false (.lst ((ready m rs st).map natA)) (.lst []) s = some (.bl (decide (ready m rs st = [])), s) := fun s => by
        rw [eqA_pl (p := ready m rs st = []) false ((Pl.lst (pl_nats (ready m rs st))).s (s := s)) ((Pl.lst (Pls.nil 0)).s (s := s)) (by cases ready m rs st <;> simp)]
        rfl
      have cn1 := fun h => cnt_nil w cm v h
      have cn2 := fun h => cnt_sum w v h (ready_full w)
      have F1 : Fr s (s.set co (.dT ((pre ++ [st]).map fun st => (stK st, AV.int (cnt m rs st : Nat))))) [co] := .set (by simp)
      have S1 := S.fr F1 (by simpa using Ne.symm nz) (by simpa using Ne.symm np) (by simpa using Ne.symm nl) (by simpa using Ne.symm nc.1) (by simpa using Ne.symm nc.2)
      refine ⟨[some (.ref z), c1, c2, c3, c4, c5, c6, some (stA st)], _, ?_, some (stA st), rfl, S1, F.trans (F1.mono (by simpa using hk)), List.getElem?_set_self cl⟩
      unfold cntB
      by_cases c : ready m rs st = []
      · rw [cn1 c] at se
        rw [c] at im eqn
        simp only [List.map_nil, decide_true] at im eqn
        simp -implicitDefEqProofs [-List.map_append, q2, im, eqn, q1]
        exact congrArg (fun z => toSR (sb3 z _)) se
      · have dc : decide (ready m rs st = []) = false := decide_eq_false c
        rw [dc] at eqn
        rw [← cn2 c] at sb
        generalize (ready m rs st).map natA = R at im eqn
        simp -implicitDefEqProofs [-List.map_append, q2, im, eqn, q1, mtS, sb, se]
  exact ⟨e', s', h1, h3, h4, h5⟩
end
end K76
end S
set_option Elab.async false
set_option linter.all false
set_option maxRecDepth 100000
set_option maxHeartbeats 4000000
/-! Mathematics, N.R: many_orders. -/
namespace S
open PySem PySem.Spec PyProof.Rows L2
namespace K76
open PySem PySem.Spec PyProof.Rows L2 Pm
section
variable {n z pl li mo qu th co : Nat} {m : Bool} {rs : Rows} {st : List Nat} {s t l s0 : Sto} {L M : List (List Nat)} {x fs : List (Str × AV)} {o : List Nat} {e : AE} {f : Str} {v : AV}
/-- what Stands keeps -/
structure StOk (s0 s : Sto) (z n : Nat) (m : Bool) (rs : Rows) (L : List (List Nat)) (pl li mo qu co : Nat) : Prop where
  S : SAt s z pl li mo qu n m rs [(("counts" : Str), .ref co)] L L
  b : Bf m n rs L L.length
  fr : ∃ t, s = s0 ++ t
  co : s[co]? = some (.dT (L.reverse.map fun st => (stK st, AV.int (Pm.cnt m rs st : Nat))))
def fl1 (N : Nat) : List (Str × AV) := [(("playing" : Str), AV.ref N)]
def fl2 (n N : Nat) : List (Str × AV) := (("playing" : Str), AV.ref N) :: [(("begin" : Str), stA (zeros n))]
def fl3 (n N : Nat) : List (Str × AV) := (("playing" : Str), AV.ref N) :: (("begin" : Str), stA (zeros n)) :: [(("line" : Str), AV.ref (N + 3))]
def fl4 (n N : Nat) : List (Str × AV) := (("playing" : Str), AV.ref N) :: (("begin" : Str), stA (zeros n)) :: (("line" : Str), AV.ref (N + 3)) :: [(("moves" : Str), AV.ref (N + 4))]
def fl5 (n N : Nat) : List (Str × AV) := stF n N (N + 3) (N + 4) (N + 5) []
theorem p1 (N : Nat) : putFA "playing" (.ref N) [] = fl1 N := rfl
theorem p2 (n N : Nat) : putFA "begin" (stA (zeros n)) (fl1 N) = fl2 n N := by unfold fl1 fl2; simp only [putFA]; rw [if_neg (by decide)]
theorem p3 (n N : Nat) : putFA "line" (.ref (N + 3)) (fl2 n N) = fl3 n N := by unfold fl2 fl3; simp only [putFA]; rw [if_neg (by decide), if_neg (by decide)]
theorem p4 (n N : Nat) : putFA "moves" (.ref (N + 4)) (fl3 n N) = fl4 n N := by unfold fl3 fl4; simp only [putFA]; rw [if_neg (by decide), if_neg (by decide), if_neg (by decide)]
theorem p5 (n N : Nat) : putFA "queues" (.ref (N + 5)) (fl4 n N) = fl5 n N := by unfold fl4 fl5 stF; simp only [putFA]; rw [if_neg (by decide), if_neg (by decide), if_neg (by decide), if_neg (by decide)]
theorem p6 (n N : Nat) (v : AV) : putFA "counts" v (stF n N (N + 3) (N + 4) (N + 5) []) = stF n N (N + 3) (N + 4) (N + 5) [(("counts" : Str), v)] := by
  unfold stF; simp only [putFA]
  rw [if_neg (by decide), if_neg (by decide), if_neg (by decide), if_neg (by decide), if_neg (by decide)]
theorem gb2 (n N : Nat) : fldA (fl2 n N) "begin" = some (stA (zeros n)) := by unfold fl2; simp only [fldA]; rw [if_neg (by decide), if_pos trivial]
def l3 (n : Nat) (m : Bool) (rs : Rows) (N : Nat) : Sto := [AO.ins "Playing" (plF n m rs (N + 1) (N + 2)), AO.lst ((zeros n).map natA), AO.dT []]
def l6 (n : Nat) (m : Bool) (rs : Rows) (N : Nat) : Sto := [AO.ins "Playing" (plF n m rs (N + 1) (N + 2)), AO.lst ((zeros n).map natA), AO.dT [], AO.lst [stA (zeros n)], AO.dT [], AO.dT []]
def l7 (n : Nat) (m : Bool) (rs : Rows) (N : Nat) : Sto := [AO.ins "Playing" (plF n m rs (N + 1) (N + 2)), AO.lst ((zeros n).map natA), AO.dT [], AO.lst [stA (zeros n)], AO.dT [], AO.dT [], AO.dT [(stK (zeros n), AV.bl true)]]
theorem stands_A1 {N : Nat} (hN : N = s.length + (1 + t.length)) (e : AE) (he : e[0]? = some (some (.ref s.length))) : (eTup (aCons (eLstR (aCons (eFld "Stands" "begin" (eVar 0)) aNil)) (aCons eDT (aCons eDT aNil)))) e (SZ s t (fl2 n N) (l3 n m rs N)) = .ok (.tup [.ref (N + 3), .ref (N + 4), .ref (N + 5)]) (SZ s t (fl2 n N) (l6 n m rs N)) := by
  have g := fun e => sz_fld (s := s) (t := t) (l := l3 n m rs N) (gb2 n N) e
  have e1 : SZ s t (fl2 n N) (l3 n m rs N) ++ [.lst [stA (zeros n)]] = SZ s t (fl2 n N) (l3 n m rs N ++ [.lst [stA (zeros n)]]) := sz_app _
  have e2 : SZ s t (fl2 n N) (l3 n m rs N ++ [.lst [stA (zeros n)]]) ++ [.dT []] = SZ s t (fl2 n N) (l3 n m rs N ++ [.lst [stA (zeros n)]] ++ [.dT []]) := sz_app _
  have e3 : SZ s t (fl2 n N) (l3 n m rs N ++ [.lst [stA (zeros n)]] ++ [.dT []]) ++ [.dT []] = SZ s t (fl2 n N) (l6 n m rs N) := sz_app _
  have n1 : (SZ s t (fl2 n N) (l3 n m rs N)).length = N + 3 := by rw [sz_len, hN]; rfl
  have n2 : (SZ s t (fl2 n N) (l3 n m rs N ++ [.lst [stA (zeros n)]])).length = N + 4 := by rw [sz_len, hN]; rfl
  have n3 : (SZ s t (fl2 n N) (l3 n m rs N ++ [.lst [stA (zeros n)]] ++ [.dT []])).length = N + 5 := by rw [sz_len, hN]; rfl
  generalize SZ s t (fl2 n N) (l3 n m rs N) = y1 at *
  generalize SZ s t (fl2 n N) (l3 n m rs N ++ [.lst [stA (zeros n)]]) = y2 at *
  generalize SZ s t (fl2 n N) (l3 n m rs N ++ [.lst [stA (zeros n)]] ++ [.dT []]) = y3 at *
  generalize SZ s t (fl2 n N) (l6 n m rs N) = y4 at *
  simp -implicitDefEqProofs [he, g, e1, e2, e3, n1, n2, n3]
theorem stands_A2 {N : Nat} (hN : N = s.length + (1 + t.length)) (e : AE) (he : e[0]? = some (some (.ref s.length))) : eD1 (eFld "Stands" "begin" (eVar 0)) (eC (.bl true)) e (SZ s t (fl5 n N) (l6 n m rs N)) = .ok (.ref (N + 6)) (SZ s t (fl5 n N) (l7 n m rs N)) := by
  have g := fun e => sz_fld (s := s) (t := t) (fs := fl5 n N) (l := l6 n m rs N ++ [.dT []]) (f := "begin") (v := stA (zeros n)) g_begin e
  have e1 : SZ s t (fl5 n N) (l6 n m rs N) ++ [.dT []] = SZ s t (fl5 n N) (l6 n m rs N ++ [.dT []]) := sz_app _
  have n1 : (SZ s t (fl5 n N) (l6 n m rs N)).length = N + 6 := by rw [sz_len, hN]; rfl
  have := x_d1 (ma := eFld "Stands" "begin" (eVar 0)) (mb := eC (.bl true)) (e := e) (s := SZ s t (fl5 n N) (l6 n m rs N)) (k := stA (zeros n)) (v := .bl true) (ks := stK (zeros n)) (by
    rw [e1]
    generalize SZ s t (fl5 n N) (l6 n m rs N ++ [.dT []]) = y at *
    simp -implicitDefEqProofs [he, g]) rfl (asTK_st _)
  rw [n1, sz_app] at this
  exact this
theorem stands_B0 {N : Nat} (hN : N = s.length + (1 + t.length)) : BI s (SZ s t (fl5 n N) (l7 n m rs N)) s.length N (N + 3) (N + 4) (N + 5) (N + 6) n m rs [zeros n] [] := by
  have g : ∀ {k : Nat} {a : AO}, (l7 n m rs N)[k]? = some a → (SZ s t (fl5 n N) (l7 n m rs N))[N + k]? = some a := fun h => by rw [hN]; rw [hN] at h; exact sz_get h
  refine ⟨⟨get_mid, .inl rfl, ⟨_, _, g (k := 0) rfl⟩, g (k := 3) rfl, g (k := 4) rfl, ⟨fun _ => [], by simp, g (k := 5) rfl⟩, by omega⟩, g (k := 6) rfl, ⟨by simp [SZ], fun k _ hk => ?_⟩⟩
  unfold SZ
  exact List.getElem?_append_left hk
theorem A0 (e : AE) (s : Sto) : eTup (aCons (eC (.int 0)) aNil) e s = .ok (.tup [.int 0]) s := rfl
theorem stands_init (w : Own n rs) (h2 : 2 ≤ n) (ht : total rs ≤ 8) (du : due m rs) : ∃ s' L pl li mo qu co, f_Stands___init__ [.ref s.length, handsA n, mnA m, rowsA rs] (s ++ [.ins "Stands" []]) = .ok .non s' ∧ StOk s s' s.length n m rs L pl li mo qu co := by
  have le := w.le
  have cmp : Comp m rs := (gree_full w).mp du.1
  have c1 := check_manner_eq h2 w.le m (s ++ [.ins "Stands" []])
  obtain ⟨t, hc, _⟩ := checked_chart_eq (m := m) (s := s ++ [.ins "Stands" []]) w h2 (by omega)
  have hc := hc du
  have z0 : s ++ [.ins "Stands" []] ++ t = SZ s t [] [] := by simp [SZ]
  rw [z0] at hc
  have N0 : (SZ s t [] []).length = s.length + (1 + t.length) := by rw [sz_len]; rfl
  obtain ⟨N, hN⟩ : ∃ N, N = s.length + (1 + t.length) := ⟨_, rfl⟩
  rw [← hN] at N0
  have mk := fun e => x_mkC (e := e) (init_eq (s := SZ s t [] []) (n := n) (m := m) (rs := rs) le)
  have a3 : SZ s t [] [] ++ [.ins "Playing" (plF n m rs (N + 1) (N + 2)), .lst ((zeros n).map natA), .dT []] = SZ s t [] (l3 n m rs N) := by
    simp [SZ, l3]
  rw [N0, a3] at mk
  have s1 := fun e => sz_set (s := s) (t := t) (fs := []) (l := l3 n m rs N) (f := "playing") (v := .ref N) (by decide) e
  rw [p1] at s1
  have s2 := fun e => sz_set (s := s) (t := t) (fs := fl1 N) (l := l3 n m rs N) (f := "begin") (v := stA (zeros n)) (by simp [fl1]) e
  rw [p2] at s2
  have s3 := sz_setA (s := s) (t := t) (fs := fl2 n N) (l := l6 n m rs N) (f := "line") (v := .ref (N + 3)) (by simp [fl2])
  rw [p3] at s3
  have s4 := sz_setA (s := s) (t := t) (fs := fl3 n N) (l := l6 n m rs N) (f := "moves") (v := .ref (N + 4)) (by simp [fl3])
  rw [p4] at s4
  have s5 := sz_setA (s := s) (t := t) (fs := fl4 n N) (l := l6 n m rs N) (f := "queues") (v := .ref (N + 5)) (by simp [fl4])
  rw [p5] at s5
  have A1 := fun e he => stands_A1 (s := s) (t := t) (n := n) (m := m) (rs := rs) hN e he
  have A2 := fun e he => stands_A2 (s := s) (t := t) (n := n) (m := m) (rs := rs) hN e he
  have B0 := stands_B0 (s := s) (t := t) (n := n) (m := m) (rs := rs) hN
  have N1 : s.length < N := by omega
  obtain ⟨L, c6', s', b, B1, wh⟩ := walk_eq (c1 := some (handsA n)) (c2 := some (mnA m)) (c3 := some (rowsA rs)) (c6 := none) (c7 := none) w ht (by omega) B0
  have lf := few w ht b.nd b.run
  -- the counts
  have lz := (List.getElem?_eq_some_iff.mp B1.S.o).1
  have S2 : SAt (s' ++ [.dT []]) s.length N (N + 3) (N + 4) (N + 5) n m rs [] L L := B1.S.fr (Fr.app (ks := [])) (by simp) (by simp) (by simp) (by simp) (by simp)
  have co2 : (s' ++ [.dT []] : Sto)[s'.length]? = some (.dT []) := get_last
  have F2' : Fr s (s' ++ [.dT []]) [s.length, N, N + 3, N + 4, N + 5, N + 6] := B1.fr.trans (Fr.app (ks := _))
  have l2 : (s' ++ [.dT []] : Sto).length = s'.length + 1 := by simp
  have lm := (List.getElem?_eq_some_iff.mp B1.S.hm).1
  have lq : N + 5 < s'.length := by
    obtain ⟨f, _, hq⟩ := B1.S.hq
    exact (List.getElem?_eq_some_iff.mp hq).1
  have fl := B1.fr.len
  have dd : ∀ e, eDT e s' = .ok (.ref s'.length) (s' ++ [.dT []]) := fun e => rfl
  generalize hs2 : (s' ++ [.dT []] : Sto) = s2' at *
  have fs2 := setFA_ref (f := "counts") (v := .ref s'.length) S2.o (by simp [stF])
  rw [p6] at fs2
  obtain ⟨n1, n2, n3, n4, n5, n6, n7, n8, n9⟩ := S2.nes
  have F3' : Fr s2' (s2'.set s.length (.ins "Stands" (stF n N (N + 3) (N + 4) (N + 5) [(("counts" : Str), .ref s'.length)]))) [s.length] := .set (by simp)
  have S3 : SAt (s2'.set s.length (.ins "Stands" (stF n N (N + 3) (N + 4) (N + 5) [(("counts" : Str), .ref s'.length)]))) s.length N (N + 3) (N + 4) (N + 5) n m rs [(("counts" : Str), .ref s'.length)] L L := by
    obtain ⟨a, b, hp⟩ := S2.hp
    obtain ⟨f, hf, hq⟩ := S2.hq
    exact ⟨List.getElem?_set_self (by omega), .inr ⟨_, rfl⟩, ⟨a, b, F3'.at hp (by simpa using Ne.symm n1)⟩, F3'.at S2.hl (by simpa using Ne.symm n2), F3'.at S2.hm (by simpa using Ne.symm n3), ⟨f, hf, F3'.at hq (by simpa using Ne.symm n4)⟩, S2.ne⟩
  have co3 := F3'.at co2 (by simp; omega)
  have F4' : Fr s (s2'.set s.length (.ins "Stands" (stF n N (N + 3) (N + 4) (N + 5) [(("counts" : Str), .ref s'.length)]))) [s.length, N, N + 3, N + 4, N + 5, N + 6, s'.length] :=
    (F2'.mono (by intro k hk; simp at hk ⊢; omega)).trans (F3'.mono (by simp))
  generalize s2'.set s.length (.ins "Stands" (stF n N (N + 3) (N + 4) (N + 5) [(("counts" : Str), .ref s'.length)])) = s3' at *
  obtain ⟨e4, s4', g1, S4, F5', co4⟩ := counts_eq (c1 := some (handsA n)) (c2 := some (mnA m)) (c3 := some (rowsA rs)) (c4 := some (.ref (N + 6))) (c5 := some (.int (L.length : Nat))) (c6 := c6') (c7 := none) w cmp b (by omega) S3 F4' co3 (by simp) (by omega)
  have ex := F5'.ext (by simp; omega)
  have q3 := fun e => x_fldC (e := e) S3.o g_line
  refine ⟨s4', L, N, N + 3, N + 4, N + 5, s'.length, ?_, ⟨S4, b, ex, co4⟩⟩
  have zt := fun s => zeros_tup h2 le s
  have fm := fun e => x_fldM2 (e := e) fs2
  have rv := revR_r S3.hl
  unfold turnT turnB nextB at wh
  unfold cntB at g1
  rw [e_Stands___init__]
  unfold m_Stands___init__
  generalize hy : s ++ [AO.ins "Stands" []] = y at *
  generalize hy0 : SZ s t [] [] = y0 at *
  generalize SZ s t [] (l3 n m rs N) = y1 at *
  generalize SZ s t (fl1 N) (l3 n m rs N) = y2 at *
  generalize SZ s t (fl2 n N) (l3 n m rs N) = y3 at *
  generalize SZ s t (fl2 n N) (l6 n m rs N) = y4 at *
  generalize SZ s t (fl3 n N) (l6 n m rs N) = y5 at *
  generalize SZ s t (fl4 n N) (l6 n m rs N) = y6 at *
  generalize SZ s t (fl5 n N) (l6 n m rs N) = y7 at *
  generalize SZ s t (fl5 n N) (l7 n m rs N) = y8 at *
  simp -implicitDefEqProofs [-x_tup, -x_dT, A0, c1, hc, mk, s1, hands_len, zt, s2, A1, s3, s4, s5, A2, wh, dd, fm, q3, rv, g1]
/-- the number of orders -/
theorem many_orders_eq (w : Own n rs) (h2 : 2 ≤ n) (ht : total rs ≤ 8) (du : due m rs) : ∃ t, f_many_orders [handsA n, mnA m, rowsA rs] s = .ok (.int (runsN m rs (total rs) (zeros n) : Nat)) (s ++ t) := by
  obtain ⟨s', L, pl, li, mo, qu, co, ei, ok⟩ := stands_init (s := s) w h2 ht du
  obtain ⟨t, rfl⟩ := ok.fr
  refine ⟨t, ?_⟩
  have mk := fun e => x_mkC (e := e) ei
  have q1 := fun e => x_fldC (e := e) (f := "counts") (a := .ref co) ok.S.o (by rw [g_rest _ (by decide) (by decide) (by decide) (by decide) (by decide)]; rfl)
  have q2 := fun e => x_fldC (e := e) ok.S.o g_begin
  have mz : zeros n ∈ L.reverse := by rw [List.mem_reverse]; exact List.mem_of_getElem? ok.b.hd
  have ix := ixA_dT ok.co (asTK_st (zeros n)) (val_st (f := fun st => AV.int (Pm.cnt m rs st : Nat)) mz)
  have cz : Pm.cnt m rs (zeros n) = runsN m rs (total rs) (zeros n) := by
    unfold Pm.cnt
    have : (zeros n).sum = 0 := by simp [zeros]
    rw [this, Nat.sub_zero]
  rw [cz] at ix
  generalize s ++ t = s1 at *
  rw [e_many_orders]
  unfold m_many_orders
  simp -implicitDefEqProofs [mk, q1, q2, ix]
end
end K76
end S
set_option Elab.async false
set_option linter.all false
set_option maxRecDepth 100000
set_option maxHeartbeats 4000000
/-! Mathematics, N.S: the law's parts. -/
namespace S
open PySem PySem.Spec PyProof.Rows L2
namespace K76
open PySem PySem.Spec PyProof.Rows L2 Pm
noncomputable def lawM : SM := (sSeq (sAsg (gTp 2 (gsCons (gNm 7) (gsCons (gNm 8) gsNil))) (eFn f__law_greedy (aCons (eVar 3) (aCons (eVar 6) (aCons (eVar 4) aNil)))))
    (sSeq (sSet 9 (eFn f__law_is_chart (aCons (eVar 3) (aCons (eVar 6) (aCons (eVar 4) aNil)))))
    (sSeq (sIf (mNot (asT (eFn f__law_alike (aCons (eFn f_is_chart (aCons (eVar 3) (aCons (eVar 6) (aCons (eVar 4) aNil)))) (aCons (eVar 9) aNil))))) (sRet (eC (.bl false))) sPass)
    (sSeq (sIf (mNot (asT (eFn f__law_alike (aCons (eFn f_stopped_at (aCons (eVar 3) (aCons (eVar 6) (aCons (eVar 4) aNil)))) (aCons (eIf (asT (eVar 9)) (eC .non) (eVar 8)) aNil))))) (sRet (eC (.bl false))) sPass)
    (sExpr (eBMT "list" appendA (eVar 5) (aCons (eVar 9) aNil)))))))
noncomputable def lawIf1 : SM := (sIf (mOr (mAnd (asT (eOp ixA (eVar 5) (eC (.int 0)))) (mNot (asT (eOp ixA (eVar 5) (eC (.int 1)))))) (mAnd (asT (eOp ixA (eVar 5) (eC (.int 1)))) (asB (eOp (eqA true) (eOp ixA (eVar 5) (eC (.int 0))) (eFn f__law_kept (aCons (eVar 3) (aCons (eVar 4) aNil))))))) (sRet (eC (.bl false))) sPass)
noncomputable def lawIf2 : SM := (sIf (mNot (asT (eFn f__law_alike (aCons (eFn f_is_of_both (aCons (eVar 3) (aCons (eVar 4) aNil))) (aCons (eAndB (eOp ixA (eVar 5) (eC (.int 0))) (eOp ixA (eVar 5) (eC (.int 1)))) aNil))))) (sRet (eC (.bl false))) sPass)
noncomputable def lawIf3 : SM := (sIf (asT (eOp ixA (eVar 5) (eC (.int 1)))) (sSeq (sSet 10 (eFn f_unlike_takes (aCons (eVar 3) (aCons (eVar 4) aNil))))
    (sIf (mOr (asB (eOp (eqA true) (eOp (eqA false) (eVar 10) (eTup aNil)) (eFn f__law_headed (aCons (eVar 3) (aCons (eVar 4) aNil))))) (mNot (asT (eFn f__law_alike (aCons (eFn f_charts_in_order (aCons (eTup (aCons (eVar 3) (aCons (eC (.str "any")) (aCons (eTup (aCons (eVar 4) aNil)) aNil)))) aNil)) (aCons (eIf (asT (eOp ixA (eVar 5) (eC (.int 0)))) (eTup (aCons (eC (.int 0)) aNil)) (eTup aNil)) aNil)))))) (sRet (eC (.bl false))) sPass)) sPass)
noncomputable def lawIf4 : SM := (sIf (mAnd (asT (eOp ixA (eVar 5) (eC (.int 0)))) (asT (eOp ixA (eVar 5) (eC (.int 1))))) (sSeq (sSet 11 (eLc (iT (eTup (aCons (eC (.str "order")) (aCons (eC (.str "any")) aNil)))) (.nm 6) yesM (eFnN f__law_orders (aCons (eVar 3) (aCons (eVar 6) (aCons (eVar 4) (aCons (eC (.int 300)) aNil))))) [6]))
    (sIf (mAnd (asB (eOp (inA true) (eC .non) (eVar 11))) (asB (eOp (eqA true) (eLst (aCons (eFn f_many_orders (aCons (eVar 3) (aCons (eC (.str "order")) (aCons (eVar 4) aNil)))) (aCons (eFn f_many_orders (aCons (eVar 3) (aCons (eC (.str "any")) (aCons (eVar 4) aNil)))) aNil))) (eLc (iL (eVar 11)) (.nm 12) yesM (eCall lenA (aCons (eVar 12) aNil)) [12])))) (sRet (eC (.bl false))) sPass)) sPass)
section
variable {n k : Nat} {m : Bool} {rs : Rows} {S : Sto} {xs : List AV} {c0 c1 c2 c6 c7 c8 c9 c10 c11 c12 : Option AV}
theorem end_small (w : Own n rs) (h2 : 2 ≤ n) (ht : total rs ≤ 8) : (gree m rs (total rs)).2.length = n ∧ ∀ x ∈ (gree m rs (total rs)).2, x < 9 := by
  have v := gree_vd (m := m) w (total rs)
  refine ⟨v.len, fun x hx => ?_⟩
  obtain ⟨i, hi, e⟩ := List.getElem_of_mem hx
  have hin : i < n := by rw [← v.len]; exact hi
  have l1 := v.le i hin
  have l2 := len_le_total (w.toWf.row hin).2
  have l3 : (gree m rs (total rs)).2.getD i 0 = x := by simp [List.getD, hi, e]
  omega
theorem law_one (w : Own n rs) (h2 : 2 ≤ n) (ht : total rs ≤ 8) (hk : S[k]? = some (.lst xs)) (hx : xs.length ≤ 10) :
    ∃ S' d d7 d8 d9, lawM [c0, c1, c2, some (handsA n), some (rowsA rs), some (.ref k), some (mnA m), c7, c8, c9, c10, c11, c12] S = .nx [c0, c1, c2, some (handsA n), some (rowsA rs), some (.ref k), some (mnA m), d7, d8, d9, c10, c11, c12] S' ∧
      (d = true ↔ due m rs) ∧ S'[k]? = some (.lst (xs ++ [.bl d])) ∧ Fr S S' [k] := by
  have le := w.le
  have kl := (List.getElem?_eq_some_iff.mp hk).1
  have ge := greedy_eq (m := m) (s := S) w
  obtain ⟨es, e9⟩ := end_small (m := m) w h2 ht
  generalize hst : (gree m rs (total rs)).2 = stt at *
  generalize (gree m rs (total rs)).1 = oo at *
  obtain ⟨b, t1, e1, hb⟩ := is_chart_eq (m := m) (s := S ++ [AO.lst (stt.map natA)]) w
  obtain ⟨t2, b2, e2, hb2⟩ := p_is_chart_eq (m := m) (s := S ++ [AO.lst (stt.map natA)] ++ t1) w h2 (by omega)
  have bb : b2 = b := by rw [Bool.eq_iff_iff, hb, hb2]
  subst bb
  have al := fun s => alike_bl b2 s
  obtain ⟨t3, e3, e4⟩ := stopped_at_eq (m := m) (s := S ++ [AO.lst (stt.map natA)] ++ t1 ++ t2) w h2 (by omega)
  rw [hst] at e4
  have hk3 : (S ++ [AO.lst (stt.map natA)] ++ t1 ++ t2 ++ t3)[k]? = some (.lst xs) := by
    simp only [List.append_assoc]
    rw [List.getElem?_append_left kl]; exact hk
  have F : Fr S (S ++ [AO.lst (stt.map natA)] ++ t1 ++ t2 ++ t3) [k] := by
    simp only [List.append_assoc]; exact Fr.app
  have an := fun s => alike_nats (st := stt) (by omega) (by omega) e9 s
  have a0 := fun s => alike_non s
  generalize S ++ [AO.lst (stt.map natA)] = S1 at *
  generalize S1 ++ t1 = S2 at *
  generalize S2 ++ t2 = S3 at *
  generalize S3 ++ t3 = S4 at *
  have bm : bmOk "list" (.ref k) S4 = true := by simp [bmOk, hk3]
  have ap : appendA (.ref k) [.bl b2] S4 = some (.non, S4.set k (.lst (xs ++ [.bl b2]))) := by
    simp only [appendA, hk3]
    rw [if_pos (by omega)]
  have F2 : Fr S4 (S4.set k (.lst (xs ++ [.bl b2]))) [k] := .set (by simp)
  refine ⟨S4.set k (.lst (xs ++ [.bl b2])), b2, some (.tpS (oo.map natA)), some (.tup (stt.map natA)), some (.bl b2), ?_, hb, List.getElem?_set_self (List.getElem?_eq_some_iff.mp hk3).1, F.trans F2⟩
  unfold lawM
  by_cases c : due m rs
  · have e5 := e3 c
    have : b2 = true := hb.mpr c
    subst this
    simp -implicitDefEqProofs [-List.map_append, ge, e1, e2, al, e5, a0, x_bmC bm, ap]
  · have e5 := e4 c
    have : b2 = false := by cases h : b2 with
      | false => rfl
      | true => exact absurd (hb.mp h) c
    subst this
    simp -implicitDefEqProofs [-List.map_append, ge, e1, e2, al, e5, an, x_bmC bm, ap]
variable {d0 d1 : Bool}
theorem ix_b (hk : S[k]? = some (.lst [.bl d0, .bl d1])) (t : Sto) : ixA (.ref k) (.int 0) (S ++ t) = some (.bl d0, S ++ t) ∧ ixA (.ref k) (.int 1) (S ++ t) = some (.bl d1, S ++ t) := by
  have : (S ++ t)[k]? = some (.lst [.bl d0, .bl d1]) := by rw [List.getElem?_append_left (List.getElem?_eq_some_iff.mp hk).1]; exact hk
  exact ⟨ixA_ref this (atI_some (k := 0) rfl), ixA_ref this (atI_some (k := 1) rfl)⟩
theorem law_if1 (w : Own n rs) (hk : S[k]? = some (.lst [.bl d0, .bl d1])) (h0 : d0 = true ↔ due true rs) (h1 : d1 = true ↔ due false rs) :
    lawIf1 [c0, c1, c2, some (handsA n), some (rowsA rs), some (.ref k), c6, c7, c8, c9, c10, c11, c12] S = .nx [c0, c1, c2, some (handsA n), some (rowsA rs), some (.ref k), c6, c7, c8, c9, c10, c11, c12] S := by
  obtain ⟨i0, i1⟩ := ix_b hk []
  rw [List.append_nil] at i0 i1
  have ke := kept_eq (s := S) w
  have ki := kept_iff w
  generalize (List.range n).all (keptR rs n) = kb at ke ki
  unfold lawIf1
  cases d1 with
  | false =>
    have : d0 = false := by
      cases h : d0 with
      | false => rfl
      | true => exact absurd (h1.mpr (due_any w (h0.mp h))) (by decide)
    subst this
    simp -implicitDefEqProofs [i0, i1]
  | true =>
    have : kb = d0 := by
      rw [Bool.eq_iff_iff, ki, h0]
      exact ⟨fun k => due_order w (h1.mp rfl) k, due_kept⟩
    subst this
    have eb : ∀ s, eqA true (.bl kb) (.bl kb) s = some (.bl false, s) := fun s => by rw [eqA_bl]; simp
    cases kb <;> simp -implicitDefEqProofs [i0, i1, ke, eb]
theorem law_if2 (w : Own n rs) (h2 : 2 ≤ n) (ht : total rs ≤ 8) (hk : S[k]? = some (.lst [.bl d0, .bl d1])) (h0 : d0 = true ↔ due true rs) (h1 : d1 = true ↔ due false rs) :
    ∃ t, lawIf2 [c0, c1, c2, some (handsA n), some (rowsA rs), some (.ref k), c6, c7, c8, c9, c10, c11, c12] S = .nx [c0, c1, c2, some (handsA n), some (rowsA rs), some (.ref k), c6, c7, c8, c9, c10, c11, c12] (S ++ t) := by
  obtain ⟨t, b, e, hb⟩ := is_of_both_eq (s := S) w h2 (by omega)
  obtain ⟨i0, i1⟩ := ix_b hk t
  have bb : b = (d0 && d1) := by rw [Bool.eq_iff_iff, hb, Bool.and_eq_true, h0, h1]
  subst bb
  refine ⟨t, ?_⟩
  have al := fun s => alike_bl (d0 && d1) s
  generalize S ++ t = S1 at *
  unfold lawIf2
  cases d0 <;> cases d1 <;> simp -implicitDefEqProofs [e, i0, i1] <;> simp -implicitDefEqProofs at al <;> simp -implicitDefEqProofs [al]
theorem alike_zero (b : Bool) (s : Sto) : f__law_alike [.tup (if b then [.int 0] else []), .tup (if b then [.int 0] else [])] s = .ok (.bl true) s := by
  cases b with
  | true => exact alike_d (d := .tuple [.int 0]) rfl rfl (by decide +kernel) (by
      have p : Pl 1 (.tup [.int 0]) (.tuple [.int 0]) := .tup (.cons (.int 0 0) (.nil 0))
      show eqA false (.tup [.int 0]) (.tup [.int 0]) s = _
      rw [eqA_pl (p := True) false (p.s (s := s)) (p.s (s := s)) (by simp)]
      rfl)
  | false => exact alike_d (d := .tuple []) rfl rfl (by decide +kernel) (by
      have p : Pl 1 (.tup []) (.tuple []) := .tup (.nil 0)
      show eqA false (.tup []) (.tup []) s = _
      rw [eqA_pl (p := True) false (p.s (s := s)) (p.s (s := s)) (by simp)]
      rfl)
theorem law_if3 (w : Own n rs) (h2 : 2 ≤ n) (ht : total rs ≤ 8) (hk : S[k]? = some (.lst [.bl d0, .bl d1])) (h0 : d0 = true ↔ due true rs) (h1 : d1 = true ↔ due false rs) :
    ∃ t d10, lawIf3 [c0, c1, c2, some (handsA n), some (rowsA rs), some (.ref k), c6, c7, c8, c9, c10, c11, c12] S = .nx [c0, c1, c2, some (handsA n), some (rowsA rs), some (.ref k), c6, c7, c8, c9, d10, c11, c12] (S ++ t) := by
  obtain ⟨i0, i1⟩ := ix_b hk []
  rw [List.append_nil] at i0 i1
  unfold lawIf3
  cases d1 with
  | false =>
    refine ⟨[], c10, ?_⟩
    rw [List.append_nil]
    simp -implicitDefEqProofs [i1]
  | true =>
    have du := h1.mp rfl
    obtain ⟨t1, a, e1, ea⟩ := unlike_eq (s := S) w h2 (by omega) du
    obtain ⟨t2, e2⟩ := headed_eq (s := S ++ t1) w du
    obtain ⟨t3, b, e3, hb⟩ := in_order_eq (m := false) (s := S ++ t1 ++ t2) w h2 (by omega) du
    have e3 : f_charts_in_order [.tup [handsA n, .str "any", .tup [rowsA rs]]] (S ++ t1 ++ t2) = _ := e3
    have bb : b = d0 := by rw [Bool.eq_iff_iff, hb, h0]
    subst bb
    obtain ⟨j0, j1⟩ := ix_b hk (t1 ++ t2 ++ t3)
    rw [← List.append_assoc, ← List.append_assoc] at j0
    have eb : ∀ s, eqA true (.bl (headed rs (total rs))) (.bl (headed rs (total rs))) s = some (.bl false, s) := fun s => by rw [eqA_bl]; simp
    have al := fun s => alike_zero b s
    refine ⟨t1 ++ t2 ++ t3, some a, ?_⟩
    rw [← List.append_assoc, ← List.append_assoc]
    generalize S ++ t1 = S1 at *
    generalize S1 ++ t2 = S2 at *
    generalize S2 ++ t3 = S3 at *
    cases b <;> simp -implicitDefEqProofs at al e3 <;> simp -implicitDefEqProofs [i1, e1, ea, e2, eb, e3, j0, al]
theorem in_non {N : Nat} {a1 a2 : AV} {e1 e2 : PyData} (p1 : Pl N a1 e1) (p2 : Pl N a2 e2) (hN : N < 64) (s : Sto) : inA true .non (.lst [a1, a2]) s = some (.bl (!(isND e1 || isND e2)), s) := by
  have p : Pl (N + 1) (.lst [a1, a2]) (.list [e1, e2]) := .lst (.cons p1 (.cons p2 (.nil N)))
  have pn : Pl 0 .non .none := .non 0
  have sh := (p.s (by omega) s).shaped
  have sn := (pn.s (by omega) s).shaped
  have q1 : PyData.eqv e1 .none = isND e1 := Bool.eq_iff_iff.mpr (by rw [eqv_gd _ _ p1.2.1 rfl]; cases e1 <;> simp [isND])
  have q2 : PyData.eqv e2 .none = isND e2 := Bool.eq_iff_iff.mpr (by rw [eqv_gd _ _ p2.2.1 rfl]; cases e2 <;> simp [isND])
  simp only [inA, inB, dgetA, pdA, p.1, pn.1, Option.bind_some, seqD, Option.map_some, sh, sn, and_self, if_true, List.any_cons, List.any_nil, Bool.or_false, q1, q2]
theorem perm_pl {X : List AV} {L : List (List Nat)} (h : X.Perm (L.map orA)) : ∃ ds, Pls 1 X ds := by
  obtain ⟨ds, p, _⟩ := pls_of (n := 1) X fun a ha => by
    obtain ⟨o, _, rfl⟩ := List.mem_map.mp ((h.mem_iff).mp ha)
    exact ⟨_, pl_or o⟩
  exact ⟨ds, p⟩
theorem orders_pl {a : AV} {L : List (List Nat)} (h : a = .non ∨ ∃ X : List AV, a = .lst X ∧ X.Perm (L.map orA) ∧ X.length ≤ 1000) : ∃ e, Pl 2 a e ∧ (isND e = true ∨ ∃ X : List AV, a = .lst X ∧ X.length = L.length ∧ X.length ≤ 1000 ∧ isND e = false) := by
  rcases h with rfl | ⟨X, rfl, p, hl⟩
  · exact ⟨.none, .non 2, .inl rfl⟩
  · obtain ⟨ds, q⟩ := perm_pl p
    exact ⟨.list ds, .lst q, .inr ⟨X, rfl, by rw [p.length_eq, List.length_map], hl, rfl⟩⟩
theorem law_if4 (w : Own n rs) (h2 : 2 ≤ n) (ht : total rs ≤ 8) (hk : S[k]? = some (.lst [.bl d0, .bl d1])) (h0 : d0 = true ↔ due true rs) (h1 : d1 = true ↔ due false rs) :
    ∃ t d11, lawIf4 [c0, c1, c2, some (handsA n), some (rowsA rs), some (.ref k), c6, c7, c8, c9, c10, c11, c12] S = .nx [c0, c1, c2, some (handsA n), some (rowsA rs), some (.ref k), c6, c7, c8, c9, c10, d11, c12] (S ++ t) := by
  obtain ⟨i0, i1⟩ := ix_b hk []
  rw [List.append_nil] at i0 i1
  unfold lawIf4
  by_cases c : d0 = true ∧ d1 = true
  · obtain ⟨rfl, rfl⟩ := c
    have du := h0.mp rfl
    have dv := h1.mp rfl
    obtain ⟨a1, x1, ⟨t1, rfl, k1⟩, e1⟩ := orders_eq (m := true) (s := S) (lim := 300) w (by decide) (by decide)
    obtain ⟨a2, x2, ⟨t2, rfl, k2⟩, e2⟩ := orders_eq (m := false) (s := S ++ t1) (lim := 300) w (by decide) (by decide)
    have e1 : f__law_orders [handsA n, .str "order", rowsA rs, .int 300] S = _ := e1
    have e2 : f__law_orders [handsA n, .str "any", rowsA rs, .int 300] (S ++ t1) = _ := e2
    obtain ⟨y1, p1, q1⟩ := orders_pl k1
    obtain ⟨y2, p2, q2⟩ := orders_pl k2
    have nn := fun s => in_non p1 p2 (by decide) s
    have L1 : ∀ e : AE, e.length = 13 → e[3]? = some (some (handsA n)) → e[4]? = some (some (rowsA rs)) → lcC (.nm 6) yesM (eFnN f__law_orders (aCons (eVar 3) (aCons (eVar 6) (aCons (eVar 4) (aCons (eC (.int 300)) aNil))))) [6] ⟨[.str "order", .str "any"], []⟩ e S = .ok (.lst [a1, a2]) (S ++ t1 ++ t2) := fun e el u3 u4 => by
      match e, el with
      | [b0, b1, b2, b3, b4, b5, b6, b7, b8, b9, b10, b11, b12], _ =>
        simp at u3 u4
        subst u3 u4
        have ok : ∀ s : Sto, Src.ok ⟨[.str "order", .str "any"], []⟩ s := fun s q hq => by cases hq
        have r1 : eFnN f__law_orders (aCons (eVar 3) (aCons (eVar 6) (aCons (eVar 4) (aCons (eC (.int 300)) aNil)))) [b0, b1, b2, some (handsA n), some (rowsA rs), b5, some (.str "order"), b7, b8, b9, b10, b11, b12] S = .ok a1 (S ++ t1) := by
          simp -implicitDefEqProofs [e1, fnNC, noX]
        have r2 : eFnN f__law_orders (aCons (eVar 3) (aCons (eVar 6) (aCons (eVar 4) (aCons (eC (.int 300)) aNil)))) [b0, b1, b2, some (handsA n), some (rowsA rs), b5, some (.str "any"), b7, b8, b9, b10, b11, b12] (S ++ t1) = .ok a2 (S ++ t1 ++ t2) := by
          simp -implicitDefEqProofs [-List.append_assoc, e2, fnNC, noX]
        have w6 : wipeA [b0, b1, b2, some (handsA n), some (rowsA rs), b5, b6, b7, b8, b9, b10, b11, b12] [6] = [b0, b1, b2, some (handsA n), some (rowsA rs), b5, none, b7, b8, b9, b10, b11, b12] := rfl
        have s1 : setP (.nm 6) (.str "order") [b0, b1, b2, some (handsA n), some (rowsA rs), b5, none, b7, b8, b9, b10, b11, b12] = some [b0, b1, b2, some (handsA n), some (rowsA rs), b5, some (.str "order"), b7, b8, b9, b10, b11, b12] := rfl
        have s2 : setP (.nm 6) (.str "any") [b0, b1, b2, some (handsA n), some (rowsA rs), b5, none, b7, b8, b9, b10, b11, b12] = some [b0, b1, b2, some (handsA n), some (rowsA rs), b5, some (.str "any"), b7, b8, b9, b10, b11, b12] := rfl
        show lcGo _ _ _ _ (wipeA _ _) _ _ _ = _
        rw [w6, lcGo, if_pos (ok _), s1]
        dsimp only [yesM]
        rw [r1]
        dsimp only
        rw [if_pos (by simp), lcGo, if_pos (ok _), s2]
        dsimp only [yesM]
        rw [r2]
        dsimp only
        rw [if_pos (by simp), lcGo, if_pos (ok _)]
        rfl
    rcases q1 with q1 | ⟨X1, r1, l1, g1, z1⟩
    · have : (isND y1 || isND y2) = true := by rw [q1]; simp
      rw [this] at nn
      refine ⟨t1 ++ t2, some (.lst [a1, a2]), ?_⟩
      rw [← List.append_assoc]
      simp -implicitDefEqProofs [-List.append_assoc, i0, i1]
      rw [L1 _ rfl rfl rfl]
      simp -implicitDefEqProofs [-List.append_assoc, nn]
    · rcases q2 with q2 | ⟨X2, r2, l2, g2, z2⟩
      · have : (isND y1 || isND y2) = true := by rw [q2]; simp
        rw [this] at nn
        refine ⟨t1 ++ t2, some (.lst [a1, a2]), ?_⟩
        rw [← List.append_assoc]
        simp -implicitDefEqProofs [-List.append_assoc, i0, i1]
        rw [L1 _ rfl rfl rfl]
        simp -implicitDefEqProofs [-List.append_assoc, nn]
      · have : (isND y1 || isND y2) = false := by simp [z1, z2]
        rw [this] at nn
        subst r1 r2
        obtain ⟨t3, e3⟩ := many_orders_eq (m := true) (s := S ++ t1 ++ t2) w h2 ht du
        obtain ⟨t4, e4⟩ := many_orders_eq (m := false) (s := S ++ t1 ++ t2 ++ t3) w h2 ht dv
        have e3 : f_many_orders [handsA n, .str "order", rowsA rs] (S ++ t1 ++ t2) = _ := e3
        have e4 : f_many_orders [handsA n, .str "any", rowsA rs] (S ++ t1 ++ t2 ++ t3) = _ := e4
        rw [← ordsK_len w, ← l1] at e3
        rw [← ordsK_len w, ← l2] at e4
        refine ⟨t1 ++ t2 ++ t3 ++ t4, some (.lst [.lst X1, .lst X2]), ?_⟩
        have as : S ++ (t1 ++ t2 ++ t3 ++ t4) = S ++ t1 ++ t2 ++ t3 ++ t4 := by simp
        rw [as]
        have L2 : ∀ (e : AE) s, e.length = 13 → lcC (.nm 12) yesM (eCall lenA (aCons (eVar 12) aNil)) [12] ⟨[.lst X1, .lst X2], []⟩ e s = .ok (.lst [.int (X1.length : Nat), .int (X2.length : Nat)]) s := fun e s el => by
          match e, el with
          | [b0, b1, b2, b3, b4, b5, b6, b7, b8, b9, b10, b11, b12], _ =>
            rw [lc_all (gd := []) (xs := [.lst X1, .lst X2]) [X1, X2] AV.lst (fun x => .int (x.length : Nat)) rfl (by simp) (by simp) (fun x hx => ⟨_, rfl, by simp -implicitDefEqProofs [wipeA]⟩)]
            rfl
        have pe : Pl 1 (.lst [.int (X1.length : Nat), .int (X2.length : Nat)]) (.list [.int (X1.length : Nat), .int (X2.length : Nat)]) := .lst (.cons (.int _ 0) (.cons (.int _ 0) (.nil 0)))
        have eq : ∀ s, eqA true (.lst [.int (X1.length : Nat), .int (X2.length : Nat)]) (.lst [.int (X1.length : Nat), .int (X2.length : Nat)]) s = some (.bl false, s) := fun s => by
          rw [eqA_pl (p := True) true (pe.s (s := s)) (pe.s (s := s)) (by simp)]
          rfl
        simp -implicitDefEqProofs [-List.append_assoc, i0, i1]
        rw [L1 _ rfl rfl rfl]
        simp -implicitDefEqProofs [-List.append_assoc, nn, e3, e4]
        rw [L2 _ _ rfl]
        simp -implicitDefEqProofs [-List.append_assoc, eq]
  · refine ⟨[], c11, ?_⟩
    rw [List.append_nil]
    cases d0 <;> cases d1 <;> first | exact absurd ⟨rfl, rfl⟩ c | simp -implicitDefEqProofs [i0, i1]
end
end K76
end S
set_option Elab.async false
set_option linter.all false
set_option maxRecDepth 100000
set_option maxHeartbeats 4000000
/-! Mathematics, N.T: the law. -/
namespace S
open PySem PySem.Spec PyProof.Rows L2
namespace K76
open PySem PySem.Spec PyProof.Rows L2 Pm
noncomputable def lawB : SM := (sSeq (sSet 3 (eSl (eTupS (aCons (eC (.str "a")) (aCons (eC (.str "b")) (aCons (eC (.str "c")) aNil)))) oNone (oSome (eOp addA (eC (.int 2)) (eFn f__law_take (aCons (eVar 1) (aCons (eC (.int 2)) aNil)))))))
    (sSeq (sSet 4 (eFn f__law_loose (aCons (eVar 1) (aCons (eVar 3) aNil))))
    (sSeq (sSet 5 (eLstR aNil))
    (sSeq (sFor (iT (eTup (aCons (eC (.str "order")) (aCons (eC (.str "any")) aNil)))) (.nm 6) lawM)
    (sSeq lawIf1 (sSeq lawIf2 (sSeq lawIf3 lawIf4)))))))
theorem for_nx {src : Src} {p : Pat} {mb : SM} {a : AV} {r : List AV} {e e1 e2 : AE} {s s2 : Sto} (ok : src.ok s) (h1 : setP p a e = some e1) (h2 : mb e1 s = .nx e2 s2) : forGo src p mb (a :: r) e s = forGo src p mb r e2 s2 := by
  rw [forGo, if_pos ok, h1]
  dsimp only
  rw [h2]
theorem for_nil {src : Src} {p : Pat} {mb : SM} {e : AE} {s : Sto} (ok : src.ok s) : forGo src p mb [] e s = .nx e s := by rw [forGo, if_pos ok]
theorem bag_fr {S S' : Sto} {b : Nat} {ks : List Nat} (B : BagAt S b) (F : Fr S S' ks) (h : b ∉ ks) : BagAt S' b := by
  obtain ⟨l, h1, h2⟩ := B
  exact ⟨l, F.at h1 h, h2⟩
theorem turn_eq {c0 c2 c3 c4 c5 c6 c7 c8 c9 c10 c11 c12 : Option AV} {S : Sto} {b : Nat} (B : BagAt S b) :
    ∃ S' d3 d4 d5 d6 d7 d8 d9 d10 d11 d12, lawB [c0, some (.ref b), c2, c3, c4, c5, c6, c7, c8, c9, c10, c11, c12] S = .nx [c0, some (.ref b), c2, d3, d4, d5, d6, d7, d8, d9, d10, d11, d12] S' ∧ BagAt S' b := by
  obtain ⟨l0, hb, bo⟩ := B
  obtain ⟨r, l1, e1, p0, p1, k1⟩ := take_eq (many := 2) hb bo (by decide) (by decide)
  have bl : b < S.length := (List.getElem?_eq_some_iff.mp hb).1
  have B1 : BagAt (S.set b (.lst l1)) b := ⟨l1, List.getElem?_set_self bl, k1⟩
  generalize S.set b (.lst l1) = S1 at *
  obtain ⟨n, hn, h2, h3⟩ : ∃ n : Nat, (2 + r = (n : Int)) ∧ 2 ≤ n ∧ n ≤ 3 := ⟨(2 + r).toNat, by omega, by omega, by omega⟩
  have sl : ∀ s, slA (.tpS [.str "a", .str "b", .str "c"]) none (some (2 + r)) s = some (handsA n, s) := fun s => by
    rw [hn]
    have : n = 2 ∨ n = 3 := by omega
    rcases this with rfl | rfl <;> rfl
  obtain ⟨R, S2, ⟨own, tot, gr⟩, e2⟩ := loose_eq h2 h3 B1
  have B2 := gr.bag
  have hk : (S2 ++ [.lst []] : Sto)[S2.length]? = some (.lst []) := get_last
  have B3 : BagAt (S2 ++ [.lst []]) b := bag_fr B2 (Fr.app (ks := [])) (by simp)
  have bl2 : b < S2.length := by obtain ⟨l, h, _⟩ := B2; exact (List.getElem?_eq_some_iff.mp h).1
  have nk : b ∉ [S2.length] := by simp; omega
  generalize hS3 : (S2 ++ [.lst []] : Sto) = S3 at *
  generalize hkl : S2.length = k at *
  obtain ⟨S4, d0, a7, a8, a9, f1, h0, hk4, F1⟩ := law_one (m := true) (c0 := c0) (c1 := some (.ref b)) (c2 := c2) (c7 := c7) (c8 := c8) (c9 := c9) (c10 := c10) (c11 := c11) (c12 := c12) own h2 tot hk (by simp)
  obtain ⟨S5, d1, b7, b8, b9, f2, h1, hk5, F2⟩ := law_one (m := false) (c0 := c0) (c1 := some (.ref b)) (c2 := c2) (c7 := a7) (c8 := a8) (c9 := a9) (c10 := c10) (c11 := c11) (c12 := c12) own h2 tot hk4 (by simp)
  have hk5 : S5[k]? = some (.lst [.bl d0, .bl d1]) := hk5
  have g1 := law_if1 (c0 := c0) (c1 := some (.ref b)) (c2 := c2) (c6 := some (mnA false)) (c7 := b7) (c8 := b8) (c9 := b9) (c10 := c10) (c11 := c11) (c12 := c12) own hk5 h0 h1
  obtain ⟨t2, g2⟩ := law_if2 (c0 := c0) (c1 := some (.ref b)) (c2 := c2) (c6 := some (mnA false)) (c7 := b7) (c8 := b8) (c9 := b9) (c10 := c10) (c11 := c11) (c12 := c12) own h2 tot hk5 h0 h1
  have F3 : Fr S5 (S5 ++ t2) [] := Fr.app
  have hk6 := F3.at hk5 (by simp)
  generalize S5 ++ t2 = S6 at *
  obtain ⟨t3, d10, g3⟩ := law_if3 (c0 := c0) (c1 := some (.ref b)) (c2 := c2) (c6 := some (mnA false)) (c7 := b7) (c8 := b8) (c9 := b9) (c10 := c10) (c11 := c11) (c12 := c12) own h2 tot hk6 h0 h1
  have F4 : Fr S6 (S6 ++ t3) [] := Fr.app
  have hk7 := F4.at hk6 (by simp)
  generalize S6 ++ t3 = S7 at *
  obtain ⟨t4, d11, g4⟩ := law_if4 (c0 := c0) (c1 := some (.ref b)) (c2 := c2) (c6 := some (mnA false)) (c7 := b7) (c8 := b8) (c9 := b9) (c10 := d10) (c11 := c11) (c12 := c12) own h2 tot hk7 h0 h1
  have F5 : Fr S7 (S7 ++ t4) [] := Fr.app
  generalize S7 ++ t4 = S8 at *
  have FF : Fr S3 S8 [k] := (((F1.trans F2).trans (F3.mono (by simp))).trans (F4.mono (by simp))).trans (F5.mono (by simp))
  refine ⟨S8, some (handsA n), some (rowsA R), some (.ref k), some (mnA false), b7, b8, b9, d10, d11, c12, ?_, bag_fr B3 FF nk⟩
  have ok : ∀ s : Sto, Src.ok ⟨[.str "order", .str "any"], []⟩ s := fun s q hq => by cases hq
  have fl : forC (.nm 6) lawM ⟨[.str "order", .str "any"], []⟩ [c0, some (.ref b), c2, some (handsA n), some (rowsA R), some (.ref k), c6, c7, c8, c9, c10, c11, c12] S3 = .nx [c0, some (.ref b), c2, some (handsA n), some (rowsA R), some (.ref k), some (mnA false), b7, b8, b9, c10, c11, c12] S5 := by
    have s1 : setP (.nm 6) (.str "order") [c0, some (.ref b), c2, some (handsA n), some (rowsA R), some (.ref k), c6, c7, c8, c9, c10, c11, c12] = some [c0, some (.ref b), c2, some (handsA n), some (rowsA R), some (.ref k), some (mnA true), c7, c8, c9, c10, c11, c12] := rfl
    have s2 : setP (.nm 6) (.str "any") [c0, some (.ref b), c2, some (handsA n), some (rowsA R), some (.ref k), some (mnA true), a7, a8, a9, c10, c11, c12] = some [c0, some (.ref b), c2, some (handsA n), some (rowsA R), some (.ref k), some (mnA false), a7, a8, a9, c10, c11, c12] := rfl
    exact (for_nx (ok _) s1 f1).trans ((for_nx (ok _) s2 f2).trans (for_nil (ok _)))
  have A : sSet 3 (eSl (eTupS (aCons (eC (.str "a")) (aCons (eC (.str "b")) (aCons (eC (.str "c")) aNil)))) oNone (oSome (eOp addA (eC (.int 2)) (eFn f__law_take (aCons (eVar 1) (aCons (eC (.int 2)) aNil)))))) [c0, some (.ref b), c2, c3, c4, c5, c6, c7, c8, c9, c10, c11, c12] S = .nx [c0, some (.ref b), c2, some (handsA n), c4, c5, c6, c7, c8, c9, c10, c11, c12] S1 := by
    simp -implicitDefEqProofs [e1, sl]
  have A2 : sSet 4 (eFn f__law_loose (aCons (eVar 1) (aCons (eVar 3) aNil))) [c0, some (.ref b), c2, some (handsA n), c4, c5, c6, c7, c8, c9, c10, c11, c12] S1 = .nx [c0, some (.ref b), c2, some (handsA n), some (rowsA R), c5, c6, c7, c8, c9, c10, c11, c12] S2 := by
    simp -implicitDefEqProofs [e2]
  have A3 : sSet 5 (eLstR aNil) [c0, some (.ref b), c2, some (handsA n), some (rowsA R), c5, c6, c7, c8, c9, c10, c11, c12] S2 = .nx [c0, some (.ref b), c2, some (handsA n), some (rowsA R), some (.ref k), c6, c7, c8, c9, c10, c11, c12] S3 := by
    simp -implicitDefEqProofs [hS3, hkl]
  have A4 : sFor (iT (eTup (aCons (eC (.str "order")) (aCons (eC (.str "any")) aNil)))) (.nm 6) lawM [c0, some (.ref b), c2, some (handsA n), some (rowsA R), some (.ref k), c6, c7, c8, c9, c10, c11, c12] S3 = .nx [c0, some (.ref b), c2, some (handsA n), some (rowsA R), some (.ref k), some (mnA false), b7, b8, b9, c10, c11, c12] S5 := by
    simp -implicitDefEqProofs [fl]
  unfold lawB
  rw [x_seq, A, bQ_nx, x_seq, A2, bQ_nx, x_seq, A3, bQ_nx, x_seq, A4, bQ_nx, x_seq, g1, bQ_nx, x_seq, g2, bQ_nx, x_seq, g3, bQ_nx, g4]
theorem law_main (ns : List Int) (h : ns.length ≤ 63) : ∃ s', f_law [.scr (ns.map AV.int)] [] = .ok (.bl true) s' := by
  obtain ⟨l, e0, bo⟩ := bag_eq h
  have r6 : ∀ s, rSrc (.ok (.int 6) s) = .ok ⟨(List.range 6).map natA, []⟩ s := fun s => rSrc_n (k := 6) (by decide)
  have key := rng_for (p := .nm 2) (mb := lawB) (N := 6) (e := [some (.scr (ns.map AV.int)), some (.ref 0), none, none, none, none, none, none, none, none, none, none, none]) (s := [.lst l])
    (fun j e s => ∃ c2 c3 c4 c5 c6 c7 c8 c9 c10 c11 c12, e = [some (.scr (ns.map AV.int)), some (.ref 0), c2, c3, c4, c5, c6, c7, c8, c9, c10, c11, c12] ∧ BagAt s 0)
    ⟨_, _, _, _, _, _, _, _, _, _, _, rfl, ⟨l, rfl, bo⟩⟩ fun j e s hj ⟨c2, c3, c4, c5, c6, c7, c8, c9, c10, c11, c12, he, B⟩ => by
      subst he
      refine ⟨_, rfl, ?_⟩
      obtain ⟨S', d3, d4, d5, d6, d7, d8, d9, d10, d11, d12, eq, B'⟩ := turn_eq (c0 := some (.scr (ns.map AV.int))) (c2 := some (natA j)) (c3 := c3) (c4 := c4) (c5 := c5) (c6 := c6) (c7 := c7) (c8 := c8) (c9 := c9) (c10 := c10) (c11 := c11) (c12 := c12) B
      exact ⟨_, S', eq, _, _, _, _, _, _, _, _, _, _, _, rfl, B'⟩
  obtain ⟨e', s', f1, c2, c3, c4, c5, c6, c7, c8, c9, c10, c11, c12, rfl, B⟩ := key
  refine ⟨s', ?_⟩
  rw [e_law]
  unfold m_law
  unfold lawB lawM lawIf1 lawIf2 lawIf3 lawIf4 at f1
  generalize ns.map AV.int = X at *
  simp -implicitDefEqProofs [e0, r6, f1]
end K76
end S
set_option Elab.async false
set_option linter.all false
set_option maxRecDepth 100000
set_option maxHeartbeats 4000000
namespace S
namespace K76
open PySem PySem.Spec PyProof.Rows L2 StX
open He in
def fas : List He.Fa := [.free "abs", .free "all", .free "any", .free "dict", .free "enumerate", .free "int", .free "isinstance", .free "len", .free "list", .free "max", .free "range", .free "repr", .free "sorted", .free "str", .free "sum", .free "tuple", .free "zip", .glo "BadChart", .glo "MANNERS", .glo "Playing", .glo "RESERVED", .glo "Stands", .glo "TooLarge", .glo "_law_alike", .glo "_law_bag", .glo "_law_can", .glo "_law_chart", .glo "_law_greedy", .glo "_law_headed", .glo "_law_is_chart", .glo "_law_kept", .glo "_law_loose", .glo "_law_lying", .glo "_law_message", .glo "_law_mixed", .glo "_law_orders", .glo "_law_queue", .glo "_law_some", .glo "_law_take", .glo "charts_in_order", .glo "check_hands", .glo "check_manner", .glo "checked_chart", .glo "checked_lot", .glo "checked_rows", .glo "fault_of", .glo "is_chart", .glo "is_event", .glo "is_hands", .glo "is_lot_form", .glo "is_name", .glo "is_of_both", .glo "is_row", .glo "is_rows", .glo "is_sized", .glo "is_tuple_of", .glo "many_orders", .glo "played", .glo "put_at", .glo "stopped_at", .glo "unlike_takes", .int "LEAST_HANDS" 2, .int "MOST_CHARTS" 12, .int "MOST_EVENTS" 24, .int "MOST_HANDS" 5, .int "MOST_LETTERS" 8, .int "MOST_STANDS" 20000, .int "MOST_TOGETHER" 60, .str "DIGITS" "0123456789", .str "LETTERS" "abcdefghijklmnopqrstuvwxyz", .cls "Playing", .cls "Stands", .noat "Playing" "hands", .noat "Playing" "lying", .noat "Playing" "manner", .noat "Playing" "rows", .noat "Playing" "stand", .noat "Stands" "begin", .noat "Stands" "counts", .noat "Stands" "line", .noat "Stands" "moves", .noat "Stands" "playing", .noat "Stands" "queues", .meth "Playing" "can_go", .meth "Playing" "go", .meth "Playing" "is_over", .meth "Playing" "next_event", .meth "Playing" "queues", .meth "Playing" "ready", .meth "Stands" "behind", .meth "Stands" "led", .meth "Stands" "sum_behind", .mkr "Playing", .mkr "Stands", .glo "law", .exm "BadChart" "BadChart" true, .exm "BadChart" "TooLarge" false]
def dd__law_bag : He.DefD := ⟨("_law_bag", none), "_law_bag", "_law_bag", defArgs (top 48), defBody (top 48), defScope (top 48), [], []⟩
def dd__law_take : He.DefD := ⟨("_law_take", none), "_law_take", "_law_take", defArgs (top 49), defBody (top 49), defScope (top 49), [], []⟩
def dd__law_some : He.DefD := ⟨("_law_some", none), "_law_some", "_law_some", defArgs (top 50), defBody (top 50), defScope (top 50), [], []⟩
def dd__law_message : He.DefD := ⟨("_law_message", none), "_law_message", "_law_message", defArgs (top 53), defBody (top 53), defScope (top 53), [], []⟩
def dd__law_chart : He.DefD := ⟨("_law_chart", none), "_law_chart", "_law_chart", defArgs (top 54), defBody (top 54), defScope (top 54), [], []⟩
def dd__law_mixed : He.DefD := ⟨("_law_mixed", none), "_law_mixed", "_law_mixed", defArgs (top 51), defBody (top 51), defScope (top 51), [], []⟩
def dd__law_loose : He.DefD := ⟨("_law_loose", none), "_law_loose", "_law_loose", defArgs (top 61), defBody (top 61), defScope (top 61), [], []⟩
def dd__law_queue : He.DefD := ⟨("_law_queue", none), "_law_queue", "_law_queue", defArgs (top 55), defBody (top 55), defScope (top 55), [], []⟩
def dd__law_can : He.DefD := ⟨("_law_can", none), "_law_can", "_law_can", defArgs (top 56), defBody (top 56), defScope (top 56), [], []⟩
def dd__law_greedy : He.DefD := ⟨("_law_greedy", none), "_law_greedy", "_law_greedy", defArgs (top 58), defBody (top 58), defScope (top 58), [], []⟩
def dd__law_lying : He.DefD := ⟨("_law_lying", none), "_law_lying", "_law_lying", defArgs (top 59), defBody (top 59), defScope (top 59), [], []⟩
def dd__law_is_chart : He.DefD := ⟨("_law_is_chart", none), "_law_is_chart", "_law_is_chart", defArgs (top 60), defBody (top 60), defScope (top 60), [], []⟩
def dd_is_name : He.DefD := ⟨("is_name", none), "is_name", "is_name", defArgs (top 14), defBody (top 14), defScope (top 14), [], []⟩
def dd_is_tuple_of : He.DefD := ⟨("is_tuple_of", none), "is_tuple_of", "is_tuple_of", defArgs (top 16), defBody (top 16), defScope (top 16), [], []⟩
def dd_is_hands : He.DefD := ⟨("is_hands", none), "is_hands", "is_hands", defArgs (top 17), defBody (top 17), defScope (top 17), [], []⟩
def dd_check_hands : He.DefD := ⟨("check_hands", none), "check_hands", "check_hands", defArgs (top 25), defBody (top 25), defScope (top 25), [], []⟩
def dd_check_manner : He.DefD := ⟨("check_manner", none), "check_manner", "check_manner", defArgs (top 26), defBody (top 26), defScope (top 26), [], []⟩
def dd_is_sized : He.DefD := ⟨("is_sized", none), "is_sized", "is_sized", defArgs (top 15), defBody (top 15), defScope (top 15), [], []⟩
def dd_is_event : He.DefD := ⟨("is_event", none), "is_event", "is_event", defArgs (top 18), defBody (top 18), defScope (top 18), [], []⟩
def dd_is_row : He.DefD := ⟨("is_row", none), "is_row", "is_row", defArgs (top 19), defBody (top 19), defScope (top 19), [], []⟩
def dd_is_rows : He.DefD := ⟨("is_rows", none), "is_rows", "is_rows", defArgs (top 20), defBody (top 20), defScope (top 20), [], []⟩
def dd_checked_rows : He.DefD := ⟨("checked_rows", none), "checked_rows", "checked_rows", defArgs (top 27), defBody (top 27), defScope (top 27), [], []⟩
def dd_Playing___init__ : He.DefD := ⟨("Playing", some "__init__"), "__init__", "Playing.__init__", defArgs (inClass (top 28) 0), defBody (inClass (top 28) 0), defScope (inClass (top 28) 0), [], []⟩
def dd_Playing_next_event : He.DefD := ⟨("Playing", some "next_event"), "next_event", "Playing.next_event", defArgs (inClass (top 28) 1), defBody (inClass (top 28) 1), defScope (inClass (top 28) 1), [], []⟩
def dd_Playing_can_go : He.DefD := ⟨("Playing", some "can_go"), "can_go", "Playing.can_go", defArgs (inClass (top 28) 2), defBody (inClass (top 28) 2), defScope (inClass (top 28) 2), [], []⟩
def dd_Playing_ready : He.DefD := ⟨("Playing", some "ready"), "ready", "Playing.ready", defArgs (inClass (top 28) 5), defBody (inClass (top 28) 5), defScope (inClass (top 28) 5), [], []⟩
def dd_Playing_go : He.DefD := ⟨("Playing", some "go"), "go", "Playing.go", defArgs (inClass (top 28) 3), defBody (inClass (top 28) 3), defScope (inClass (top 28) 3), [], []⟩
def dd_played : He.DefD := ⟨("played", none), "played", "played", defArgs (top 29), defBody (top 29), defScope (top 29), [], []⟩
def dd_Playing_queues : He.DefD := ⟨("Playing", some "queues"), "queues", "Playing.queues", defArgs (inClass (top 28) 4), defBody (inClass (top 28) 4), defScope (inClass (top 28) 4), [], []⟩
def dd_Playing_is_over : He.DefD := ⟨("Playing", some "is_over"), "is_over", "Playing.is_over", defArgs (inClass (top 28) 6), defBody (inClass (top 28) 6), defScope (inClass (top 28) 6), [], []⟩
def dd_checked_chart : He.DefD := ⟨("checked_chart", none), "checked_chart", "checked_chart", defArgs (top 30), defBody (top 30), defScope (top 30), [], []⟩
def dd_is_chart : He.DefD := ⟨("is_chart", none), "is_chart", "is_chart", defArgs (top 31), defBody (top 31), defScope (top 31), [], []⟩
def dd__law_alike : He.DefD := ⟨("_law_alike", none), "_law_alike", "_law_alike", defArgs (top 52), defBody (top 52), defScope (top 52), [], []⟩
def dd_stopped_at : He.DefD := ⟨("stopped_at", none), "stopped_at", "stopped_at", defArgs (top 38), defBody (top 38), defScope (top 38), [], []⟩
def dd__law_kept : He.DefD := ⟨("_law_kept", none), "_law_kept", "_law_kept", defArgs (top 62), defBody (top 62), defScope (top 62), [], []⟩
def dd_is_of_both : He.DefD := ⟨("is_of_both", none), "is_of_both", "is_of_both", defArgs (top 40), defBody (top 40), defScope (top 40), [], []⟩
def dd_unlike_takes : He.DefD := ⟨("unlike_takes", none), "unlike_takes", "unlike_takes", defArgs (top 41), defBody (top 41), defScope (top 41), [], []⟩
def dd__law_headed : He.DefD := ⟨("_law_headed", none), "_law_headed", "_law_headed", defArgs (top 63), defBody (top 63), defScope (top 63), [], []⟩
def dd_is_lot_form : He.DefD := ⟨("is_lot_form", none), "is_lot_form", "is_lot_form", defArgs (top 34), defBody (top 34), defScope (top 34), [], []⟩
def dd_fault_of : He.DefD := ⟨("fault_of", none), "fault_of", "fault_of", defArgs (top 36), defBody (top 36), defScope (top 36), [], []⟩
def dd_checked_lot : He.DefD := ⟨("checked_lot", none), "checked_lot", "checked_lot", defArgs (top 35), defBody (top 35), defScope (top 35), [], []⟩
def dd_charts_in_order : He.DefD := ⟨("charts_in_order", none), "charts_in_order", "charts_in_order", defArgs (top 39), defBody (top 39), defScope (top 39), [], []⟩
def dd__law_orders : He.DefD := ⟨("_law_orders", none), "_law_orders", "_law_orders", defArgs (top 57), defBody (top 57), defScope (top 57), [], []⟩
def dd_put_at : He.DefD := ⟨("put_at", none), "put_at", "put_at", defArgs (top 44), defBody (top 44), defScope (top 44), [], []⟩
def dd_Stands_led : He.DefD := ⟨("Stands", some "led"), "led", "Stands.led", defArgs (inClass (top 45) 2), defBody (inClass (top 45) 2), defScope (inClass (top 45) 2), [], []⟩
def dd_Stands_behind : He.DefD := ⟨("Stands", some "behind"), "behind", "Stands.behind", defArgs (inClass (top 45) 3), defBody (inClass (top 45) 3), defScope (inClass (top 45) 3), [], []⟩
def dd_Stands_sum_behind : He.DefD := ⟨("Stands", some "sum_behind"), "sum_behind", "Stands.sum_behind", defArgs (inClass (top 45) 1), defBody (inClass (top 45) 1), defScope (inClass (top 45) 1), [], []⟩
def dd_Stands___init__ : He.DefD := ⟨("Stands", some "__init__"), "__init__", "Stands.__init__", defArgs (inClass (top 45) 0), defBody (inClass (top 45) 0), defScope (inClass (top 45) 0), [], []⟩
def dd_many_orders : He.DefD := ⟨("many_orders", none), "many_orders", "many_orders", defArgs (top 46), defBody (top 46), defScope (top 46), [], []⟩
def dd_law : He.DefD := ⟨("law", none), "law", "law", defArgs (top 64), defBody (top 64), defScope (top 64), [], []⟩
def fns : List He.DefD := [dd__law_bag, dd__law_take, dd__law_some, dd__law_message, dd__law_chart, dd__law_mixed, dd__law_loose, dd__law_queue, dd__law_can, dd__law_greedy, dd__law_lying, dd__law_is_chart, dd_is_name, dd_is_tuple_of, dd_is_hands, dd_check_hands, dd_check_manner, dd_is_sized, dd_is_event, dd_is_row, dd_is_rows, dd_checked_rows, dd_Playing___init__, dd_Playing_next_event, dd_Playing_can_go, dd_Playing_ready, dd_Playing_go, dd_played, dd_Playing_queues, dd_Playing_is_over, dd_checked_chart, dd_is_chart, dd__law_alike, dd_stopped_at, dd__law_kept, dd_is_of_both, dd_unlike_takes, dd__law_headed, dd_is_lot_form, dd_fault_of, dd_checked_lot, dd_charts_in_order, dd__law_orders, dd_put_at, dd_Stands_led, dd_Stands_behind, dd_Stands_sum_behind, dd_Stands___init__, dd_many_orders, dd_law]
def exk (K : PySem.W.Frag) : Bool := badB "/claim/cut.py" K && (He.tupB K "MANNERS" ((["order", "any"] : List Str).map He.Dv.str) && (He.tupB K "RESERVED" ((["any", "as", "board", "chart", "ends", "from", "give", "hand", "in", "lot", "node", "of", "order", "take", "to", "with"] : List Str).map He.Dv.str) && (true)))
def loose0 : List PySem.Str := ["_wall", "PictureError", "BadChart", "BadLot", "Nothing", "TooLarge", "LETTERS", "DIGITS", "MOST_LETTERS", "LEAST_HANDS", "MOST_HANDS", "RESERVED", "is_name", "is_sized", "is_tuple_of", "is_hands", "is_event", "is_row", "is_rows", "MANNERS", "MOST_EVENTS", "MOST_TOGETHER", "check_hands", "check_manner", "checked_rows", "Playing", "played", "checked_chart", "is_chart", "MOST_CHARTS"]
def loose1 : List PySem.Str := ["is_lot_form", "checked_lot", "fault_of", "stopped_at", "charts_in_order", "is_of_both", "unlike_takes", "MOST_STANDS", "put_at", "Stands", "many_orders", "_law_bag", "_law_take", "_law_some", "_law_mixed", "_law_alike", "_law_message", "_law_chart", "_law_queue", "_law_can", "_law_orders", "_law_greedy", "_law_lying", "_law_is_chart", "_law_loose", "_law_kept", "_law_headed"]
def looseN : List PySem.Str := loose0 ++ loose1
abbrev RR : PySem.W.OpenRow := PySem.W.OpenLaw.row PySem.Challenge.rw_picturedtalks_k76_whole_manners_of_chart
abbrev hk : PySem.W.Hook := hookB 5 fas fns exk
def ob (s : PySem.W.SharedT) : AlB := obsB 5 fas fns exk (HandSHeadRun.getT s)
theorem ob_eq (s : PySem.W.SharedT) : ob s = hk.obs s.abs := obsB_eq (HandSHeadRun.getT_eq s)
theorem run (w : World) : HandSHeadRun.RunEq RR (PySem.W.view RR.prog [64]) hk ob 4000 looseN w := by
  intro os
  kernel_rfl
section
variable {P : Program} {K : PySem.W.Frag} {h : Heap} {mg : Str → Option Value}
theorem tx_of (X : K.In h) (Gm : h.Ns mainGlobals mg) (c : He.SaysD fas fns K) (e : exk K = true) (hc : fnC K = valC) (hfl : P.main.file = "/claim/cut.py") (htop : (P.main.scope.names.lookup ("super" : Str)).isSome = false) : Tx P K mg := by
  obtain ⟨e0, e⟩ := He.ba e
  obtain ⟨e1, e⟩ := He.ba e
  obtain ⟨e2, e⟩ := He.ba e
  exact {
    b_abs := He.free_ok X Gm (c.fact 0 rfl)
    b_all := He.free_ok X Gm (c.fact 1 rfl)
    b_any := He.free_ok X Gm (c.fact 2 rfl)
    b_dict := He.free_ok X Gm (c.fact 3 rfl)
    b_enumerate := He.free_ok X Gm (c.fact 4 rfl)
    b_int := He.free_ok X Gm (c.fact 5 rfl)
    b_isinstance := He.free_ok X Gm (c.fact 6 rfl)
    b_len := He.free_ok X Gm (c.fact 7 rfl)
    b_list := He.free_ok X Gm (c.fact 8 rfl)
    b_max := He.free_ok X Gm (c.fact 9 rfl)
    b_range := He.free_ok X Gm (c.fact 10 rfl)
    b_repr := He.free_ok X Gm (c.fact 11 rfl)
    b_sorted := He.free_ok X Gm (c.fact 12 rfl)
    b_str := He.free_ok X Gm (c.fact 13 rfl)
    b_sum := He.free_ok X Gm (c.fact 14 rfl)
    b_tuple := He.free_ok X Gm (c.fact 15 rfl)
    b_zip := He.free_ok X Gm (c.fact 16 rfl)
    g_BadChart := He.glo_ok X Gm (c.fact 17 rfl)
    g_MANNERS := He.glo_ok X Gm (c.fact 18 rfl)
    g_Playing := He.glo_ok X Gm (c.fact 19 rfl)
    g_RESERVED := He.glo_ok X Gm (c.fact 20 rfl)
    g_Stands := He.glo_ok X Gm (c.fact 21 rfl)
    g_TooLarge := He.glo_ok X Gm (c.fact 22 rfl)
    g__law_alike := He.glo_ok X Gm (c.fact 23 rfl)
    g__law_bag := He.glo_ok X Gm (c.fact 24 rfl)
    g__law_can := He.glo_ok X Gm (c.fact 25 rfl)
    g__law_chart := He.glo_ok X Gm (c.fact 26 rfl)
    g__law_greedy := He.glo_ok X Gm (c.fact 27 rfl)
    g__law_headed := He.glo_ok X Gm (c.fact 28 rfl)
    g__law_is_chart := He.glo_ok X Gm (c.fact 29 rfl)
    g__law_kept := He.glo_ok X Gm (c.fact 30 rfl)
    g__law_loose := He.glo_ok X Gm (c.fact 31 rfl)
    g__law_lying := He.glo_ok X Gm (c.fact 32 rfl)
    g__law_message := He.glo_ok X Gm (c.fact 33 rfl)
    g__law_mixed := He.glo_ok X Gm (c.fact 34 rfl)
    g__law_orders := He.glo_ok X Gm (c.fact 35 rfl)
    g__law_queue := He.glo_ok X Gm (c.fact 36 rfl)
    g__law_some := He.glo_ok X Gm (c.fact 37 rfl)
    g__law_take := He.glo_ok X Gm (c.fact 38 rfl)
    g_charts_in_order := He.glo_ok X Gm (c.fact 39 rfl)
    g_check_hands := He.glo_ok X Gm (c.fact 40 rfl)
    g_check_manner := He.glo_ok X Gm (c.fact 41 rfl)
    g_checked_chart := He.glo_ok X Gm (c.fact 42 rfl)
    g_checked_lot := He.glo_ok X Gm (c.fact 43 rfl)
    g_checked_rows := He.glo_ok X Gm (c.fact 44 rfl)
    g_fault_of := He.glo_ok X Gm (c.fact 45 rfl)
    g_is_chart := He.glo_ok X Gm (c.fact 46 rfl)
    g_is_event := He.glo_ok X Gm (c.fact 47 rfl)
    g_is_hands := He.glo_ok X Gm (c.fact 48 rfl)
    g_is_lot_form := He.glo_ok X Gm (c.fact 49 rfl)
    g_is_name := He.glo_ok X Gm (c.fact 50 rfl)
    g_is_of_both := He.glo_ok X Gm (c.fact 51 rfl)
    g_is_row := He.glo_ok X Gm (c.fact 52 rfl)
    g_is_rows := He.glo_ok X Gm (c.fact 53 rfl)
    g_is_sized := He.glo_ok X Gm (c.fact 54 rfl)
    g_is_tuple_of := He.glo_ok X Gm (c.fact 55 rfl)
    g_many_orders := He.glo_ok X Gm (c.fact 56 rfl)
    g_played := He.glo_ok X Gm (c.fact 57 rfl)
    g_put_at := He.glo_ok X Gm (c.fact 58 rfl)
    g_stopped_at := He.glo_ok X Gm (c.fact 59 rfl)
    g_unlike_takes := He.glo_ok X Gm (c.fact 60 rfl)
    i_LEAST_HANDS := He.int_ok X Gm (c.fact 61 rfl)
    i_MOST_CHARTS := He.int_ok X Gm (c.fact 62 rfl)
    i_MOST_EVENTS := He.int_ok X Gm (c.fact 63 rfl)
    i_MOST_HANDS := He.int_ok X Gm (c.fact 64 rfl)
    i_MOST_LETTERS := He.int_ok X Gm (c.fact 65 rfl)
    i_MOST_STANDS := He.int_ok X Gm (c.fact 66 rfl)
    i_MOST_TOGETHER := He.int_ok X Gm (c.fact 67 rfl)
    s_DIGITS := He.str_ok X Gm (c.fact 68 rfl)
    s_LETTERS := He.str_ok X Gm (c.fact 69 rfl)
    c_Playing := He.cls_ok (c.fact 70 rfl)
    c_Stands := He.cls_ok (c.fact 71 rfl)
    n_Playing_hands := He.noat_ok (c.fact 72 rfl)
    n_Playing_lying := He.noat_ok (c.fact 73 rfl)
    n_Playing_manner := He.noat_ok (c.fact 74 rfl)
    n_Playing_rows := He.noat_ok (c.fact 75 rfl)
    n_Playing_stand := He.noat_ok (c.fact 76 rfl)
    n_Stands_begin := He.noat_ok (c.fact 77 rfl)
    n_Stands_counts := He.noat_ok (c.fact 78 rfl)
    n_Stands_line := He.noat_ok (c.fact 79 rfl)
    n_Stands_moves := He.noat_ok (c.fact 80 rfl)
    n_Stands_playing := He.noat_ok (c.fact 81 rfl)
    n_Stands_queues := He.noat_ok (c.fact 82 rfl)
    m_Playing_can_go := He.meth_ok (c.fact 83 rfl)
    m_Playing_go := He.meth_ok (c.fact 84 rfl)
    m_Playing_is_over := He.meth_ok (c.fact 85 rfl)
    m_Playing_next_event := He.meth_ok (c.fact 86 rfl)
    m_Playing_queues := He.meth_ok (c.fact 87 rfl)
    m_Playing_ready := He.meth_ok (c.fact 88 rfl)
    m_Stands_behind := He.meth_ok (c.fact 89 rfl)
    m_Stands_led := He.meth_ok (c.fact 90 rfl)
    m_Stands_sum_behind := He.meth_ok (c.fact 91 rfl)
    mk_Playing := He.mkr_ok (c.fact 92 rfl)
    mk_Stands := He.mkr_ok (c.fact 93 rfl)
    t_MANNERS := e1
    t_RESERVED := e2
    d__law_bag := c.def_ 0 rfl
    d__law_take := c.def_ 1 rfl
    d__law_some := c.def_ 2 rfl
    d__law_message := c.def_ 3 rfl
    d__law_chart := c.def_ 4 rfl
    d__law_mixed := c.def_ 5 rfl
    d__law_loose := c.def_ 6 rfl
    d__law_queue := c.def_ 7 rfl
    d__law_can := c.def_ 8 rfl
    d__law_greedy := c.def_ 9 rfl
    d__law_lying := c.def_ 10 rfl
    d__law_is_chart := c.def_ 11 rfl
    d_is_name := c.def_ 12 rfl
    d_is_tuple_of := c.def_ 13 rfl
    d_is_hands := c.def_ 14 rfl
    d_check_hands := c.def_ 15 rfl
    d_check_manner := c.def_ 16 rfl
    d_is_sized := c.def_ 17 rfl
    d_is_event := c.def_ 18 rfl
    d_is_row := c.def_ 19 rfl
    d_is_rows := c.def_ 20 rfl
    d_checked_rows := c.def_ 21 rfl
    d_Playing___init__ := c.def_ 22 rfl
    d_Playing_next_event := c.def_ 23 rfl
    d_Playing_can_go := c.def_ 24 rfl
    d_Playing_ready := c.def_ 25 rfl
    d_Playing_go := c.def_ 26 rfl
    d_played := c.def_ 27 rfl
    d_Playing_queues := c.def_ 28 rfl
    d_Playing_is_over := c.def_ 29 rfl
    d_checked_chart := c.def_ 30 rfl
    d_is_chart := c.def_ 31 rfl
    d__law_alike := c.def_ 32 rfl
    d_stopped_at := c.def_ 33 rfl
    d__law_kept := c.def_ 34 rfl
    d_is_of_both := c.def_ 35 rfl
    d_unlike_takes := c.def_ 36 rfl
    d__law_headed := c.def_ 37 rfl
    d_is_lot_form := c.def_ 38 rfl
    d_fault_of := c.def_ 39 rfl
    d_checked_lot := c.def_ 40 rfl
    d_charts_in_order := c.def_ 41 rfl
    d__law_orders := c.def_ 42 rfl
    d_put_at := c.def_ 43 rfl
    d_Stands_led := c.def_ 44 rfl
    d_Stands_behind := c.def_ 45 rfl
    d_Stands_sum_behind := c.def_ 46 rfl
    d_Stands___init__ := c.def_ 47 rfl
    d_many_orders := c.def_ 48 rfl
    d_law := c.def_ 49 rfl
    r_BadChart := badB_ok hfl htop (He.glo_ok X Gm (c.fact 17 rfl)) e0 hc
    e_sub := sub_ok (He.exm_ok (c.fact 95 rfl)) (He.exm_ok (c.fact 96 rfl)) subN }
end
open PySem PySem.W PySem.Calls PyProof.Rows in
theorem holds_of (main : ∀ ns : List Int, ns.length ≤ 63 → ∃ s' : Sto, f_law [.scr (ns.map AV.int)] [] = .ok (.bl true) s') : PySem.Challenge.rw_picturedtalks_k76_whole_manners_of_chart.Holds := by
  w_on; o_law
  refine HandSHeadRun.head_any (r := OpenLaw.row PySem.Challenge.rw_picturedtalks_k76_whole_manners_of_chart) (q := view (OpenLaw.row PySem.Challenge.rw_picturedtalks_k76_whole_manners_of_chart).prog [64]) (H := hk) (ob := ob) (M := 4000) (loose := looseN) (d := HandSHeadRun.topDef (OpenLaw.row PySem.Challenge.rw_picturedtalks_k76_whole_manners_of_chart).prog 64) (kwd := []) ob_eq
    (by kernel_rfl) (fun s => by kernel_rfl) run (by kernel_rfl) (by kernel_rfl) (by kernel_rfl) (by rfl) (by first | assumption | decide +kernel) (by decide +kernel) ⟨rfl, rfl, rfl, rfl, rfl, by decide +kernel⟩ ?hw ?hc
  case hw => w_witness2
  case hc =>
    refine walk_ofEG (l := PySem.Challenge.rw_picturedtalks_k76_whole_manners_of_chart) (n := 63) (k := 13) (x := "script") (CX := fun w => L2.CX PySem.Challenge.pw_picturedtalks_k76_whole_manners_of_chart w) rfl (by decide) (by kernel_rfl) ⟨rfl, by decide, by decide⟩ ?F (fun _ _ _ _ _ ⟨_, _, _, _, _, _, _, _, _, _, _, _, z⟩ => z.elim)
    intro w mg fa h Y Gm hmg0
    obtain ⟨K, KX, c, e, hc⟩ := Y
    have hmg : mg ("law" : PySem.Str) = some (.ref fa) := by
      have en : (HandSHeadRun.topDef (OpenLaw.row PySem.Challenge.rw_picturedtalks_k76_whole_manners_of_chart).prog 64).name = ("law" : PySem.Str) := by kernel_rfl
      rw [← en]
      exact hmg0
    have T : Tx PySem.Challenge.pw_picturedtalks_k76_whole_manners_of_chart K mg := tx_of KX Gm c e hc (by kernel_rfl) (by kernel_rfl)
    obtain ⟨fd, F⟩ := T.d_law
    have e2 := hmg.symm.trans (He.glo_ok KX Gm (c.fact 94 rfl))
    cases e2
    exact ⟨K, fd, spM K f_law, KX, fun s v => F.bindsA (ps := ["script"]) (fun _ _ _ _ _ _ us hl => match us, hl with | [_], _ => rfl) s [v] rfl, fun H a ns hl hO hS => law_sp (main ns hl) hO hS, fun base _ _ => fn_law T F⟩
end K76
end S
set_option maxRecDepth 100000 in
set_option maxHeartbeats 4000000 in
theorem PySem.Challenge.cw_picturedtalks_k76_whole_manners_of_chart_holds : PySem.Challenge.rw_picturedtalks_k76_whole_manners_of_chart.Holds :=
  S.K76.holds_of S.K76.law_main
