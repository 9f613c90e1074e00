import PyProof.Rows.All
import Wide.All
import OpenK.AllK
import Wide.FinOn
import HandS.ForMost
import HandS.Zip
import HandS.IsInst
import HandS.TupMul
import HandS.TupAny
import HandS.DictComp
import HandS.More
import HandS.Exc
import HandS.WordsExc
import HandS.Conv
import KE.SortData
import KE.KEqNest
import HandS.Deep
import HandS.Defaults
import HandS.HeadHook1
import HandS.HeadHook2
import HandS.HeadHook3
import HandS.HeadHook4
import KE.KStateDown
import HandS.Head0
import HandS.Head1
import HandS.Head2
import HandS.HeadEnd
import PySem.Challenge.RW_debtroster_k03_deeds_listed
set_option Elab.async false
set_option linter.all false
set_option maxRecDepth 100000
set_option maxHeartbeats 0
namespace Dr
open PySem PySem.Spec PyProof.Rows L2

/-! ### data as trees -/
inductive D where
  | v (x : V)
  | tup (ds : List D)
  | lst (ds : List D)
  | dct (kvs : List (Key × D))
  | kdc (kvs : List (Key × D))
  | ins (C : Addr) (fs : List (Str × D))
  | scr (ns : List Int)
/-- a dict, tracked or the module's -/
inductive IsDc : D → List (Key × D) → Prop
  | dct (ds : List (Key × D)) : IsDc (.dct ds) ds
  | kd (ds : List (Key × D)) : IsDc (.kdc ds) ds
structure Kw where
  K : PySem.W.Frag
  w : World
abbrev D.int (i : Int) : D := .v (.int i)
abbrev D.str (x : Str) : D := .v (.str x)
abbrev D.bl (b : Bool) : D := .v (.bl b)
abbrev D.non : D := .v .non

/-- part of: what stands in F stands in H -/
def Ex (F H : Hp) : Prop := ∀ a o, F a = some o → H a = some o
theorem Ex.refl (H : Hp) : Ex H H := fun _ _ h => h
theorem Ex.trans {H H1 H2 : Hp} (a : Ex H H1) (b : Ex H1 H2) : Ex H H2 := fun x o h => b x o (a x o h)
theorem Ex.new {H : Hp} {p : Addr} {o : HO} (h : H p = none) : Ex H (upd H p o) := fun a u e => by
  rw [upd_ne (ne_of_none e h)]; exact e
theorem Ex.upd2 {F H : Hp} (e : Ex F H) {p : Addr} {o : HO} : Ex (upd F p o) (upd H p o) := fun a u h => by
  by_cases q : a = p
  · subst q; rw [upd_same] at h ⊢; exact h
  · rw [upd_ne q] at h ⊢; exact e a u h
/-- an object outside F may change -/
theorem Ex.mut {F H : Hp} (e : Ex F H) {p : Addr} {o : HO} (n : F p = none) : Ex F (upd H p o) := fun a u h => by
  rw [upd_ne (ne_of_none h n)]; exact e a u h
theorem Ex.fresh {F H : Hp} (e : Ex F H) {p : Addr} (n : H p = none) : F p = none := by
  cases q : F p with
  | none => rfl
  | some o => rw [e p o q] at n; cases n
theorem Ex.t {F H : Hp} {K : PySem.W.Frag} {a : Addr} {xs : List V} (e : Ex F H) (h : SqT K F a xs) : SqT K H a xs := by
  rcases h with (h | ⟨o, h⟩) | h
  · exact .inl (.inl (e _ _ h))
  · exact .inl (.inr ⟨o, e _ _ h⟩)
  · exact .inr h
theorem Ex.l {F H : Hp} {K : PySem.W.Frag} {a : Addr} {xs : List V} (e : Ex F H) (h : SqL K F a xs) : SqL K H a xs := by
  rcases h with (h | ⟨o, h⟩) | h
  · exact .inl (.inl (e _ _ h))
  · exact .inl (.inr ⟨o, e _ _ h⟩)
  · exact .inr h

/-- a dict of the module's own -/
def KdAt (K : Kw) (a : Addr) (kvs : List (Key × V)) : Prop := ∃ o es ep us, K.K.lookup a = some o ∧ o.cls = .type "dict" ∧ o.ExactDict ∧ o.data = .dict es ep ∧ es.size = kvs.length ∧ kvs.length ≤ sizeLine ∧ (a == sysModules) = false ∧
  KV kvs us ∧ ∀ (P : Program) (h : Heap), K.K.In h → h.DictAt (mixKind P K.w) a us ep
mutual
/-- the value v is the data d, as F tells -/
inductive Rep (K : Kw) (F : Hp) : V → D → Prop
  | v (x : V) : Rep K F x (.v x)
  | tup {a : Addr} {xs : List V} {ds : List D} : SqT K.K F a xs → Reps K F xs ds → Rep K F (.ref a) (.tup ds)
  | lst {a : Addr} {xs : List V} {ds : List D} : F a = some (.lst xs) → Reps K F xs ds → Rep K F (.ref a) (.lst ds)
  | dct {a : Addr} {kvs : List (Key × V)} {ds : List (Key × D)} : F a = some (.dK kvs) → RepK K F kvs ds → Rep K F (.ref a) (.dct ds)
  | kd {a : Addr} {kvs : List (Key × V)} {ds : List (Key × D)} : KdAt K a kvs → RepK K F kvs ds → Rep K F (.ref a) (.kdc ds)
  | ins {a C dx : Addr} {fs : List (Str × V)} {ds : List (Str × D)} : F a = some (.ins C dx fs) → RepF K F fs ds → Rep K F (.ref a) (.ins C ds)
  | scr {a : Addr} {ns : List Int} : SqL K.K F a (ns.map V.int) → Rep K F (.ref a) (.scr ns)
inductive Reps (K : Kw) (F : Hp) : List V → List D → Prop
  | nil : Reps K F [] []
  | cons {v : V} {d : D} {vs : List V} {ds : List D} : Rep K F v d → Reps K F vs ds → Reps K F (v :: vs) (d :: ds)
inductive RepK (K : Kw) (F : Hp) : List (Key × V) → List (Key × D) → Prop
  | nil : RepK K F [] []
  | cons {k : Key} {v : V} {d : D} {vs : List (Key × V)} {ds : List (Key × D)} : Rep K F v d → RepK K F vs ds → RepK K F ((k, v) :: vs) ((k, d) :: ds)
inductive RepF (K : Kw) (F : Hp) : List (Str × V) → List (Str × D) → Prop
  | nil : RepF K F [] []
  | cons {k : Str} {v : V} {d : D} {vs : List (Str × V)} {ds : List (Str × D)} : Rep K F v d → RepF K F vs ds → RepF K F ((k, v) :: vs) ((k, d) :: ds)
end

section
variable {K : Kw} {F F' : Hp}
mutual
theorem Rep.mono {v : V} {d : D} (h : Rep K F v d) (e : Ex F F') : Rep K F' v d := by
  cases h with
  | v => exact .v _
  | tup h r => exact .tup (e.t h) (Reps.mono r e)
  | lst h r => exact .lst (e _ _ h) (Reps.mono r e)
  | dct h r => exact .dct (e _ _ h) (RepK.mono r e)
  | kd h r => exact .kd h (RepK.mono r e)
  | ins h r => exact .ins (e _ _ h) (RepF.mono r e)
  | scr h => exact .scr (e.l h)
theorem Reps.mono {vs : List V} {ds : List D} (h : Reps K F vs ds) (e : Ex F F') : Reps K F' vs ds := by
  cases h with
  | nil => exact .nil
  | cons h r => exact .cons (Rep.mono h e) (Reps.mono r e)
theorem RepK.mono {vs : List (Key × V)} {ds : List (Key × D)} (h : RepK K F vs ds) (e : Ex F F') : RepK K F' vs ds := by
  cases h with
  | nil => exact .nil
  | cons h r => exact .cons (Rep.mono h e) (RepK.mono r e)
theorem RepF.mono {vs : List (Str × V)} {ds : List (Str × D)} (h : RepF K F vs ds) (e : Ex F F') : RepF K F' vs ds := by
  cases h with
  | nil => exact .nil
  | cons h r => exact .cons (Rep.mono h e) (RepF.mono r e)
end
theorem Rep.val {x y : V} (h : Rep K F x (.v y)) : x = y := by cases h; rfl
theorem Reps.length {vs : List V} {ds : List D} (h : Reps K F vs ds) : vs.length = ds.length := by
  induction ds generalizing vs with
  | nil => cases h; rfl
  | cons d ds ih => cases h with | cons h r => simp [ih r]
theorem Reps.get {vs : List V} {ds : List D} (h : Reps K F vs ds) {i : Nat} {d : D} (e : ds[i]? = some d) : ∃ v, vs[i]? = some v ∧ Rep K F v d := by
  induction ds generalizing vs i with
  | nil => simp at e
  | cons d0 ds ih =>
    cases h with
    | cons h r =>
      cases i with
      | zero => simp at e; subst e; exact ⟨_, rfl, h⟩
      | succ i => simp at e; obtain ⟨v, a, b⟩ := ih r e; exact ⟨v, by simpa using a, b⟩
theorem Reps.getV {vs : List V} {ds : List D} (h : Reps K F vs ds) {i : Nat} {v : V} (e : vs[i]? = some v) : ∃ d, ds[i]? = some d ∧ Rep K F v d := by
  induction ds generalizing vs i with
  | nil => cases h; simp at e
  | cons d0 ds ih =>
    cases h with
    | cons h r =>
      cases i with
      | zero => simp at e; subst e; exact ⟨_, rfl, h⟩
      | succ i => simp at e; obtain ⟨d, a, b⟩ := ih r e; exact ⟨d, by simpa using a, b⟩
theorem Reps.append {vs ws : List V} {ds es : List D} (h : Reps K F vs ds) (g : Reps K F ws es) : Reps K F (vs ++ ws) (ds ++ es) := by
  induction ds generalizing vs with
  | nil => cases h; exact g
  | cons d ds ih => cases h with | cons h r => exact .cons h (ih r)
theorem Reps.take {vs : List V} {ds : List D} (h : Reps K F vs ds) (n : Nat) : Reps K F (vs.take n) (ds.take n) := by
  induction ds generalizing vs n with
  | nil => cases h; simp; exact .nil
  | cons d ds ih =>
    cases h with
    | cons h r => cases n with
      | zero => exact .nil
      | succ n => exact .cons h (ih r n)
theorem Reps.drop {vs : List V} {ds : List D} (h : Reps K F vs ds) (n : Nat) : Reps K F (vs.drop n) (ds.drop n) := by
  induction ds generalizing vs n with
  | nil => cases h; simp; exact .nil
  | cons d ds ih =>
    cases h with
    | cons h r => cases n with
      | zero => exact .cons h r
      | succ n => exact ih r n
theorem Reps.vals (xs : List V) : Reps K F xs (xs.map .v) := by
  induction xs with
  | nil => exact .nil
  | cons x xs ih => exact .cons (.v x) ih
theorem Reps.of_vals {vs xs : List V} (h : Reps K F vs (xs.map .v)) : vs = xs := by
  induction xs generalizing vs with
  | nil => cases h; rfl
  | cons x xs ih => cases h with | cons h r => rw [h.val, ih r]
theorem RepK.length {vs : List (Key × V)} {ds : List (Key × D)} (h : RepK K F vs ds) : vs.length = ds.length := by
  induction ds generalizing vs with
  | nil => cases h; rfl
  | cons d ds ih => cases h with | cons h r => simp [ih r]
theorem RepK.keys {vs : List (Key × V)} {ds : List (Key × D)} (h : RepK K F vs ds) : vs.map (·.1) = ds.map (·.1) := by
  induction ds generalizing vs with
  | nil => cases h; rfl
  | cons d ds ih => cases h with | cons h r => simp [ih r]
theorem RepF.length {vs : List (Str × V)} {ds : List (Str × D)} (h : RepF K F vs ds) : vs.length = ds.length := by
  induction ds generalizing vs with
  | nil => cases h; rfl
  | cons d ds ih => cases h with | cons h r => simp [ih r]
/-- the first value at a key -/
def dkGet (ds : List (Key × D)) (k : Key) : Option D := (ds.find? fun p => decide (p.1 = k)).map (·.2)
theorem RepK.look {vs : List (Key × V)} {ds : List (Key × D)} (h : RepK K F vs ds) {k : Key} {d : D} (e : dkGet ds k = some d) : ∃ v, valV vs k = some v ∧ Rep K F v d := by
  induction ds generalizing vs with
  | nil => simp [dkGet] at e
  | cons p ds ih =>
    cases h with
    | cons h r =>
      unfold dkGet at e
      unfold valV
      rw [List.find?_cons] at e ⊢
      split at e
      · rename_i hk
        simp at e; subst e
        simp [hk]; exact h
      · rename_i hk
        simp only [hk]
        exact ih r e
theorem RepK.look_none {vs : List (Key × V)} {ds : List (Key × D)} (h : RepK K F vs ds) {k : Key} (e : dkGet ds k = none) : valV vs k = none := by
  induction ds generalizing vs with
  | nil => cases h; rfl
  | cons p ds ih =>
    cases h with
    | cons h r =>
      unfold dkGet at e
      unfold valV
      rw [List.find?_cons] at e ⊢
      split at e
      · simp at e
      · rename_i hk
        simp only [hk]
        exact ih r e
theorem RepF.look {vs : List (Str × V)} {ds : List (Str × D)} (h : RepF K F vs ds) {k : Str} {d : D} (e : ds.lookup k = some d) : ∃ v, vs.lookup k = some v ∧ Rep K F v d := by
  induction ds generalizing vs with
  | nil => simp at e
  | cons p ds ih =>
    cases h with
    | cons h r =>
      rw [List.lookup_cons] at e ⊢
      split at e
      · simp at e; subst e; exact ⟨_, rfl, h⟩
      · exact ih r e
theorem RepF.look_none {vs : List (Str × V)} {ds : List (Str × D)} (h : RepF K F vs ds) {k : Str} (e : ds.lookup k = none) : vs.lookup k = none := by
  induction ds generalizing vs with
  | nil => cases h; rfl
  | cons p ds ih =>
    cases h with
    | cons h r =>
      rw [List.lookup_cons] at e ⊢
      split at e
      · simp at e
      · exact ih r e
end

/-! ### pure growth -/
structure Gr (F H F' H' : Hp) : Prop where
  hh : Ex H H'
  ff : Ex F F'
  sub : Ex F' H'
  new : ∀ a o, F' a = some o → F a = some o ∨ H a = none
theorem Gr.refl {F H : Hp} (e : Ex F H) : Gr F H F H := ⟨.refl _, .refl _, e, fun _ _ h => .inl h⟩
theorem Gr.trans {F H F1 H1 F2 H2 : Hp} (a : Gr F H F1 H1) (b : Gr F1 H1 F2 H2) : Gr F H F2 H2 where
  hh := a.hh.trans b.hh
  ff := a.ff.trans b.ff
  sub := b.sub
  new := fun x o h => by
    rcases b.new x o h with q | q
    · exact a.new x o q
    · exact .inr (a.hh.fresh q)
/-- a new object -/
theorem Gr.alloc {F H : Hp} (e : Ex F H) {p : Addr} {o : HO} (n : H p = none) : Gr F H (upd F p o) (upd H p o) where
  hh := .new n
  ff := .new (e.fresh n)
  sub := e.upd2
  new := fun a u h => by
    by_cases q : a = p
    · subst q; exact .inr n
    · rw [upd_ne q] at h; exact .inl h
/-- the same growth over a larger F -/
theorem Gr.own {F H F' H' : Hp} (g : Gr F H F' H') {p : Addr} {o : HO} (h : H p = some o) (n : F p = none) : H' p = some o ∧ F' p = none := by
  refine ⟨g.hh _ _ h, ?_⟩
  cases q : F' p with
  | none => rfl
  | some u =>
    rcases g.new p u q with z | z
    · rw [z] at n; cases n
    · rw [z] at h; cases h

/-! ### evaluation -/
section
variable (K : Kw)
def EvD (te : TE) (σ : L2.St) (F : Hp) (d : D) : Prop := ∀ H, Ex F H → ∀ Q : VK, (∀ v F' H', Gr F H F' H' → Rep K F' v d → Q v H') → te σ H Q
def EvB (_ : Kw) (tt : TT) (σ : L2.St) (F : Hp) (b : Bool) : Prop := ∀ H, Ex F H → ∀ Q : Bool → Hp → Prop, (∀ F' H', Gr F H F' H' → Q b H') → tt σ H Q
def EvA (ta : TA) (σ : L2.St) (F : Hp) (ds : List D) : Prop := ∀ H, Ex F H → ∀ Q : List V → Hp → Prop, (∀ vs F' H', Gr F H F' H' → Reps K F' vs ds → Q vs H') → ta σ H Q
/-- the promise of a pure operation on two data, on a list of data -/
def rP2 (f : D → D → D → Prop) : R2 := fun x y H Q => ∃ F d e r, Ex F H ∧ Rep K F x d ∧ Rep K F y e ∧ f d e r ∧ ∀ v F' H', Gr F H F' H' → Rep K F' v r → Q v H'
def rPn (f : List D → D → Prop) : List V → Hp → VK → Prop := fun xs H Q => ∃ F ds r, Ex F H ∧ Reps K F xs ds ∧ f ds r ∧ ∀ v F' H', Gr F H F' H' → Rep K F' v r → Q v H'
def spP (n : Nat) (f : List D → D → Prop) : Sp := fun xs H Q _ => ∃ F ds r, Ex F H ∧ Reps K F xs ds ∧ ds.length = n ∧ f ds r ∧ ∀ v F' H', Gr F H F' H' → Rep K F' v r → Q v H'
end
section
variable {K : Kw} {σ : L2.St} {F F' : Hp} {ta tb te : TE} {t u : TT} {tl : TA} {d e r : D} {ds : List D}
theorem EvD.mono (h : EvD K te σ F d) (x : Ex F F') : EvD K te σ F' d := fun H a Q q => by
  refine h H (x.trans a) Q fun v F2 H2 g i => ?_
  -- F' grows by what is new
  have key : Gr F' H (fun a => match F' a with | some o => some o | none => F2 a) H2 := by
    refine ⟨g.hh, fun b o hb => by simp [hb], fun b o hb => ?_, fun b o hb => ?_⟩
    · cases q1 : F' b with
      | some u => simp [q1] at hb; subst hb; exact g.hh _ _ (a _ _ q1)
      | none => simp [q1] at hb; exact g.sub _ _ hb
    · cases q1 : F' b with
      | some u => simp [q1] at hb; subst hb; exact .inl rfl
      | none =>
        simp [q1] at hb
        rcases g.new _ _ hb with z | z
        · rw [x _ _ z] at q1; cases q1
        · exact .inr z
  refine q v _ H2 key (i.mono fun b o hb => ?_)
  show (match F' b with | some o => some o | none => F2 b) = some o
  cases q1 : F' b with
  | none => exact hb
  | some u =>
    have z1 := g.sub _ _ hb
    have z2 := g.hh _ _ (a _ _ q1)
    rw [z1] at z2; cases z2; rfl
theorem EvB.mono {b : Bool} (h : EvB K t σ F b) (x : Ex F F') : EvB K t σ F' b := fun H a Q q => by
  refine h H (x.trans a) Q fun F2 H2 g => ?_
  refine q (fun a => match F' a with | some o => some o | none => F2 a) H2 ⟨g.hh, fun b o hb => by simp [hb], fun b o hb => ?_, fun b o hb => ?_⟩
  · cases q1 : F' b with
    | some u => simp [q1] at hb; subst hb; exact g.hh _ _ (a _ _ q1)
    | none => simp [q1] at hb; exact g.sub _ _ hb
  · cases q1 : F' b with
    | some u => simp [q1] at hb; subst hb; exact .inl rfl
    | none =>
      simp [q1] at hb
      rcases g.new _ _ hb with z | z
      · rw [x _ _ z] at q1; cases q1
      · exact .inr z
theorem ev_var {i : Nat} {v : V} (h : σ[i]? = some (some v)) (hd : Rep K F v d) : EvD K (tVar i) σ F d := fun H e Q q => ⟨v, h, q v F H (.refl e) hd⟩
theorem ev_c {x : V} : EvD K (tC x) σ F (.v x) := fun H e Q q => q x F H (.refl e) (.v x)
theorem ev_cD {x : V} (h : Rep K F x d) : EvD K (tC x) σ F d := fun H e Q q => q x F H (.refl e) h
theorem ev_op {f : D → D → D → Prop} (ha : EvD K ta σ F d) (hb : EvD K tb σ F e) (hf : f d e r) : EvD K (tOp (rP2 K f) ta tb) σ F r := fun H x Q q =>
  ha H x _ fun v F1 H1 g1 i1 => (hb.mono g1.ff) H1 g1.sub _ fun w F2 H2 g2 i2 => ⟨F2, d, e, r, g2.sub, i1.mono g2.ff, i2, hf, fun z F3 H3 g3 i3 => q z F3 H3 ((g1.trans g2).trans g3) i3⟩
theorem ea_nil : EvA K tNil σ F [] := fun H x Q q => q [] F H (.refl x) .nil
theorem EvA.mono (h : EvA K tl σ F ds) (x : Ex F F') : EvA K tl σ F' ds := fun H a Q q => by
  refine h H (x.trans a) Q fun v F2 H2 g i => ?_
  have key : Gr F' H (fun a => match F' a with | some o => some o | none => F2 a) H2 := by
    refine ⟨g.hh, fun b o hb => by simp [hb], fun b o hb => ?_, fun b o hb => ?_⟩
    · cases q1 : F' b with
      | some u => simp [q1] at hb; subst hb; exact g.hh _ _ (a _ _ q1)
      | none => simp [q1] at hb; exact g.sub _ _ hb
    · cases q1 : F' b with
      | some u => simp [q1] at hb; subst hb; exact .inl rfl
      | none =>
        simp [q1] at hb
        rcases g.new _ _ hb with z | z
        · rw [x _ _ z] at q1; cases q1
        · exact .inr z
  refine q v _ H2 key (i.mono fun b o hb => ?_)
  show (match F' b with | some o => some o | none => F2 b) = some o
  cases q1 : F' b with
  | none => exact hb
  | some u =>
    have z1 := g.sub _ _ hb
    have z2 := g.hh _ _ (a _ _ q1)
    rw [z1] at z2; cases z2; rfl
theorem ea_cons (ha : EvD K ta σ F d) (hr : EvA K tl σ F ds) : EvA K (tCons ta tl) σ F (d :: ds) := fun H x Q q =>
  ha H x _ fun v F1 H1 g1 i1 => (hr.mono g1.ff) H1 g1.sub _ fun vs F2 H2 g2 i2 => q (v :: vs) F2 H2 (g1.trans g2) (.cons (i1.mono g2.ff) i2)
theorem ev_tup (h : EvA K tl σ F ds) (hz : ds.length ≤ sizeLine) : EvD K (tTup tl) σ F (.tup ds) := fun H x Q q =>
  h H x _ fun vs F1 H1 g1 i1 => ⟨by rw [i1.length]; exact hz, fun p hp => q _ _ _ (g1.trans (.alloc g1.sub hp)) (.tup (.inl (.inl upd_same)) (i1.mono (.new (g1.sub.fresh hp))))⟩
theorem ev_lst (h : EvA K tl σ F ds) (hz : ds.length ≤ sizeLine) : EvD K (tLst tl) σ F (.lst ds) := fun H x Q q =>
  h H x _ fun vs F1 H1 g1 i1 => ⟨by rw [i1.length]; exact hz, fun p hp => q _ _ _ (g1.trans (.alloc g1.sub hp)) (.lst upd_same (i1.mono (.new (g1.sub.fresh hp))))⟩
theorem ev_cb {f : List D → D → Prop} (h : EvA K tl σ F ds) (hf : f ds r) : EvD K (tCB (rPn K f) tl) σ F r := fun H x Q q =>
  h H x _ fun vs F1 H1 g1 i1 => ⟨F1, ds, r, g1.sub, i1, hf, fun v F2 H2 g2 i2 => q v F2 H2 (g1.trans g2) i2⟩
theorem ev_call {n : Nat} {f : List D → D → Prop} {E : XK} (h : EvA K tl σ F ds) (hf : f ds r) (hn : ds.length = n := by rfl) : EvD K (tCall (spP K n f) [] E tl) σ F r := fun H x Q q =>
  h H x _ fun vs F1 H1 g1 i1 => ⟨F1, ds, r, g1.sub, by rw [List.append_nil]; exact i1, hn, hf, fun v F2 H2 g2 i2 => q v F2 H2 (g1.trans g2) i2⟩
/-- attributes of an instance -/
theorem ev_fld {C : Addr} {fs : List (Str × D)} {f : Str} (h : EvD K ta σ F (.ins C fs)) (hc : Cls K.K C) (hn : NoAttr K.K C f) (hf : fs.lookup f = some r) : EvD K (tFld K.K ta f) σ F r := fun H x Q q =>
  h H x _ fun v F1 H1 g1 i1 => by
    cases i1 with
    | ins ha hs =>
      obtain ⟨w, hw, iw⟩ := hs.look hf
      exact ⟨_, C, _, _, w, rfl, g1.sub _ _ ha, hc, hn, hw, q w F1 H1 g1 iw⟩
/-- tests -/
theorem eb_test {b : Bool} (h : EvD K te σ F (.bl b)) : EvB K (tTest te) σ F b := fun H x Q q => h H x _ fun v F1 H1 g1 i1 => ⟨b, i1.val, q F1 H1 g1⟩
theorem eb_B {b : Bool} (h : EvD K te σ F (.bl b)) : EvB K (tB te) σ F b := fun H x Q q => h H x _ fun v F1 H1 g1 i1 => ⟨b, i1.val, q F1 H1 g1⟩
theorem eb_and {a b : Bool} (h1 : EvB K t σ F a) (h2 : a = true → EvB K u σ F b) : EvB K (tAnd t u) σ F (a && b) := fun H x Q q => h1 H x _ fun F1 H1 g1 => by
  cases a with
  | true => exact ((h2 rfl).mono g1.ff) H1 g1.sub Q fun F2 H2 g2 => q F2 H2 (g1.trans g2)
  | false => exact q F1 H1 g1
theorem eb_or {a b : Bool} (h1 : EvB K t σ F a) (h2 : a = false → EvB K u σ F b) : EvB K (tOr t u) σ F (a || b) := fun H x Q q => h1 H x _ fun F1 H1 g1 => by
  cases a with
  | true => exact q F1 H1 g1
  | false => exact ((h2 rfl).mono g1.ff) H1 g1.sub Q fun F2 H2 g2 => q F2 H2 (g1.trans g2)
theorem eb_not {a : Bool} (h1 : EvB K t σ F a) : EvB K (tNot t) σ F (!a) := fun H x Q q => h1 H x _ fun F1 H1 g1 => q F1 H1 g1
theorem ev_andV {a b : Bool} (h1 : EvD K ta σ F (.bl a)) (h2 : a = true → EvD K tb σ F (.bl b)) : EvD K (tAndV ta tb) σ F (.bl (a && b)) := fun H x Q q => h1 H x _ fun v F1 H1 g1 i1 => ⟨a, i1.val, by
  cases a with
  | true => exact ((h2 rfl).mono g1.ff) H1 g1.sub Q fun v F2 H2 g2 i2 => q v F2 H2 (g1.trans g2) i2
  | false => exact q _ F1 H1 g1 (.v _)⟩
theorem ev_orV {a b : Bool} (h1 : EvD K ta σ F (.bl a)) (h2 : a = false → EvD K tb σ F (.bl b)) : EvD K (tOrV ta tb) σ F (.bl (a || b)) := fun H x Q q => h1 H x _ fun v F1 H1 g1 i1 => ⟨a, i1.val, by
  cases a with
  | true => exact q _ F1 H1 g1 (.v _)
  | false => exact ((h2 rfl).mono g1.ff) H1 g1.sub Q fun v F2 H2 g2 i2 => q v F2 H2 (g1.trans g2) i2⟩
theorem ev_notV {a : Bool} (h1 : EvD K ta σ F (.bl a)) : EvD K (tNotV ta) σ F (.bl (!a)) := fun H x Q q => h1 H x _ fun v F1 H1 g1 i1 => ⟨a, i1.val, q _ F1 H1 g1 (.v _)⟩
theorem ev_if {b : Bool} (h : EvB K t σ F b) (h1 : b = true → EvD K ta σ F d) (h2 : b = false → EvD K tb σ F d) : EvD K (tIf t ta tb) σ F d := fun H x Q q => h H x _ fun F1 H1 g1 => by
  cases b with
  | true => exact ((h1 rfl).mono g1.ff) H1 g1.sub Q fun v F2 H2 g2 i2 => q v F2 H2 (g1.trans g2) i2
  | false => exact ((h2 rfl).mono g1.ff) H1 g1.sub Q fun v F2 H2 g2 i2 => q v F2 H2 (g1.trans g2) i2
theorem ev_is (h : EvD K te σ F d) (e' : d = r) : EvD K te σ F r := e' ▸ h
theorem eb_is {a b : Bool} (h : EvB K t σ F a) (e : a = b) : EvB K t σ F b := e ▸ h
end
end Dr
namespace Dr
open PySem PySem.Spec PyProof.Rows L2

abbrev kw (X : Cx) : Kw := ⟨X.K, X.w⟩

/-! ### operators on data -/
inductive AddD : D → D → D → Prop
  | int (i j : Int) : AddD (.int i) (.int j) (.int (i + j))
  | str (a b : Str) : a.length + b.length ≤ sizeLine → AddD (.str a) (.str b) (.str (a ++ b))
  | tup (a b : List D) : a.length + b.length ≤ sizeLine → AddD (.tup a) (.tup b) (.tup (a ++ b))
  | lst (a b : List D) : a.length + b.length ≤ sizeLine → AddD (.lst a) (.lst b) (.lst (a ++ b))
inductive SubD : D → D → D → Prop
  | int (i j : Int) : SubD (.int i) (.int j) (.int (i - j))
inductive MulD : D → D → D → Prop
  | int (i j : Int) : CMul i j → MulD (.int i) (.int j) (.int (i * j))
  | tup (a : List D) (k : Int) : a ≠ [] → 2 ≤ k → k ≤ 1000 → a.length ≤ 1000 → MulD (.tup a) (.int k) (.tup (List.replicate k.toNat a).flatten)
  | lst (a : List D) (k : Int) : -1000 ≤ k → k ≤ 1000 → a.length ≤ 1000 → MulD (.lst a) (.int k) (.lst (List.replicate k.toNat a).flatten)
inductive ModD : D → D → D → Prop
  | int (i j : Int) : 0 < j → ModD (.int i) (.int j) (.int (i % j))
inductive FdivD : D → D → D → Prop
  | int (i j : Int) : 0 < j → j < 1073741824 → FdivD (.int i) (.int j) (.int (i / j))
inductive PowD : D → D → D → Prop
  | int (i j : Int) : CPow i j → PowD (.int i) (.int j) (.int (i ^ j.toNat))
inductive LtD : D → D → D → Prop
  | int (i j : Int) : LtD (.int i) (.int j) (.bl (decide (i < j)))
  | str (a b : Str) : LtD (.str a) (.str b) (.bl (decide (a.cps.toList < b.cps.toList)))
inductive LeD : D → D → D → Prop
  | int (i j : Int) : LeD (.int i) (.int j) (.bl (decide (i ≤ j)))
inductive GtD : D → D → D → Prop
  | int (i j : Int) : GtD (.int i) (.int j) (.bl (decide (j < i)))
inductive GeD : D → D → D → Prop
  | int (i j : Int) : GeD (.int i) (.int j) (.bl (decide (j ≤ i)))

section
variable {X : Cx}
theorem Reps.rep {K : Kw} {F : Hp} {vs : List V} {ds : List D} (h : Reps K F vs ds) : ∀ n : Nat, Reps K F (List.replicate n vs).flatten (List.replicate n ds).flatten
  | 0 => .nil
  | n + 1 => by rw [List.replicate_succ, List.replicate_succ, List.flatten_cons, List.flatten_cons]; exact h.append (h.rep n)
theorem Reps.nil_iff {K : Kw} {F : Hp} {vs : List V} {ds : List D} (h : Reps K F vs ds) : vs = [] ↔ ds = [] := by
  cases h <;> simp
theorem op_addD : OpR X (binaryOp .Add) (rP2 (kw X) AddD) := by
  intro pins s σ H x y v u Q I rx ry h
  obtain ⟨F, d, e, r, sub, id, ie, hf, q⟩ := h
  cases hf with
  | int i j => cases id; cases ie; exact op_add pins s σ H _ _ v u Q I rx ry ⟨i, j, rfl, rfl, q _ F H (.refl sub) (.v _)⟩
  | str a b hl => cases id; cases ie; exact op_add_str pins s σ H _ _ v u Q I rx ry ⟨a, b, rfl, rfl, hl, q _ F H (.refl sub) (.v _)⟩
  | tup a b hl =>
    cases id with | tup h1 r1 => cases ie with | tup h2 r2 =>
    have l1 := r1.length; have l2 := r2.length
    refine op_catA pins s σ H _ _ v u Q I rx ry ⟨_, _, _, _, rfl, rfl, sub.t h1, sub.t h2, by omega, fun e0 => ?_, fun e1 e0 => ?_, fun e1 e2 p hp => ?_⟩
    · have z := r1.nil_iff.mp e0; subst z
      exact q _ F H (.refl sub) (.tup h2 r2)
    · have z := r2.nil_iff.mp e0; subst z
      rw [List.append_nil] at q
      exact q _ F H (.refl sub) (.tup h1 r1)
    · exact q _ _ _ (.alloc sub hp) (.tup (.inl (.inl upd_same)) ((r1.append r2).mono (.new (sub.fresh hp))))
  | lst a b hl =>
    cases id with | lst h1 r1 => cases ie with | lst h2 r2 =>
    have l1 := r1.length; have l2 := r2.length
    exact op_cat pins s σ H _ _ v u Q I rx ry ⟨_, _, _, _, rfl, rfl, sub _ _ h1, sub _ _ h2, by omega, fun p hp => q _ _ _ (.alloc sub hp) (.lst upd_same ((r1.append r2).mono (.new (sub.fresh hp))))⟩
theorem op_subD : OpR X (binaryOp .Sub) (rP2 (kw X) SubD) := by
  intro pins s σ H x y v u Q I rx ry h
  obtain ⟨F, d, e, r, sub, id, ie, hf, q⟩ := h
  cases hf with
  | int i j => cases id; cases ie; exact op_sub pins s σ H _ _ v u Q I rx ry ⟨i, j, rfl, rfl, q _ F H (.refl sub) (.v _)⟩
theorem len_rep {α : Type} (a : List α) : ∀ n : Nat, (List.replicate n a).flatten.length = n * a.length
  | 0 => by simp
  | n + 1 => by rw [List.replicate_succ, List.flatten_cons, List.length_append, len_rep a n, Nat.succ_mul]; omega
theorem op_mulD : OpR X (binaryOp .Mult) (rP2 (kw X) MulD) := by
  intro pins s σ H x y v u Q I rx ry h
  obtain ⟨F, d, e, r, sub, id, ie, hf, q⟩ := h
  cases hf with
  | int i j hc => cases id; cases ie; exact op_mul pins s σ H _ _ v u Q I rx ry ⟨i, j, rfl, rfl, hc, q _ F H (.refl sub) (.v _)⟩
  | tup a k hne h1 h2 h3 =>
    cases id with | tup g1 r1 =>
    cases ie
    have l1 := r1.length
    exact op_repT pins s σ H _ _ v u Q I rx ry ⟨_, k, _, rfl, rfl, sub.t g1, fun z => hne (r1.nil_iff.mp z), h1, h2, by omega, fun p hp => q _ _ _ (.alloc sub hp) (.tup (.inl (.inl upd_same)) ((r1.rep _).mono (.new (sub.fresh hp))))⟩
  | lst a k h1 h2 h3 =>
    cases id with | lst g1 r1 =>
    cases ie
    have l1 := r1.length
    refine op_rep pins s σ H _ _ v u Q I rx ry ⟨_, k, _, rfl, rfl, sub _ _ g1, by omega, by omega, ?_, fun p hp => q _ _ _ (.alloc sub hp) (.lst upd_same ((r1.rep _).mono (.new (sub.fresh hp))))⟩
    have hk : k.toNat ≤ 1000 := by omega
    have := Nat.mul_le_mul (show _ ≤ 1000 by omega : _ ≤ 1000) hk
    exact Nat.le_trans (Nat.mul_le_mul (show _ ≤ 1000 from by rw [l1]; exact h3) hk) (by decide)
theorem op_modD : OpR X (binaryOp .Mod) (rP2 (kw X) ModD) := by
  intro pins s σ H x y v u Q I rx ry h
  obtain ⟨F, d, e, r, sub, id, ie, hf, q⟩ := h
  cases hf with
  | int i j hc => cases id; cases ie; exact op_mod pins s σ H _ _ v u Q I rx ry ⟨i, j, rfl, rfl, hc, q _ F H (.refl sub) (.v _)⟩
theorem op_fdivD : OpR X (binaryOp .FloorDiv) (rP2 (kw X) FdivD) := by
  intro pins s σ H x y v u Q I rx ry h
  obtain ⟨F, d, e, r, sub, id, ie, hf, q⟩ := h
  cases hf with
  | int i j h1 h2 => cases id; cases ie; exact op_fdiv pins s σ H _ _ v u Q I rx ry ⟨i, j, rfl, rfl, ⟨h1, h2⟩, q _ F H (.refl sub) (.v _)⟩
theorem op_powD : OpR X (binaryOp .Pow) (rP2 (kw X) PowD) := by
  intro pins s σ H x y v u Q I rx ry h
  obtain ⟨F, d, e, r, sub, id, ie, hf, q⟩ := h
  cases hf with
  | int i j hc => cases id; cases ie; exact op_pow pins s σ H _ _ v u Q I rx ry ⟨i, j, rfl, rfl, hc, q _ F H (.refl sub) (.v _)⟩
theorem op_ltD : OpR X (compareOp .Lt) (rP2 (kw X) LtD) := by
  intro pins s σ H x y v u Q I rx ry h
  obtain ⟨F, d, e, r, sub, id, ie, hf, q⟩ := h
  cases hf with
  | int i j => cases id; cases ie; exact op_lt pins s σ H _ _ v u Q I rx ry ⟨i, j, rfl, rfl, q _ F H (.refl sub) (.v _)⟩
  | str i j => cases id; cases ie; exact op_lt_str pins s σ H _ _ v u Q I rx ry ⟨i, j, rfl, rfl, q _ F H (.refl sub) (.v _)⟩
theorem op_leD : OpR X (compareOp .LtE) (rP2 (kw X) LeD) := by
  intro pins s σ H x y v u Q I rx ry h
  obtain ⟨F, d, e, r, sub, id, ie, hf, q⟩ := h
  cases hf with
  | int i j => cases id; cases ie; exact op_le pins s σ H _ _ v u Q I rx ry ⟨i, j, rfl, rfl, q _ F H (.refl sub) (.v _)⟩
theorem op_gtD : OpR X (compareOp .Gt) (rP2 (kw X) GtD) := by
  intro pins s σ H x y v u Q I rx ry h
  obtain ⟨F, d, e, r, sub, id, ie, hf, q⟩ := h
  cases hf with
  | int i j => cases id; cases ie; exact op_gt pins s σ H _ _ v u Q I rx ry ⟨i, j, rfl, rfl, q _ F H (.refl sub) (.v _)⟩
theorem op_geD : OpR X (compareOp .GtE) (rP2 (kw X) GeD) := by
  intro pins s σ H x y v u Q I rx ry h
  obtain ⟨F, d, e, r, sub, id, ie, hf, q⟩ := h
  cases hf with
  | int i j => cases id; cases ie; exact op_ge pins s σ H _ _ v u Q I rx ry ⟨i, j, rfl, rfl, q _ F H (.refl sub) (.v _)⟩
end

/-! ### equality -/
mutual
/-- data as the library's data -/
def pyD : D → PyData
  | .v .non => .none
  | .v (.bl b) => .bool b
  | .v (.int i) => .int i
  | .v (.str x) => .str x
  | .v _ => .none
  | .tup ds => .tuple (pyDs ds)
  | .lst ds => .list (pyDs ds)
  | .dct _ => .none
  | .kdc _ => .none
  | .ins _ _ => .none
  | .scr _ => .none
def pyDs : List D → List PyData
  | [] => []
  | d :: ds => pyD d :: pyDs ds
end
theorem pyDs_map : ∀ ds : List D, pyDs ds = ds.map pyD
  | [] => rfl
  | d :: ds => by rw [pyDs, pyDs_map ds]; rfl
def flatW : V → Bool
  | .non => true
  | .bl _ => true
  | .int _ => true
  | .str x => PyData.strOk x
  | _ => false
mutual
/-- data without dicts, instances, references, at most n deep -/
def flatD : Nat → D → Bool
  | _, .v x => flatW x
  | 0, .tup _ => false
  | n + 1, .tup ds => flatDs n ds
  | 0, .lst _ => false
  | n + 1, .lst ds => flatDs n ds
  | _, .dct _ => false
  | _, .kdc _ => false
  | _, .ins _ _ => false
  | _, .scr _ => false
def flatDs : Nat → List D → Bool
  | _, [] => true
  | n, d :: ds => flatD n d && flatDs n ds
end
theorem flatDs_all : ∀ {n : Nat} {ds : List D}, flatDs n ds = ds.all (flatD n)
  | n, [] => by rw [flatDs]; rfl
  | n, d :: ds => by rw [flatDs, flatDs_all]; rfl
mutual
theorem flat_lay : ∀ (n : Nat) (d : D), flatD n d = true → (pyD d).canLay0 = true ∧ (pyD d).depth ≤ n
  | n, .v x, h => by cases x <;> simp [flatD, flatW] at h <;> simp [pyD, PyData.canLay0, PyData.depth, h]
  | 0, .tup _, h => by simp [flatD] at h
  | n + 1, .tup ds, h => by
    rw [flatD] at h
    have := flat_lays n ds h
    rw [pyD, PyData.canLay0, PyData.depth]
    exact ⟨this.1, by omega⟩
  | 0, .lst _, h => by simp [flatD] at h
  | n + 1, .lst ds, h => by
    rw [flatD] at h
    have := flat_lays n ds h
    rw [pyD, PyData.canLay0, PyData.depth]
    exact ⟨this.1, by omega⟩
  | n, .dct _, h => by simp [flatD] at h
  | n, .kdc _, h => by simp [flatD] at h
  | n, .ins _ _, h => by simp [flatD] at h
  | n, .scr _, h => by simp [flatD] at h
theorem flat_lays : ∀ (n : Nat) (ds : List D), flatDs n ds = true → PyData.canLayAll0 (pyDs ds) = true ∧ PyData.depthAll (pyDs ds) ≤ n
  | n, [], _ => by simp [pyDs, PyData.canLayAll0, PyData.depthAll]
  | n, d :: ds, h => by
    rw [flatDs, Bool.and_eq_true] at h
    have h1 := flat_lay n d h.1
    have h2 := flat_lays n ds h.2
    rw [pyDs, PyData.canLayAll0, PyData.depthAll]
    exact ⟨by rw [h1.1, h2.1]; rfl, by omega⟩
end
theorem flat_shaped {n : Nat} {d : D} (h : flatD n d = true) (hn : n ≤ 64) : SeqAt.shaped (pyD d) = true := by
  have := flat_lay n d h
  unfold SeqAt.shaped
  rw [this.1, decide_eq_true (by omega)]; rfl
section
variable {K : Kw} {F H : Hp}
mutual
theorem Rep.dp (e : Ex F H) : ∀ (n : Nat) (d : D) (v : V), Rep K F v d → flatD n d = true → Dp K.K H v (pyD d)
  | n, .v x, v, h, hf => by
    cases h
    cases x <;> simp [flatD, flatW] at hf
    · exact .non
    · exact .bl _
    · exact .int _
    · exact .str _
  | 0, .tup _, v, h, hf => by simp [flatD] at hf
  | n + 1, .tup ds, v, h, hf => by
    cases h with
    | tup ha hs => rw [flatD] at hf; rw [pyD]; exact .tup (e.t ha) (Reps.dp e n ds _ hs hf)
  | 0, .lst _, v, h, hf => by simp [flatD] at hf
  | n + 1, .lst ds, v, h, hf => by
    cases h with
    | lst ha hs => rw [flatD] at hf; rw [pyD]; exact .lst (.inl (.inl (e _ _ ha))) (Reps.dp e n ds _ hs hf)
  | n, .dct _, v, h, hf => by simp [flatD] at hf
  | n, .kdc _, v, h, hf => by simp [flatD] at hf
  | n, .ins _ _, v, h, hf => by simp [flatD] at hf
  | n, .scr _, v, h, hf => by simp [flatD] at hf
theorem Reps.dp (e : Ex F H) : ∀ (n : Nat) (ds : List D) (vs : List V), Reps K F vs ds → flatDs n ds = true → DpAll K.K H vs (pyDs ds)
  | n, [], vs, h, _ => by cases h; exact .nil
  | n, d :: ds, vs, h, hf => by
    rw [flatDs, Bool.and_eq_true] at hf
    cases h with
    | cons h r => rw [pyDs]; exact .cons (Rep.dp e n d _ h hf.1) (Reps.dp e n ds _ r hf.2)
end
end
/-- == of plain data -/
def eqD (d e : D) : Bool := PyData.eqv (pyD d) (pyD e)
inductive EqD : D → D → D → Prop
  | flat (d e : D) : flatD 8 d = true → flatD 8 e = true → EqD d e (.bl (eqD d e))
inductive NeD : D → D → D → Prop
  | flat (d e : D) : flatD 8 d = true → flatD 8 e = true → NeD d e (.bl (!eqD d e))
section
variable {X : Cx}
theorem op_eqP (hu : X.A.units + 64 < cLine) : OpR X (compareOp .Eq) (rP2 (kw X) EqD) := by
  intro pins s σ H x y v u Q I rx ry h
  obtain ⟨F, d, e, r, sub, id, ie, hf, q⟩ := h
  cases hf with
  | flat h1 h2 => exact op_eqD hu pins s σ H _ _ v u Q I rx ry ⟨pyD d, pyD e, id.dp sub 8 _ _ h1, ie.dp sub 8 _ _ h2, flat_shaped h1 (by decide), flat_shaped h2 (by decide), q _ F H (.refl sub) (.v _)⟩
theorem op_neP (hu : X.A.units + 64 < cLine) : OpR X (compareOp .NotEq) (rP2 (kw X) NeD) := by
  intro pins s σ H x y v u Q I rx ry h
  obtain ⟨F, d, e, r, sub, id, ie, hf, q⟩ := h
  cases hf with
  | flat h1 h2 => exact op_neD hu pins s σ H _ _ v u Q I rx ry ⟨pyD d, pyD e, id.dp sub 8 _ _ h1, ie.dp sub 8 _ _ h2, flat_shaped h1 (by decide), flat_shaped h2 (by decide), q _ F H (.refl sub) (.v _)⟩
end

/-! ### subscripts -/
inductive IxD : D → D → D → Prop
  | tup (ds : List D) (i : Int) (d : D) : atI ds i = some d → IxD (.tup ds) (.int i) d
  | lst (ds : List D) (i : Int) (d : D) : atI ds i = some d → IxD (.lst ds) (.int i) d
  | scr (ns : List Int) (i n : Int) : atI ns i = some n → IxD (.scr ns) (.int i) (.int n)
  | dcS (d0 : D) (ds : List (Key × D)) (x : Str) (d : D) : IsDc d0 ds → dkGet ds (.inr x) = some d → IxD d0 (.str x) d
  | dcI (d0 : D) (ds : List (Key × D)) (i : Int) (d : D) : IsDc d0 ds → dkGet ds (.inl i) = some d → IxD d0 (.int i) d
theorem Reps.atI {K : Kw} {F : Hp} {vs : List V} {ds : List D} (h : Reps K F vs ds) {i : Int} {d : D} (e : L2.atI ds i = some d) : ∃ v, L2.atI vs i = some v ∧ Rep K F v d := by
  unfold L2.atI at e ⊢
  rw [h.length]
  cases q : ixN ds.length i with
  | none => rw [q] at e; cases e
  | some j => rw [q] at e; exact h.get e
theorem atI_map {α β : Type} (f : α → β) {xs : List α} {i : Int} {x : α} (e : L2.atI xs i = some x) : L2.atI (xs.map f) i = some (f x) := by
  unfold L2.atI at e ⊢
  rw [List.length_map]
  cases q : ixN xs.length i with
  | none => rw [q] at e; cases e
  | some j =>
    rw [q] at e
    have e : xs[j]? = some x := e
    show (xs.map f)[j]? = some (f x)
    rw [List.getElem?_map, e]; rfl
/-- a dict that is read: as the heap tells -/
theorem Rep.dictOf {X : Cx} {pins : List (Addr × Obj)} {σ : L2.St} {H F : Hp} {s : Shared} {v : V} {d0 : D} {ds : List (Key × D)} (I : Inv X pins σ H s) (sub : Ex F H) (h : Rep (kw X) F v d0) (hd0 : IsDc d0 ds) :
    ∃ a kvs vs, v = .ref a ∧ RepK (kw X) F kvs ds ∧ kvs.length ≤ sizeLine ∧ (a == sysModules) = false ∧ KV kvs vs ∧ s.heap.DictOf (mixKind X.prog X.w) a vs := by
  cases hd0 with
  | dct =>
    cases h with | dct ha hk =>
    obtain ⟨z, lo, vs, rel, dd⟩ := dk_rd I.hok (Or.inl (sub _ _ ha))
    exact ⟨_, _, vs, rfl, hk, z, lo, rel, dd⟩
  | kd =>
    cases h with | kd hd hk =>
    obtain ⟨o, es, ep, us, _, _, _, _, _, z, lo, rel, dd⟩ := hd
    exact ⟨_, _, us, rfl, hk, z, lo, rel, (dd _ _ I.kIn).dictOf⟩
section
variable {X : Cx}
theorem ix_dictP {value slice : Expr} {pins : List (Addr × Obj)} {s : Shared} {σ : L2.St} {H F : Hp} {x : V} {v u : Value} {k : Key} {d d0 : D} {ds : List (Key × D)} {Q : VK} (I : Inv X pins σ H s) (rx : RelV x v) (ry : RelV (kV k) u) (sub : Ex F H)
    (h : Rep (kw X) F x d0) (hd0 : IsDc d0 ds) (e : dkGet ds k = some d) (q : ∀ w, Rep (kw X) F w d → Q w H) (hs : subscripted slice false v u = operate [v, u] (getItem v u)) : wpAny (model X.prog X.w) X.A (subscriptTail value slice v u) (EP X pins σ Q) X.xe s := by
  obtain ⟨a, kvs, vs, rfl, hk, z, lo, rel, dd⟩ := h.dictOf I sub hd0
  cases rx
  obtain ⟨w, hw, iw⟩ := hk.look e
  have hv := rel.val k
  rw [hw] at hv
  obtain ⟨w', e', rw'⟩ := hv.some_of
  exact tail_any dd.typeIs slot_dict_getitem.lookup (wpAny_getItem_of (kV_is ry) dd.mapOf e' ⟨w, H, I.tok _, rw', q w iw⟩) hs
theorem ix_D : IxR X (rP2 (kw X) IxD) := by
  intro value slice pins s σ H x y v u Q I rx ry h hs
  obtain ⟨F, d, e, r, sub, id, ie, hf, q⟩ := h
  cases hf with
  | tup ds i d ha =>
    cases ie
    cases id with | tup h1 r1 =>
    obtain ⟨w, hw, iw⟩ := r1.atI ha
    exact ix_tup value slice pins s σ H _ _ v u Q I rx ry ⟨_, _, i, w, rfl, rfl, sub.t h1, hw, q w F H (.refl sub) iw⟩ hs
  | lst ds i d ha =>
    cases ie
    cases id with | lst h1 r1 =>
    obtain ⟨w, hw, iw⟩ := r1.atI ha
    exact ix_list value slice pins s σ H _ _ v u Q I rx ry ⟨_, _, i, w, rfl, rfl, .inl (.inl (sub _ _ h1)), hw, q w F H (.refl sub) iw⟩ hs
  | scr ns i n ha =>
    cases ie
    cases id with | scr h1 =>
    exact ix_list value slice pins s σ H _ _ v u Q I rx ry ⟨_, _, i, .int n, rfl, rfl, sub.l h1, atI_map V.int ha, q _ F H (.refl sub) (.v _)⟩ hs
  | dcS d0 ds k d hd0 ha => cases ie; exact ix_dictP (k := .inr k) I rx ry sub id hd0 ha (fun w iw => q w F H (.refl sub) iw) hs
  | dcI d0 ds k d hd0 ha => cases ie; exact ix_dictP (k := .inl k) I rx ry sub id hd0 ha (fun w iw => q w F H (.refl sub) iw) hs
end

/-! ### slices -/
def cutD (ds : List D) (lo hi : Option Int) : List D := (ds.drop (HT.sIx ds.length 0 lo)).take (HT.sIx ds.length ds.length hi - HT.sIx ds.length 0 lo)
inductive SlD : D → Option Int → Option Int → D → Prop
  | tup (ds : List D) (lo hi : Option Int) : SlD (.tup ds) lo hi (.tup (cutD ds lo hi))
  | lst (ds : List D) (lo hi : Option Int) : SlD (.lst ds) lo hi (.lst (cutD ds lo hi))
def rSlD (K : Kw) : V → Option Int → Option Int → Hp → VK → Prop := fun x lo hi H Q => ∃ F d r, Ex F H ∧ Rep K F x d ∧ SlD d lo hi r ∧ ∀ v F' H', Gr F H F' H' → Rep K F' v r → Q v H'
theorem Reps.cut {K : Kw} {F : Hp} {vs : List V} {ds : List D} (h : Reps K F vs ds) (lo hi : Option Int) : Reps K F (cutV vs lo hi) (cutD ds lo hi) := by
  unfold cutV cutD
  rw [h.length]
  exact (h.drop _).take _
section
variable {X : Cx}
theorem sl_D : SlR X (rSlD (kw X)) := by
  intro pins s σ H x v vl vu lo hi sl Q I rx hs pl pu h
  obtain ⟨F, d, r, sub, id, hf, q⟩ := h
  cases hf with
  | tup ds =>
    cases id with | tup h1 r1 =>
    refine sl_tupA pins s σ H _ v vl vu lo hi sl Q I rx hs pl pu ⟨_, _, rfl, sub.t h1, fun hw => ?_, fun _ p hp => ?_⟩
    · have l1 := r1.length
      rw [l1] at hw
      have e : cutD ds lo hi = ds := by unfold cutD; rw [hw.1, hw.2]; simp
      rw [e] at q
      exact q _ F H (.refl sub) (.tup h1 r1)
    · exact q _ _ _ (.alloc sub hp) (.tup (.inl (.inl upd_same)) ((r1.cut lo hi).mono (.new (sub.fresh hp))))
  | lst ds =>
    cases id with | lst h1 r1 =>
    exact sl_list pins s σ H _ v vl vu lo hi sl Q I rx hs pl pu ⟨_, _, rfl, .inl (.inl (sub _ _ h1)), fun p hp => q _ _ _ (.alloc sub hp) (.lst upd_same ((r1.cut lo hi).mono (.new (sub.fresh hp))))⟩
end
def EvO (_ : Kw) (to : TO) (σ : L2.St) (F : Hp) (o : Option Int) : Prop := ∀ H, Ex F H → ∀ Q : Option Int → Hp → Prop, (∀ F' H', Gr F H F' H' → Q o H') → to σ H Q
section
variable {K : Kw} {σ : L2.St} {F : Hp} {te : TE} {tl th : TO} {d r : D} {lo hi : Option Int}
theorem eo_none : EvO K tNoPart σ F none := fun H x Q q => q F H (.refl x)
theorem eo_some {i : Int} (h : EvD K te σ F (.int i)) : EvO K (tPart te) σ F (some i) := fun H x Q q => h H x _ fun v F1 H1 g1 i1 => ⟨i, i1.val, q F1 H1 g1⟩
theorem EvO.mono {F' : Hp} (h : EvO K tl σ F lo) (x : Ex F F') : EvO K tl σ F' lo := fun H a Q q => by
  refine h H (x.trans a) Q fun F2 H2 g => ?_
  refine q (fun a => match F' a with | some o => some o | none => F2 a) H2 ⟨g.hh, fun b o hb => by simp [hb], fun b o hb => ?_, fun b o hb => ?_⟩
  · cases q1 : F' b with
    | some u => simp [q1] at hb; subst hb; exact g.hh _ _ (a _ _ q1)
    | none => simp [q1] at hb; exact g.sub _ _ hb
  · cases q1 : F' b with
    | some u => simp [q1] at hb; subst hb; exact .inl rfl
    | none =>
      simp [q1] at hb
      rcases g.new _ _ hb with z | z
      · rw [x _ _ z] at q1; cases q1
      · exact .inr z
theorem ev_sl (h : EvD K te σ F d) (h1 : EvO K tl σ F lo) (h2 : EvO K th σ F hi) (hf : SlD d lo hi r) : EvD K (tSl (rSlD K) te tl th) σ F r := fun H x Q q =>
  h H x _ fun v F1 H1 g1 i1 => (h1.mono g1.ff) H1 g1.sub _ fun F2 H2 g2 => (h2.mono (g1.trans g2).ff) H2 g2.sub _ fun F3 H3 g3 =>
    ⟨F3, d, r, g3.sub, i1.mono (g2.trans g3).ff, hf, fun w F4 H4 g4 i4 => q w F4 H4 (((g1.trans g2).trans g3).trans g4) i4⟩
end
end Dr
namespace Dr
open PySem PySem.Spec PyProof.Rows L2

/-! ### calls of built-ins on data -/
def tyN : D → Option String
  | .v .non => some "NoneType"
  | .v (.bl _) => some "bool"
  | .v (.int _) => some "int"
  | .v (.str _) => some "str"
  | .v _ => none
  | .tup _ => some "tuple"
  | .lst _ => some "list"
  | .dct _ => some "dict"
  | .kdc _ => some "dict"
  | .ins _ _ => none
  | .scr _ => none
/-- what isinstance asks of an own class -/
structure IsiC (K : PySem.W.Frag) (C : Addr) : Prop where
  ha : PySem.W.findIn K (.ref C) "__class__" = some (some (.builtin "object.__class__"))
  hn : PySem.W.specialIn K (.builtin "object.__class__") "__get__" = some (some (.builtin "getset_descriptor.__get__"))
  htk : PySem.W.takesIn K (.builtin "object.__class__") = some true
  hm : PySem.W.mroIn K C (.type "object") = some true
inductive IsiD (K : Kw) : List D → D → Prop
  | ty (d : D) (t T : String) (b : Bool) : tyN d = some t → kitB t T = some b → IsiD K [d, .v (.ty T)] (.bl b)
  | no (d : D) (t : String) (C : Addr) (b : Bool) : tyN d = some t → PySem.W.kitOne K.K (.type t) (.ref C) = some b → IsiD K [d, .v (.ref C)] (.bl b)
  | own (C : Addr) (fs : List (Str × D)) (C' : Addr) (b : Bool) : Cls K.K C → IsiC K.K C → PySem.W.kitOne K.K (.ref C) (.ref C') = some b → IsiD K [.ins C fs, .v (.ref C')] (.bl b)
  | ownT (C : Addr) (fs : List (Str × D)) (T : String) (b : Bool) : Cls K.K C → IsiC K.K C → PySem.W.kitOne K.K (.ref C) (.type T) = some b → IsiD K [.ins C fs, .v (.ty T)] (.bl b)
theorem Reps.one {K : Kw} {F : Hp} {vs : List V} {d : D} (h : Reps K F vs [d]) : ∃ v, vs = [v] ∧ Rep K F v d := by
  cases h with | cons h r => cases r; exact ⟨_, rfl, h⟩
theorem Reps.two {K : Kw} {F : Hp} {vs : List V} {d e : D} (h : Reps K F vs [d, e]) : ∃ v w, vs = [v, w] ∧ Rep K F v d ∧ Rep K F w e := by
  cases h with | cons h r => obtain ⟨w, e, r'⟩ := r.one; subst e; exact ⟨_, w, rfl, h, r'⟩
theorem Rep.tyX {K : Kw} {F H : Hp} {v : V} {d : D} {t : String} (sub : Ex F H) (h : Rep K F v d) (e : tyN d = some t) : TyX K.K H v (.type t) := by
  cases h with
  | v x =>
    cases v <;> simp [tyN] at e <;> subst e
    · exact .base .non
    · exact .base (.bl _)
    · exact .base (.int _)
    · exact .base (.str _)
  | tup ha _ =>
    simp [tyN] at e; subst e
    rcases ha with (h | ⟨o, h⟩) | ⟨o, its, n, h, c, _⟩
    · exact .base (.tup (sub _ _ h))
    · exact .fTuple (sub _ _ h)
    · exact .kTuple h c
  | lst ha _ => simp [tyN] at e; subst e; exact .base (.lst (sub _ _ ha))
  | dct ha _ => simp [tyN] at e; subst e; exact .base (.dK (sub _ _ ha))
  | kd hd _ => simp [tyN] at e; subst e; obtain ⟨o, _, _, _, h, c, _⟩ := hd; exact .kDict h c
  | ins _ _ => simp [tyN] at e
  | scr _ => simp [tyN] at e
section
variable {X : Cx}
theorem call_isiD : CallR X (.builtin "isinstance") (rPn (kw X) (IsiD (kw X))) := by
  intro pins s σ H xs us Q I rx h
  obtain ⟨F, ds, r, sub, id, hf, q⟩ := h
  cases hf with
  | ty d t T b h1 h2 =>
    obtain ⟨v, w, rfl, i1, i2⟩ := id.two
    cases i2
    exact call_isi pins s σ H _ us Q I rx ⟨v, .ty T, _, _, b, rfl, .ty T, i1.tyX sub h1, kit_ty h2, q _ F H (.refl sub) (.v _)⟩
  | no d t C b h1 h2 =>
    obtain ⟨v, w, rfl, i1, i2⟩ := id.two
    cases i2
    exact call_isi pins s σ H _ us Q I rx ⟨v, .ref C, _, _, b, rfl, .own C, i1.tyX sub h1, h2, q _ F H (.refl sub) (.v _)⟩
  | own C fs C' b hc hi h2 =>
    obtain ⟨v, w, rfl, i1, i2⟩ := id.two
    cases i2
    cases i1 with | ins ha _ =>
    exact call_isi pins s σ H _ us Q I rx ⟨_, .ref C', .ref C, _, b, rfl, .own C', .base (.ins (sub _ _ ha) hc hi.ha hi.hn hi.htk hi.hm), h2, q _ F H (.refl sub) (.v _)⟩
  | ownT C fs T b hc hi h2 =>
    obtain ⟨v, w, rfl, i1, i2⟩ := id.two
    cases i2
    cases i1 with | ins ha _ =>
    exact call_isi pins s σ H _ us Q I rx ⟨_, .ty T, .ref C, _, b, rfl, .ty T, .base (.ins (sub _ _ ha) hc hi.ha hi.hn hi.htk hi.hm), h2, q _ F H (.refl sub) (.v _)⟩
end

inductive LenD : List D → D → Prop
  | tup (ds : List D) : LenD [.tup ds] (.int ds.length)
  | lst (ds : List D) : LenD [.lst ds] (.int ds.length)
  | scr (ns : List Int) : LenD [.scr ns] (.int ns.length)
  | str (x : Str) : x.length ≤ sizeLine → LenD [.str x] (.int x.length)
  | dct (d0 : D) (ds : List (Key × D)) : IsDc d0 ds → LenD [d0] (.int ds.length)
section
variable {X : Cx}
theorem call_lenP : CallR X (.builtin "len") (rPn (kw X) LenD) := by
  intro pins s σ H xs us Q I rx h
  obtain ⟨F, ds, r, sub, id, hf, q⟩ := h
  cases hf with
  | tup ds =>
    obtain ⟨v, rfl, i1⟩ := id.one
    cases i1 with | tup h1 r1 =>
    exact call_len_seq pins s σ H _ us Q I rx ⟨_, _, rfl, .inr (sub.t h1), by rw [r1.length]; exact q _ F H (.refl sub) (.v _)⟩
  | lst ds =>
    obtain ⟨v, rfl, i1⟩ := id.one
    cases i1 with | lst h1 r1 =>
    exact call_len_seq pins s σ H _ us Q I rx ⟨_, _, rfl, .inl (.inl (.inl (sub _ _ h1))), by rw [r1.length]; exact q _ F H (.refl sub) (.v _)⟩
  | scr ns =>
    obtain ⟨v, rfl, i1⟩ := id.one
    cases i1 with | scr h1 =>
    exact call_len_seq pins s σ H _ us Q I rx ⟨_, _, rfl, .inl (sub.l h1), by rw [List.length_map]; exact q _ F H (.refl sub) (.v _)⟩
  | str x hx =>
    obtain ⟨v, rfl, i1⟩ := id.one
    cases i1
    exact call_len_str pins s σ H _ us Q I rx ⟨x, rfl, hx, q _ F H (.refl sub) (.v _)⟩
  | dct d0 ds hd0 =>
    obtain ⟨v, rfl, i1⟩ := id.one
    obtain ⟨a, kvs, vs, rfl, hk, z, lo, rel, dd⟩ := i1.dictOf I sub hd0
    obtain ⟨u, rfl, ru⟩ := vals1 rx
    cases ru
    refine call_len_dict lo dd (by rw [← rel.length]; rw [sizeLine_eq] at z; omega) ?_
    rw [← rel.length, hk.length]
    exact ⟨.int _, H, I.tok _, ⟨_, rfl⟩, q _ F H (.refl sub) (.v _)⟩
end
def kD : Key → D := fun k => .v (kV k)
/-- the promise of a call that gives a new list -/
def rNn (K : Kw) (f : List D → List D → Prop) : List V → Hp → VK → Prop := fun xs H Q => ∃ F ds rs, Ex F H ∧ Reps K F xs ds ∧ f ds rs ∧ ∀ p vs F' H', Gr F H F' H' → H p = none → F' p = none → H' p = some (.lst vs) → Reps K F' vs rs → Q (.ref p) H'
theorem Gr.alloc' {F H : Hp} (e : Ex F H) {p : Addr} {o : HO} (n : H p = none) : Gr F H F (upd H p o) := ⟨.new n, .refl _, e.trans (.new n), fun _ _ h => .inl h⟩
inductive ListN : List D → List D → Prop
  | tup (ds : List D) : ListN [.tup ds] ds
  | lst (ds : List D) : ListN [.lst ds] ds
  | dct (d0 : D) (ds : List (Key × D)) : IsDc d0 ds → ListN [d0] ((ds.map fun p => kD p.1))
inductive TupleD : List D → D → Prop
  | tup (ds : List D) : TupleD [.tup ds] (.tup ds)
  | lst (ds : List D) : TupleD [.lst ds] (.tup ds)
section
variable {X : Cx}
theorem reps_keys {K : Kw} {F : Hp} : ∀ ks : List Key, Reps K F (ks.map kV) (ks.map kD)
  | [] => .nil
  | k :: ks => .cons (.v _) (reps_keys ks)
theorem call_listN (hc : X.calm = true) : CallR X (.type "list") (rNn (kw X) ListN) := by
  intro pins s σ H xs us Q I rx h
  obtain ⟨F, ds, r, sub, id, hf, q⟩ := h
  cases hf with
  | tup ds =>
    obtain ⟨v, rfl, i1⟩ := id.one
    cases i1 with | tup h1 r1 =>
    exact call_list_of pins s σ H _ us Q I rx ⟨_, _, rfl, .inr (sub.t h1), fun l hl => q l _ _ _ (.alloc' sub hl) hl (sub.fresh hl) upd_same r1⟩
  | lst ds =>
    obtain ⟨v, rfl, i1⟩ := id.one
    cases i1 with | lst h1 r1 =>
    exact call_list_of pins s σ H _ us Q I rx ⟨_, _, rfl, .inl (.inl (.inl (sub _ _ h1))), fun l hl => q l _ _ _ (.alloc' sub hl) hl (sub.fresh hl) upd_same r1⟩
  | dct d0 ds hd0 =>
    obtain ⟨v, rfl, i1⟩ := id.one
    obtain ⟨a, kvs, vs, rfl, hk, z, lo, rel, dd⟩ := i1.dictOf I sub hd0
    obtain ⟨u, rfl, ru⟩ := vals1 rx
    cases ru
    obtain ⟨ep, hat⟩ := dd.dictAt
    have ek : (kvs.map fun kv => kV kv.1) = vs.map fun p => kV p.1 := by
      have e := congrArg (List.map kV) rel.keys
      rw [List.map_map, List.map_map] at e
      exact e
    have ed : (ds.map fun p => kD p.1) = (kvs.map (·.1)).map kD := by rw [hk.keys, List.map_map]; rfl
    have ev : (kvs.map fun kv => kV kv.1) = (kvs.map (·.1)).map kV := by rw [List.map_map]; rfl
    refine PySem.W.kdl_call (PySem.W.kdl_dict (knd := mixKind X.prog X.w) (kvs := vs) (ep := ep) lo) (I.ok.hd hc) hat (by rw [← rel.length]; exact z) fun h' tk acc c' hk' hD hacc => ?_
    have hv : Vals (vs.map fun p => kV p.1) acc.toList := keys_at (by rw [Array.length_toList]; exact hacc.1) fun j v e => hacc.2 j v (by rw [← Array.getElem?_toList]; exact e)
    have hfr := I.hok.fresh (Nat.le_refl s.heap.objs.size)
    refine ⟨.ref s.heap.objs.size, upd H s.heap.objs.size (.lst (kvs.map fun kv => kV kv.1)), I.laid (t' := tk) hk' (Nat.le_refl _)
      (show ObjOk X.prog X.w _ _ _ (.lst (kvs.map fun kv => kV kv.1)) from ⟨by rw [List.length_map]; exact z, acc.toList, c', by rw [ek]; exact hv, by rw [Array.toArray_toList]; exact hD⟩), rfl, q _ _ _ _ (.alloc' sub hfr) hfr (sub.fresh hfr) upd_same ?_⟩
    rw [ev, ed]
    exact reps_keys _
theorem call_tupleD : CallR X (.type "tuple") (rPn (kw X) TupleD) := by
  intro pins s σ H xs us Q I rx h
  obtain ⟨F, ds, r, sub, id, hf, q⟩ := h
  cases hf with
  | tup ds =>
    obtain ⟨v, rfl, i1⟩ := id.one
    cases i1 with | tup h1 r1 =>
    exact call_tuple_of pins s σ H _ us Q I rx ⟨_, _, rfl, .inr ⟨sub.t h1, q _ F H (.refl sub) (.tup h1 r1)⟩⟩
  | lst ds =>
    obtain ⟨v, rfl, i1⟩ := id.one
    cases i1 with | lst h1 r1 =>
    exact call_tuple_of pins s σ H _ us Q I rx ⟨_, _, rfl, .inl ⟨.inl (.inl (sub _ _ h1)), fun l hl => q _ _ _ (.alloc sub hl) (.tup (.inl (.inl upd_same)) (r1.mono (.new (sub.fresh hl))))⟩⟩
end
/-! sorted -/
def leD : D → D → Bool := PySem.W.dataLe false pyD
inductive SortN : List D → List D → Prop
  | lst (ds : List D) : flatDs 8 ds = true → PySem.W.AllAlike (ds.map pyD) → PySem.W.Sortable (ds.map pyD) → SortN [.lst ds] (ds.mergeSort leD)
theorem each_reps {K : Kw} {F : Hp} : ∀ {vs : List V} {us : List Value} {ds : List D}, Vals vs us → Reps K F vs ds → PySem.W.EachIs (fun u d => ∃ v, RelV v u ∧ Rep K F v d) us ds
  | _, _, [], .nil, .nil => .nil
  | _, _, _ :: _, .cons r t, .cons h t' => .cons ⟨_, r, h⟩ (each_reps t t')
theorem reps_each {K : Kw} {F : Hp} : ∀ {us : List Value} {ds : List D}, PySem.W.EachIs (fun u d => ∃ v, RelV v u ∧ Rep K F v d) us ds → ∃ vs, Vals vs us ∧ Reps K F vs ds
  | _, _, .nil => ⟨[], .nil, .nil⟩
  | _, _, .cons ⟨v, r, h⟩ t => by
    obtain ⟨vs, a, b⟩ := reps_each t
    exact ⟨v :: vs, .cons r a, .cons h b⟩
section
variable {X : Cx}
theorem each_mem {α β : Type} {R : α → β → Prop} : ∀ {us : List α} {ds : List β}, PySem.W.EachIs R us ds → PySem.W.EachIs (fun u d => R u d ∧ d ∈ ds) us ds
  | _, _, .nil => .nil
  | _, _, .cons h t => .cons ⟨h, List.mem_cons_self⟩ ((each_mem t).mono fun _ _ z => ⟨z.1, List.mem_cons_of_mem _ z.2⟩)
theorem call_sortedN (hu : X.A.units + 64 < cLine) : CallR X (.builtin "sorted") (rNn (kw X) SortN) := by
  intro pins s σ H xs us Q I rx h
  obtain ⟨F, ds, r, sub, id, hf, q⟩ := h
  cases hf with
  | lst ds hfl hal hso =>
    obtain ⟨v, rfl, i1⟩ := id.one
    cases i1 with | lst h1 r1 =>
    have l1 := r1.length
    obtain ⟨z, its, n, rv, hlen, e⟩ := I.lstM (sub _ _ h1)
    rw [Vals.ref1 rx]
    have hall : ∀ d ∈ ds, flatD 8 d = true := by rw [flatDs_all] at hfl; exact fun d hd => List.all_eq_true.mp hfl d hd
    have ee := each_reps rv r1
    refine PySem.W.sorted_data (enc := pyD) (bs := ds) (R := fun u d => ∃ v, RelV v u ∧ Rep (kw X) F v d) (vs := its) ⟨_, e, rfl, n, rfl⟩ ee ?_ hal hso (by omega) (fun d hd => ?_) fun out ho eo => ?_
    · refine (each_mem ee).mono fun u d ⟨⟨v, r, h⟩, hm⟩ => ?_
      obtain ⟨as, h2⟩ := Dp.reads I _ _ _ (h.dp sub 8 _ _ (hall d hm)) r
      exact ⟨as, h2⟩
    · have := (flat_lay 8 d (hall d hd)).2
      omega
    · obtain ⟨ys, y1, y2⟩ := reps_each eo
      obtain ⟨ep, he'⟩ := PyProof.Rows.sortedAll_at s.heap its (List.toArray out)
      have ylen : ys.length ≤ sizeLine := by rw [y2.length, List.length_mergeSort]; omega
      have hfr := I.hok.fresh (Nat.le_succ s.heap.objs.size)
      exact ⟨.ref _, upd H (s.heap.objs.size + 1) (.lst ys), I.laid (t' := s.toks) (fun _ _ => PyProof.Rows.sortedAll_old) (Nat.le_succ _) ⟨ylen, out, ep, y1, he'⟩, rfl, q _ _ _ _ (.alloc' sub hfr) hfr (sub.fresh hfr) upd_same y2⟩
end
/-! sums, least, greatest, all, any, int, str -/
inductive SumD : List D → D → Prop
  | lst (ns : List Int) : SumD [.lst (ns.map D.int)] (.int ns.sum)
inductive MinD : List D → D → Prop
  | lst (ns : List Int) (m : Int) : m ∈ ns → (∀ y ∈ ns, m ≤ y) → MinD [.lst (ns.map D.int)] (.int m)
  | two (i j : Int) : MinD [.int i, .int j] (.int (if j < i then j else i))
inductive MaxD : List D → D → Prop
  | lst (ns : List Int) (m : Int) : m ∈ ns → (∀ y ∈ ns, y ≤ m) → MaxD [.lst (ns.map D.int)] (.int m)
  | two (i j : Int) : MaxD [.int i, .int j] (.int (if j > i then j else i))
inductive AllD : List D → D → Prop
  | lst (bs : List Bool) : AllD [.lst (bs.map D.bl)] (.bl (bs.all id))
inductive AnyD : List D → D → Prop
  | lst (bs : List Bool) : AnyD [.lst (bs.map D.bl)] (.bl (bs.any id))
inductive IntD : List D → D → Prop
  | int (i : Int) : IntD [.int i] (.int i)
  | bl (b : Bool) : IntD [.bl b] (.int (if b then 1 else 0))
  | str (x : Str) (n : Int) : PySem.intText? x = some n → x.length ≤ 640 → IntD [.str x] (.int n)
inductive StrD : List D → D → Prop
  | int (i : Int) : i.natAbs.log2 < 1920 → StrD [.int i] (.str (toString i))
theorem reps_ints {K : Kw} {F : Hp} {vs : List V} {ns : List Int} (h : Reps K F vs (ns.map D.int)) : vs = ns.map V.int := by
  have e : ns.map D.int = (ns.map V.int).map D.v := by rw [List.map_map]; rfl
  rw [e] at h
  exact h.of_vals
theorem reps_bls {K : Kw} {F : Hp} {vs : List V} {ns : List Bool} (h : Reps K F vs (ns.map D.bl)) : vs = ns.map V.bl := by
  have e : ns.map D.bl = (ns.map V.bl).map D.v := by rw [List.map_map]; rfl
  rw [e] at h
  exact h.of_vals
section
variable {X : Cx}
theorem call_sumD (hc : X.calm = true) : CallR X (.builtin "sum") (rPn (kw X) SumD) := by
  intro pins s σ H xs us Q I rx h
  obtain ⟨F, ds, r, sub, id, hf, q⟩ := h
  cases hf with
  | lst ns =>
    obtain ⟨v, rfl, i1⟩ := id.one
    cases i1 with | lst h1 r1 =>
    have := reps_ints r1; subst this
    exact cr_sum hc pins s σ H _ us Q I rx ⟨_, ns, rfl, .inl (.inl (sub _ _ h1)), q _ F H (.refl sub) (.v _)⟩
theorem call_minD (hc : X.calm = true) : CallR X (.builtin "min") (rPn (kw X) MinD) := by
  intro pins s σ H xs us Q I rx h
  obtain ⟨F, ds, r, sub, id, hf, q⟩ := h
  cases hf with
  | lst ns m hm hle =>
    obtain ⟨v, rfl, i1⟩ := id.one
    cases i1 with | lst h1 r1 =>
    have := reps_ints r1; subst this
    refine cr_min hc pins s σ H _ us Q I rx ⟨_, ns, rfl, .inl (.inl (sub _ _ h1)), List.length_pos_of_mem hm, fun m' hm' hle' => ?_⟩
    have e : m' = m := Int.le_antisymm (hle' _ hm) (hle _ hm')
    subst e
    exact q _ F H (.refl sub) (.v _)
  | two i j =>
    obtain ⟨v, w, rfl, i1, i2⟩ := id.two
    cases i1; cases i2
    exact call_min2 hc pins s σ H _ us Q I rx ⟨i, j, rfl, q _ F H (.refl sub) (.v _)⟩
theorem call_maxD (hc : X.calm = true) : CallR X (.builtin "max") (rPn (kw X) MaxD) := by
  intro pins s σ H xs us Q I rx h
  obtain ⟨F, ds, r, sub, id, hf, q⟩ := h
  cases hf with
  | lst ns m hm hle =>
    obtain ⟨v, rfl, i1⟩ := id.one
    cases i1 with | lst h1 r1 =>
    have := reps_ints r1; subst this
    refine cr_max hc pins s σ H _ us Q I rx ⟨_, ns, rfl, .inl (.inl (sub _ _ h1)), List.length_pos_of_mem hm, fun m' hm' hle' => ?_⟩
    have e : m' = m := Int.le_antisymm (hle _ hm') (hle' _ hm)
    subst e
    exact q _ F H (.refl sub) (.v _)
  | two i j =>
    obtain ⟨v, w, rfl, i1, i2⟩ := id.two
    cases i1; cases i2
    exact call_max2 hc pins s σ H _ us Q I rx ⟨i, j, rfl, q _ F H (.refl sub) (.v _)⟩
theorem call_allD (hc : X.calm = true) : CallR X (.builtin "all") (rPn (kw X) AllD) := by
  intro pins s σ H xs us Q I rx h
  obtain ⟨F, ds, r, sub, id, hf, q⟩ := h
  cases hf with
  | lst bs =>
    obtain ⟨v, rfl, i1⟩ := id.one
    cases i1 with | lst h1 r1 =>
    have := reps_bls r1; subst this
    exact cr_all hc pins s σ H _ us Q I rx ⟨_, bs, rfl, .inl (.inl (sub _ _ h1)), q _ F H (.refl sub) (.v _)⟩
theorem call_anyD (hc : X.calm = true) : CallR X (.builtin "any") (rPn (kw X) AnyD) := by
  intro pins s σ H xs us Q I rx h
  obtain ⟨F, ds, r, sub, id, hf, q⟩ := h
  cases hf with
  | lst bs =>
    obtain ⟨v, rfl, i1⟩ := id.one
    cases i1 with | lst h1 r1 =>
    have := reps_bls r1; subst this
    exact cr_any hc pins s σ H _ us Q I rx ⟨_, bs, rfl, .inl (.inl (sub _ _ h1)), q _ F H (.refl sub) (.v _)⟩
theorem call_intD : CallR X (.type "int") (rPn (kw X) IntD) := by
  intro pins s σ H xs us Q I rx h
  obtain ⟨F, ds, r, sub, id, hf, q⟩ := h
  cases hf with
  | int i =>
    obtain ⟨v, rfl, i1⟩ := id.one
    cases i1
    exact call_int1 pins s σ H _ us Q I rx (.inl ⟨i, rfl, q _ F H (.refl sub) (.v _)⟩)
  | bl b =>
    obtain ⟨v, rfl, i1⟩ := id.one
    cases i1
    exact call_int1 pins s σ H _ us Q I rx (.inr ⟨b, rfl, q _ F H (.refl sub) (.v _)⟩)
  | str x n h1 h2 =>
    obtain ⟨v, rfl, i1⟩ := id.one
    cases i1
    exact call_int_str pins s σ H _ us Q I rx ⟨x, n, rfl, h1, h2, q _ F H (.refl sub) (.v _)⟩
theorem call_strD : CallR X (.type "str") (rPn (kw X) StrD) := by
  intro pins s σ H xs us Q I rx h
  obtain ⟨F, ds, r, sub, id, hf, q⟩ := h
  cases hf with
  | int i hi =>
    obtain ⟨v, rfl, i1⟩ := id.one
    cases i1
    exact call_str_int pins s σ H _ us Q I rx ⟨i, rfl, hi, q _ F H (.refl sub) (.v _)⟩
end

/-! ### in -/
theorem eqV_flat {x y : V} (hx : flatW x = true) (hy : flatW y = true) : eqV y x = eqD (.v y) (.v x) := by
  cases x <;> simp [flatW] at hx <;> cases y <;> simp [flatW] at hy <;> simp [eqV, eqD, pyD, PyData.eqv]
theorem flatV_of {x : V} (h : flatW x = true) : flatV x = true := by cases x <;> simp [flatW] at h <;> rfl
/-- does a list hold the data -/
def memD (d : D) (ds : List D) : Bool := ds.any fun e => eqD e d
theorem pyD_list (ds : List D) : (pyDs ds).any (fun z => PyData.eqv z d) = ds.any fun e => PyData.eqv (pyD e) d := by
  induction ds with
  | nil => rfl
  | cons e ds ih => rw [pyDs, List.any_cons, List.any_cons, ih]
inductive InD (neg : Bool) : D → D → D → Prop
  | tup (x : V) (xs : List V) : flatW x = true → xs.all flatW = true → InD neg (.v x) (.tup (xs.map D.v)) (.bl (neg ^^ memD (.v x) (xs.map D.v)))
  | lst (d : D) (ds : List D) : flatD 8 d = true → flatDs 8 ds = true → InD neg d (.lst ds) (.bl (neg ^^ memD d ds))
  | dct (k : Key) (d0 : D) (ds : List (Key × D)) : IsDc d0 ds → InD neg (.v (kV k)) d0 (.bl (neg ^^ (dkGet ds k).isSome))
section
variable {X : Cx}
theorem inV_mem {x : V} {xs : List V} (hx : flatW x = true) (h : xs.all flatW = true) : inV x xs = memD (.v x) (xs.map D.v) := by
  unfold inV memD
  rw [List.any_map]
  induction xs with
  | nil => rfl
  | cons y ys ih =>
    rw [List.all_cons, Bool.and_eq_true] at h
    rw [List.any_cons, List.any_cons, ih h.2, eqV_flat hx h.1]; rfl
theorem all_flatV {xs : List V} (h : xs.all flatW = true) : xs.all flatV = true := by
  rw [List.all_eq_true] at h ⊢
  exact fun x hx => flatV_of (h x hx)
theorem RepK.isSome {K : Kw} {F : Hp} {kvs : List (Key × V)} {ds : List (Key × D)} (h : RepK K F kvs ds) (k : Key) : (valV kvs k).isSome = (dkGet ds k).isSome := by
  cases e : dkGet ds k with
  | none => rw [h.look_none e]; rfl
  | some d => obtain ⟨v, hv, _⟩ := h.look e; rw [hv]; rfl
theorem op_inP (hu : X.A.units + 65 < cLine) : OpR X (compareOp .In) (rP2 (kw X) (InD false)) := by
  intro pins s σ H x y v u Q I rx ry h
  obtain ⟨F, d, e, r, sub, id, ie, hf, q⟩ := h
  cases hf with
  | tup x xs h1 h2 =>
    cases id
    cases ie with | tup g1 r1 =>
    have := r1.of_vals; subst this
    refine op_in_seq pins s σ H _ _ v u Q I rx ry ⟨_, _, rfl, .inr (sub.t g1), flatV_of h1, all_flatV h2, ?_⟩
    rw [if_neg Bool.false_ne_true, inV_mem h1 h2]
    rw [Bool.false_xor] at q
    exact q _ F H (.refl sub) (.v _)
  | lst d ds h1 h2 =>
    refine op_inD hu pins s σ H _ _ v u Q I rx ry ⟨pyD _, pyDs ds, id.dp sub 8 _ _ h1, ?_, flat_shaped h1 (by decide), ?_, ?_⟩
    · have := ie.dp sub 9 _ _ (by rw [flatD]; exact h2)
      rw [pyD] at this; exact this
    · have := flat_shaped (n := 9) (d := .lst ds) (by rw [flatD]; exact h2) (by decide)
      rw [pyD] at this; exact this
    · rw [pyD_list]
      rw [Bool.false_xor] at q
      exact q _ F H (.refl sub) (.v _)
  | dct k d0 ds hd0 =>
    cases id
    obtain ⟨a, kvs, vs, rfl, hk, z, lo, rel, dd⟩ := ie.dictOf I sub hd0
    cases ry
    refine wpAny_in_of (kV_is rx) lo dd.mapOf ?_
    have e1 := (rel.val k).isSome_eq
    rw [hk.isSome k] at e1
    rw [← e1]
    rw [Bool.false_xor] at q
    exact ⟨.bl _, H, I.tok _, rfl, q _ F H (.refl sub) (.v _)⟩
theorem op_notInP (hu : X.A.units + 65 < cLine) : OpR X (compareOp .NotIn) (rP2 (kw X) (InD true)) := by
  intro pins s σ H x y v u Q I rx ry h
  obtain ⟨F, d, e, r, sub, id, ie, hf, q⟩ := h
  cases hf with
  | tup x xs h1 h2 =>
    cases id
    cases ie with | tup g1 r1 =>
    have := r1.of_vals; subst this
    refine op_notIn_seq pins s σ H _ _ v u Q I rx ry ⟨_, _, rfl, .inr (sub.t g1), flatV_of h1, all_flatV h2, ?_⟩
    rw [if_pos rfl, inV_mem h1 h2]
    rw [Bool.true_xor] at q
    exact q _ F H (.refl sub) (.v _)
  | lst d ds h1 h2 =>
    refine op_notInD hu pins s σ H _ _ v u Q I rx ry ⟨pyD _, pyDs ds, id.dp sub 8 _ _ h1, ?_, flat_shaped h1 (by decide), ?_, ?_⟩
    · have := ie.dp sub 9 _ _ (by rw [flatD]; exact h2)
      rw [pyD] at this; exact this
    · have := flat_shaped (n := 9) (d := .lst ds) (by rw [flatD]; exact h2) (by decide)
      rw [pyD] at this; exact this
    · rw [pyD_list]
      rw [Bool.true_xor] at q
      exact q _ F H (.refl sub) (.v _)
  | dct k d0 ds hd0 =>
    cases id
    obtain ⟨a, kvs, vs, rfl, hk, z, lo, rel, dd⟩ := ie.dictOf I sub hd0
    cases ry
    refine wpAny_notIn_of (kV_is rx) lo dd.mapOf ?_
    have e1 := (rel.val k).isSome_eq
    rw [hk.isSome k] at e1
    rw [← e1]
    rw [Bool.true_xor] at q
    exact ⟨.bl _, H, I.tok _, rfl, q _ F H (.refl sub) (.v _)⟩
end
end Dr
namespace Dr
open PySem PySem.Spec PyProof.Rows L2

/-! ### what is walked -/
/-- a row of values that does not lean on the heap -/
def ItV (xs : List V) : It := ⟨fun i _ => i < xs.length, fun i H x H' => H' = H ∧ xs[i]? = some x, fun i _ => xs.length ≤ i⟩
def iKd (K : Kw) (tl : TE) : TI := fun σ H R => tl σ H fun x H1 => ∃ a kvs, x = .ref a ∧ KdAt K a kvs ∧ R (ItV (kvs.map fun kv => kV kv.1)) H1
theorem turn_keysK {P : Program} {w : World} {K : PySem.W.Frag} {tg : Expr} {d : Addr} {kvs : List (Key × V)} {o : Obj} {es : Array DictEntry} {ep : Nat} {us : List (Key × Value)} (it : Addr) (lk : K.lookup d = some o) (hx : o.ExactDict) (hod : o.data = .dict es ep) (hsz : es.size = kvs.length)
    (kv : KV kvs us) (dd : ∀ (P : Program) (h : Heap), K.In h → h.DictAt (mixKind P w) d us ep) : Turn P w K tg (ItV (kvs.map fun kv => kV kv.1)) [it] it (fun i h => h.IsKeyIter it d i kvs.length ep) where
  mem := by simp
  obj := fun i h st b hb => by
    have e : b = it := by simpa using hb
    subst e
    obtain ⟨oi, e, c, dd⟩ := st
    exact ⟨oi, e, fun v z => by rw [dd] at z; cases z⟩
  keep := fun i h h' st k => st.at fun oi e => k it (by simp) oi e
  item := by
    intro X hP hw hK hc i pins s σ H E I hf st hg
    subst hP hw hK
    have hi : i < kvs.length := by simpa [ItV] using hg
    obtain ⟨f0, f1, f2, f3, f4, f5⟩ := hf it (by simp)
    have hm := dd X.prog s.heap I.kIn
    obtain ⟨⟨k, v⟩, hkv⟩ : ∃ p, kvs[i]? = some p := ⟨kvs[i], List.getElem?_eq_getElem hi⟩
    obtain ⟨u, hu, ru⟩ := kv_get kv hkv
    have hl : kvs.length = us.length := Paired.length kv
    rw [hl] at st
    refine wpAny_pyNext_dict_item st hm hu fun key h' hkey st' sb => ?_
    have I1 : Inv X pins σ H { s with heap := h' } := I.turned (t' := s.toks) (fun b ob hb e => (sb.2 b hb).trans e) f0 f1 f3 f4 f5
    obtain ⟨oi, e, c, dd⟩ := id st'
    refine ⟨key, rfl, go_of (s := { s with heap := h' }) e c dd (by decide) ⟨kV k, H, I1, relV_key (show keyIs k key = true from hkey), ⟨rfl, by rw [List.getElem?_map, hkv]; rfl⟩, ?_, fun b hb => (hf b hb).1⟩⟩
    show h'.IsKeyIter it d (i + 1) kvs.length _
    rw [hl]
    exact st'
  done := by
    intro X hP hw hK hc i pins s σ H E I hf st hg
    subst hP hw hK
    have hi : kvs.length ≤ i := by simpa [ItV] using hg
    obtain ⟨f0, f1, f2, f3, f4, f5⟩ := hf it (by simp)
    exact next_key_end (I.ok.hd hc) st (I.kIn _ _ lk) hod hsz hi fun h' eb => ⟨rfl, I.turned (t' := s.toks) (fun b ob hb e => eb b ob hb e) f0 f1 f3 f4 f5⟩
  self := fun A i s Q E st h => wpAny_pyIter_keyiter st h
theorem pi_kd {X : Cx} {tg e : Expr} {td : TE} (he : PE X e td) : PI X tg e (iKd (kw X) td) := by
  refine ⟨fun pins s σ H R I h => ?_⟩
  refine thn (he.run pins s σ H _ I h) fun u s1 ⟨x, H1, I1, rx, d, kvs, ex, hd, q⟩ => ?_
  subst ex
  obtain rfl : u = Value.ref d := rx
  obtain ⟨o, es, ep, us, lk, _, hx, hdt, hsz, _, hs, kv, dd⟩ := hd
  refine iter_keys hs (I1.kIn _ _ lk) hx hdt (pi_one (tk := s1.toks) I1 _ (turn_keysK _ lk hx hdt hsz kv dd) ⟨_, Heap.get?_push_size _ rfl, rfl, ?_⟩ q)
  rw [hsz] <;> rfl
/-- a list or a tuple -/
def iSeq (K : Kw) (tl : TE) : TI := fun σ H R => tl σ H fun x H1 => (∃ a, x = .ref a ∧ (∃ xs, SqL K.K H1 a xs) ∧ R (Itl K.K a) H1) ∨ (∃ a, x = .ref a ∧ (∃ xs, SqT K.K H1 a xs) ∧ R (Itt K.K a) H1)
theorem pi_seq {X : Cx} {tg l : Expr} {tl : TE} (hl : PE X l tl) : PI X tg l (iSeq (kw X) tl) := by
  refine ⟨fun pins s σ H R I h => ?_⟩
  refine thn (hl.run pins s σ H _ I h) fun v s1 ⟨x, H1, I1, r1, q1⟩ => ?_
  rcases q1 with ⟨a, e, ⟨xs, hq⟩, q⟩ | ⟨a, e, ⟨xs, hq⟩, q⟩
  · subst e
    cases r1
    obtain ⟨its, rv, p, hz⟩ := I1.list hq
    refine wpAny_pyIter_list p.isList ?_
    refine ⟨s1.heap.objs.size, [s1.heap.objs.size], _, _, H1, rfl, I1.kept (t' := s1.toks) fun b o e => Heap.get?_push_of_some _ e, turn_list a _, ⟨_, Heap.get?_push_size _ rfl, rfl, rfl⟩, fun b hb => ?_, q⟩
    have e : b = s1.heap.objs.size := by simpa using hb
    subst e
    exact I1.fpOk (Nat.le_refl _) (I1.hok.fresh (Nat.le_refl _))
  · subst e
    cases r1
    obtain ⟨its, rv, p, hz⟩ := I1.tuple hq
    refine wpAny_pyIter_tuple (show s1.heap.IsTuple a its.toArray from p) ?_
    refine ⟨s1.heap.objs.size, [s1.heap.objs.size], _, _, H1, rfl, I1.kept (t' := s1.toks) fun b o e => Heap.get?_push_of_some _ e, turn_tuple a _, ⟨_, Heap.get?_push_size _ rfl, rfl, rfl⟩, fun b hb => ?_, q⟩
    have e : b = s1.heap.objs.size := by simpa using hb
    subst e
    exact I1.fpOk (Nat.le_refl _) (I1.hok.fresh (Nat.le_refl _))
inductive SeqD : D → List D → Prop
  | lst (ds : List D) : SeqD (.lst ds) ds
  | tup (ds : List D) : SeqD (.tup ds) ds
/-- the iterator J walks the data ds while F1 stands -/
structure ItOk (K : Kw) (J : It) (F1 : Hp) (ds : List D) : Prop where
  go : ∀ i H, i < ds.length → Ex F1 H → J.go i H
  yld : ∀ i H x H' F2, i < ds.length → Ex F1 F2 → Ex F2 H → J.yld i H x H' → ∃ d F3, ds[i]? = some d ∧ Gr F2 H F3 H' ∧ Rep K F3 x d
  stop : ∀ i H, i = ds.length → Ex F1 H → J.stop i H
def IterD (K : Kw) (wi : TI) (σ : L2.St) (F : Hp) (ds : List D) : Prop := ∀ H, Ex F H → ∀ R : It → Hp → Prop, (∀ J F1 H1, Gr F H F1 H1 → ItOk K J F1 ds → R J H1) → wi σ H R
section
variable {K : Kw} {σ : L2.St} {F : Hp} {tl : TE} {ta : TA} {d : D} {ds : List D}
theorem it_seq (hl : EvD K tl σ F d) (hd : SeqD d ds) : IterD K (iSeq K tl) σ F ds := fun H x R q => hl H x _ fun v F1 H1 g1 i1 => by
  cases hd with
  | lst ds =>
    cases i1 with | @lst _ xs _ ha hr =>
    refine .inl ⟨_, rfl, ⟨_, .inl (.inl (g1.sub _ _ ha))⟩, q _ F1 H1 g1 ⟨fun i H hi e => ?_, fun i H x H' F2 hi e1 e2 hy => ?_, fun i H hi e => ?_⟩⟩
    · have hi' : i < xs.length := by rw [hr.length]; exact hi
      exact ⟨xs, xs[i], .inl (.inl (e _ _ ha)), by simp [hi']⟩
    · obtain ⟨e, hx⟩ := hy
      subst e
      have hxx := hx xs (.inl (.inl (e2 _ _ (e1 _ _ ha))))
      obtain ⟨y, hy, iy⟩ := hr.getV hxx
      exact ⟨y, F2, hy, .refl e2, iy.mono e1⟩
    · exact ⟨xs, .inl (.inl (e _ _ ha)), by rw [hr.length]; omega⟩
  | tup ds =>
    cases i1 with | @tup _ xs _ ha hr =>
    refine .inr ⟨_, rfl, ⟨_, g1.sub.t ha⟩, q _ F1 H1 g1 ⟨fun i H hi e => ?_, fun i H x H' F2 hi e1 e2 hy => ?_, fun i H hi e => ?_⟩⟩
    · have hi' : i < xs.length := by rw [hr.length]; exact hi
      exact ⟨xs, xs[i], e.t ha, by simp [hi']⟩
    · obtain ⟨e, hx⟩ := hy
      subst e
      have hxx := hx xs ((e1.trans e2).t ha)
      obtain ⟨y, hy, iy⟩ := hr.getV hxx
      exact ⟨y, F2, hy, .refl e2, iy.mono e1⟩
    · exact ⟨xs, e.t ha, by rw [hr.length]; omega⟩
def rngD (lo : Int) (n : Nat) : List D := (List.range n).map fun (i : Nat) => D.int (lo + (i : Int))
theorem rngD_get {lo : Int} {n i : Nat} (h : i < n) : (rngD lo n)[i]? = some (D.int (lo + (i : Int))) := by
  unfold rngD
  rw [List.getElem?_map, List.getElem?_range h]; rfl
theorem itOk_rng {lo : Int} {n : Nat} {F1 : Hp} : ItOk K (Itr lo n) F1 (rngD lo n) where
  go := fun i H hi e => by have : i < n := by simpa [rngD] using hi
                           exact this
  yld := fun i H x H' F2 hi e1 e2 hy => by
    have hi' : i < n := by simpa [rngD] using hi
    obtain ⟨e, hx⟩ := hy
    subst e hx
    exact ⟨_, F2, rngD_get hi', .refl e2, .v _⟩
  stop := fun i H hi e => by
    have : i = n := by simpa [rngD] using hi
    subst this
    exact Nat.le_refl _
theorem it_rng1 {n : Int} (hl : EvA K ta σ F [.int n]) (h0 : 0 ≤ n) (h1 : n < 1000000) : IterD K (iRng1 ta) σ F (rngD 0 n.toNat) := fun H x R q => hl H x _ fun vs F1 H1 g1 i1 => by
  obtain ⟨v, e, r⟩ := i1.one
  subst e
  have e := r.val
  subst e
  exact ⟨n, rfl, by omega, by omega, q _ F1 H1 g1 itOk_rng⟩
theorem it_rng2 {lo hi : Int} (hl : EvA K ta σ F [.int lo, .int hi]) (h0 : -1000000 < lo) (h0' : lo < 1000000) (h1 : -1000000 < hi) (h1' : hi < 1000000) : IterD K (iRng2 ta) σ F (rngD lo (hi - lo).toNat) := fun H x R q => hl H x _ fun vs F1 H1 g1 i1 => by
  obtain ⟨v, w, e, r1, r2⟩ := i1.two
  subst e
  have e1 := r1.val
  have e2 := r2.val
  subst e1 e2
  exact ⟨lo, hi, rfl, ⟨by omega, by omega, by omega, by omega⟩, q _ F1 H1 g1 itOk_rng⟩
/-- the keys of a dict of the module's own -/
theorem it_kd {kds : List (Key × D)} {a : Addr} {kvs : List (Key × V)} (hl : EvD K tl σ F (.v (.ref a))) (hk : KdAt K a kvs) (hr : ∀ F, RepK K F kvs kds) : IterD K (iKd K tl) σ F (kds.map fun p => .v (kV p.1)) := fun H x R q => hl H x _ fun v F1 H1 g1 i1 => by
  have e := i1.val
  subst e
  have hlen : kvs.length = kds.length := (hr F).length
  have hkeys := (hr F).keys
  refine ⟨a, kvs, rfl, hk, q _ F1 H1 g1 ⟨fun i H hi e => ?_, fun i H x H' F2 hi e1 e2 hy => ?_, fun i H hi e => ?_⟩⟩
  · show i < (kvs.map fun kv => kV kv.1).length
    simpa [hlen] using hi
  · obtain ⟨e, hx⟩ := hy
    subst e
    have e3 : (kvs.map fun kv => kV kv.1) = kds.map fun kv => kV kv.1 := by
      have := congrArg (List.map kV) hkeys
      rw [List.map_map, List.map_map] at this
      exact this
    rw [e3, List.getElem?_map] at hx
    cases hp : kds[i]? with
    | none => rw [hp] at hx; cases hx
    | some p =>
      rw [hp] at hx
      have := Option.some.inj hx
      subst this
      exact ⟨_, F2, by rw [List.getElem?_map, hp]; rfl, .refl e2, .v _⟩
  · show (kvs.map fun kv => kV kv.1).length ≤ i
    simp [hlen] at hi ⊢
    omega
/-- a new pair, as data -/
theorem pair_new {F2 H : Hp} {x y : V} {d e : D} {T : Addr} (e2 : Ex F2 H) (hT : H T = none) (hx : Rep K F2 x d) (hy : Rep K F2 y e) : Gr F2 H (upd F2 T (.tup [x, y])) (upd H T (.tup [x, y])) ∧ Rep K (upd F2 T (.tup [x, y])) (.ref T) (.tup [d, e]) :=
  ⟨.alloc e2 hT, .tup (.inl (.inl upd_same)) (.cons (hx.mono (.new (e2.fresh hT))) (.cons (hy.mono (.new (e2.fresh hT))) .nil))⟩
def enumD : Nat → List D → List D
  | _, [] => []
  | n, d :: ds => .tup [.int (n : Nat), d] :: enumD (n + 1) ds
theorem enumD_get : ∀ {ds : List D} {n i : Nat} {d : D}, ds[i]? = some d → (enumD n ds)[i]? = some (.tup [.int ((n + i : Nat) : Int), d])
  | [], n, i, d, h => by simp at h
  | e :: ds, n, 0, d, h => by simp at h; subst h; rfl
  | e :: ds, n, i + 1, d, h => by
    have := enumD_get (ds := ds) (n := n + 1) (i := i) (d := d) (by simpa using h)
    simp only [enumD, List.getElem?_cons_succ]
    rw [this]
    have e : n + 1 + i = n + (i + 1) := by omega
    rw [e]
theorem enumD_length : ∀ {ds : List D} {n : Nat}, (enumD n ds).length = ds.length
  | [], _ => rfl
  | _ :: ds, n => by simp [enumD, enumD_length (ds := ds)]
theorem it_enum (hl : EvA K ta σ F [.lst ds]) : IterD K (iEnum K.K ta) σ F (enumD 0 ds) := fun H x R q => hl H x _ fun vs F1 H1 g1 i1 => by
  obtain ⟨v, e, r⟩ := i1.one
  subst e
  cases r with | @lst _ xs _ ha hr =>
  refine ⟨_, xs, rfl, .inl (.inl (g1.sub _ _ ha)), q _ F1 H1 g1 ⟨fun i H hi e => ?_, fun i H x H' F2 hi e1 e2 hy => ?_, fun i H hi e => ?_⟩⟩
  · have hi' : i < xs.length := by rw [hr.length]; rwa [enumD_length] at hi
    exact ⟨xs, xs[i], .inl (.inl (e _ _ ha)), by simp [hi']⟩
  · obtain ⟨T, z, e, hT, eH, hx⟩ := hy
    subst e eH
    obtain ⟨y, hy, iy⟩ := hr.getV (hx xs (.inl (.inl (e2 _ _ (e1 _ _ ha)))))
    obtain ⟨p1, p2⟩ := pair_new (K := K) (x := .int ((i : Nat) : Int)) (y := z) e2 hT (.v _) (iy.mono e1)
    refine ⟨_, _, enumD_get hy, p1, ?_⟩
    rw [Nat.zero_add]
    exact p2
  · exact ⟨xs, .inl (.inl (e _ _ ha)), by rw [hr.length]; rw [enumD_length] at hi; omega⟩
end
section
variable {K : Kw} {σ : L2.St} {F : Hp} {ta : TA} {as bs : List D}
def zipD (as bs : List D) : List D := List.zipWith (fun a b => .tup [a, b]) as bs
theorem zipD_get {i : Nat} {a b : D} (ha : as[i]? = some a) (hb : bs[i]? = some b) : (zipD as bs)[i]? = some (.tup [a, b]) := by
  unfold zipD
  rw [List.getElem?_zipWith, ha, hb]
end

theorem RepK.append {K : Kw} {F : Hp} {vs ws : List (Key × V)} {ds es : List (Key × D)} (h : RepK K F vs ds) (g : RepK K F ws es) : RepK K F (vs ++ ws) (ds ++ es) := by
  induction ds generalizing vs with
  | nil => cases h; exact g
  | cons d ds ih => cases h with | cons h r => exact .cons h (ih r)
/-! ### targets -/
/-- a target that takes v, told by what it makes of the slots -/
def EvG (g : TG) (v : V) (σ : L2.St) (H : Hp) (P : L2.St → Prop) : Prop := ∀ k : L2.St → Hp → Prop, (∀ σ', P σ' → k σ' H) → g v σ H k
section
variable {K : Kw} {σ : L2.St} {F H : Hp}
theorem eg_name {i : Nat} {v : V} {P : L2.St → Prop} (h : P (σ.set i (some v))) : EvG (gName i) v σ H P := fun k q => q _ h
theorem eg_tup2 {g1 g2 : TG} {v : V} {d e : D} {P : L2.St → Prop} (sub : Ex F H) (hv : Rep K F v (.tup [d, e])) (h : ∀ x y, Rep K F x d → Rep K F y e → EvG g1 x σ H fun σ1 => EvG g2 y σ1 H P) :
    EvG (gTup K.K 2 (gCons g1 (gCons g2 gNil))) v σ H P := fun k q => by
  cases hv with | tup ha hs =>
  obtain ⟨x, y, e1, rx, ry⟩ := hs.two
  refine ⟨_, _, rfl, sub.t ha, by rw [e1]; rfl, x, [y], by rw [e1], h x y rx ry _ fun σ1 hp => ⟨y, [], rfl, hp _ fun σ2 hp2 => ⟨rfl, q _ hp2⟩⟩⟩
theorem eg_tup3 {g1 g2 g3 : TG} {v : V} {d e f : D} {P : L2.St → Prop} (sub : Ex F H) (hv : Rep K F v (.tup [d, e, f])) (h : ∀ x y z, Rep K F x d → Rep K F y e → Rep K F z f → EvG g1 x σ H fun σ1 => EvG g2 y σ1 H fun σ2 => EvG g3 z σ2 H P) :
    EvG (gTup K.K 3 (gCons g1 (gCons g2 (gCons g3 gNil)))) v σ H P := fun k q => by
  cases hv with | tup ha hs =>
  cases hs with | cons rx hs =>
  obtain ⟨y, z, e1, ry, rz⟩ := hs.two
  subst e1
  exact ⟨_, _, rfl, sub.t ha, rfl, _, _, rfl, h _ y z rx ry rz _ fun σ1 hp => ⟨_, _, rfl, hp _ fun σ2 hp2 => ⟨_, _, rfl, hp2 _ fun σ3 hp3 => ⟨rfl, q _ hp3⟩⟩⟩⟩
end

/-! ### new lists -/
def EvL (K : Kw) (te : TE) (σ : L2.St) (F : Hp) (ds : List D) : Prop := ∀ H, Ex F H → ∀ Q : VK, (∀ p vs F' H', Gr F H F' H' → H p = none → F' p = none → H' p = some (.lst vs) → Reps K F' vs ds → Q (.ref p) H') → te σ H Q
theorem Gr.freeze {F H F' H' : Hp} (g : Gr F H F' H') {p : Addr} {o : HO} (hp : H p = none) (n : F' p = none) (h : H' p = some o) : Gr F H (upd F' p o) H' where
  hh := g.hh
  ff := g.ff.trans (.new n)
  sub := fun a u e => by
    by_cases q : a = p
    · subst q; rw [upd_same] at e; rw [h]; exact e
    · rw [upd_ne q] at e; exact g.sub _ _ e
  new := fun a u e => by
    by_cases q : a = p
    · subst q; exact .inr hp
    · rw [upd_ne q] at e; exact g.new _ _ e
section
variable {K : Kw} {σ : L2.St} {F F' : Hp} {te : TE} {tl : TA} {ds : List D}
theorem EvL.ev (h : EvL K te σ F ds) : EvD K te σ F (.lst ds) := fun H x Q q => h H x Q fun p vs F' H' g hp n hl r => q _ _ _ (g.freeze hp n hl) (.lst upd_same (r.mono (.new n)))
theorem el_lst (h : EvA K tl σ F ds) (hz : ds.length ≤ sizeLine) : EvL K (tLst tl) σ F ds := fun H x Q q =>
  h H x _ fun vs F1 H1 g1 i1 => ⟨by rw [i1.length]; exact hz, fun p hp => q p vs F1 _ ⟨g1.hh.trans (.new hp), g1.ff, g1.sub.trans (.new hp), g1.new⟩ (g1.hh.fresh hp) (g1.sub.fresh hp) upd_same i1⟩
theorem el_cb {f : List D → List D → Prop} {rs : List D} (h : EvA K tl σ F ds) (hf : f ds rs) : EvL K (tCB (rNn K f) tl) σ F rs := fun H x Q q =>
  h H x _ fun vs F1 H1 g1 i1 => ⟨F1, ds, rs, g1.sub, i1, hf, fun p ws F2 H2 g2 hp n hl r => q p ws F2 H2 (g1.trans g2) (g1.hh.fresh hp) n hl r⟩
/-- the promise of a def that hands back a new list -/
def spN (K : Kw) (n : Nat) (f : List D → List D → Prop) : Sp := fun xs H Q _ => ∃ F ds rs, Ex F H ∧ Reps K F xs ds ∧ ds.length = n ∧ f ds rs ∧ ∀ p vs F' H', Gr F H F' H' → H p = none → F' p = none → H' p = some (.lst vs) → Reps K F' vs rs → Q (.ref p) H'
theorem el_call {n : Nat} {f : List D → List D → Prop} {E : XK} {rs : List D} (h : EvA K tl σ F ds) (hf : f ds rs) (hn : ds.length = n := by rfl) : EvL K (tCall (spN K n f) [] E tl) σ F rs := fun H x Q q =>
  h H x _ fun vs F1 H1 g1 i1 => ⟨F1, ds, rs, g1.sub, by rw [List.append_nil]; exact i1, hn, hf, fun p ws F2 H2 g2 hp n hl r => q p ws F2 H2 (g1.trans g2) (g1.hh.fresh hp) n hl r⟩
end

/-! ### comprehensions -/
section
variable {K : Kw} {σ : L2.St} {F : Hp} {tl te tk tv : TE} {tt : TT} {g : TG} {vs : List Nat} {d : D} {ds : List D}
/-- what is made behind i turns, in the list at L -/
def CwD (K : Kw) (F H : Hp) (out : D → Option D) (ds : List D) (L : Addr) (i : Nat) (H' : Hp) : Prop := ∃ F' xs, Gr F H F' H' ∧ F' L = none ∧ H' L = some (.lst xs) ∧ Reps K F' xs ((ds.take i).filterMap out)
theorem take_some {out : D → Option D} {i : Nat} {x r : D} (h : ds[i]? = some x) (e : out x = some r) : (ds.take (i + 1)).filterMap out = (ds.take i).filterMap out ++ [r] := by
  rw [List.take_add_one, h, List.filterMap_append]
  simp [e]
theorem take_none {out : D → Option D} {i : Nat} {x : D} (h : ds[i]? = some x) (e : out x = none) : (ds.take (i + 1)).filterMap out = (ds.take i).filterMap out := by
  rw [List.take_add_one, h, List.filterMap_append]
  simp [e]
theorem filterMap_len (out : D → Option D) : ∀ l : List D, (l.filterMap out).length ≤ l.length := fun l => List.length_filterMap_le _ _
/-- one turn -/
theorem cw_turn {F1 H1 F' H' : Hp} {out : D → Option D} {L : Addr} {i : Nat} {x : D} {v : V} {xs : List V} (hL : H1 L = none) (hz : ds.length < sizeLine) (hi : ds[i]? = some x) (hv : Rep K F' v x)
    (hs : ∀ v F' H', Ex F F' → Ex F' H' → Rep K F' v x → EvG g v (wipe σ vs) H' fun σ2 => wipe σ2 vs = wipe σ vs ∧ EvB K tt σ2 F' (out x).isSome ∧ ∀ r, out x = some r → EvD K te σ2 F' r)
    (ef : Ex F F1) (g1 : Gr F1 H1 F' H') (n1 : F' L = none) (h1 : H' L = some (.lst xs)) (r1 : Reps K F' xs ((ds.take i).filterMap out)) :
    g v (wipe σ vs) H' fun σ2 H2 => wipe σ2 vs = wipe σ vs ∧ tt σ2 H2 fun b H3 => if b = true then te σ2 H3 fun y H4 => ∃ acc, H4 L = some (.lst acc) ∧ acc.length < sizeLine ∧ CwD K F1 H1 out ds L (i + 1) (upd H4 L (.lst (acc ++ [y]))) else CwD K F1 H1 out ds L (i + 1) H3 := by
  refine hs v F' H' (ef.trans g1.ff) g1.sub hv _ fun σ2 ⟨w2, b2, e2⟩ => ⟨w2, b2 H' g1.sub _ fun F2 H2 g2 => ?_⟩
  obtain ⟨h2, n2⟩ := g2.own h1 n1
  cases ho : out x with
  | none =>
    rw [if_neg (by simp)]
    refine ⟨F2, xs, g1.trans g2, n2, h2, ?_⟩
    rw [take_none hi ho]
    exact r1.mono g2.ff
  | some r =>
    rw [if_pos (by simp)]
    refine ((e2 r ho).mono g2.ff) H2 g2.sub _ fun y F3 H3 g3 i3 => ?_
    obtain ⟨h3, n3⟩ := g3.own h2 n2
    have hlen : xs.length < sizeLine := by
      have l1 := r1.length
      have l2 := filterMap_len out (ds.take i)
      have l3 : (ds.take i).length ≤ ds.length := by rw [List.length_take]; omega
      omega
    refine ⟨xs, h3, hlen, F3, xs ++ [y], ?_, n3, upd_same, ?_⟩
    · have gg := (g1.trans g2).trans g3
      exact ⟨gg.hh.mut hL, gg.ff, gg.sub.mut n3, gg.new⟩
    · rw [take_some hi ho]
      exact (r1.mono (g2.ff.trans g3.ff)).append (.cons i3 .nil)
theorem el_lc {wi : TI} (hl : IterD K wi σ F ds) (hz : ds.length < sizeLine) (out : D → Option D)
    (hs : ∀ x ∈ ds, ∀ v F' H', Ex F F' → Ex F' H' → Rep K F' v x → EvG g v (wipe σ vs) H' fun σ2 => wipe σ2 vs = wipe σ vs ∧ EvB K tt σ2 F' (out x).isSome ∧ ∀ r, out x = some r → EvD K te σ2 F' r) :
    EvL K (tLc wi g tt te vs) σ F (ds.filterMap out) := fun H x Q q => hl H x _ fun J F1 H1 g1 ok => by
  intro L hL
  refine ⟨fun i m H' => m = ds.length - i ∧ i ≤ ds.length ∧ CwD K F1 H1 out ds L i H', ⟨ds.length, by simp, Nat.zero_le _, F1, [], ⟨.new hL, .refl _, g1.sub.trans (.new hL), fun _ _ h => .inl h⟩, g1.sub.fresh hL, upd_same, by simp; exact .nil⟩, ?_⟩
  rintro i m H' ⟨rfl, hi, p⟩
  obtain ⟨F', xs, g2, n2, h2, r2⟩ := id p
  by_cases hlt : i < ds.length
  · refine .inr ⟨ok.go i H' hlt (g1.sub.trans g2.hh), fun H3 => CwD K F1 H1 out ds L (i + 1) H3, fun H3 p3 => ⟨ds.length - (i + 1), by omega, rfl, hlt, p3⟩, fun x H'' hy => ?_⟩
    obtain ⟨d, F3, hd, g3, r3⟩ := ok.yld i H' x H'' F' hlt g2.ff g2.sub hy
    obtain ⟨h3, n3⟩ := g3.own h2 n2
    exact cw_turn hL hz hd r3 (hs d (List.mem_of_getElem? hd)) g1.ff (g2.trans g3) n3 h3 (r2.mono g3.ff)
  · have e : i = ds.length := by omega
    subst e
    rw [List.take_length] at r2
    exact .inl ⟨ok.stop _ H' rfl (g1.sub.trans g2.hh), q L xs F' H' (g1.trans g2) (g1.hh.fresh hL) n2 h2 r2⟩
/-- a dict comprehension whose keys are all different -/
theorem ev_dc {wi : TI} (hl : IterD K wi σ F ds) (hz : ds.length < sizeLine) (ky : D → Key) (vl : D → D) (hn : (ds.map ky).Nodup)
    (hs : ∀ x ∈ ds, ∀ v F' H', Ex F F' → Ex F' H' → Rep K F' v x → EvG g v (wipe σ vs) H' fun σ2 => wipe σ2 vs = wipe σ vs ∧ EvB K tt σ2 F' true ∧ EvD K tk σ2 F' (.v (kV (ky x))) ∧ EvD K tv σ2 F' (vl x)) :
    ∀ H, Ex F H → ∀ Q : VK, (∀ p kvs F' H', Gr F H F' H' → H p = none → F' p = none → H' p = some (.dK kvs) → RepK K F' kvs (ds.map fun x => (ky x, vl x)) → Q (.ref p) H') → tDc wi g tt tk tv vs σ H Q := fun H x Q q => hl H x _ fun J F1 H1 g1 ok => by
  intro L hL
  refine ⟨fun i m H' => m = ds.length - i ∧ i ≤ ds.length ∧ ∃ F' kvs, Gr F1 H1 F' H' ∧ F' L = none ∧ H' L = some (.dK kvs) ∧ RepK K F' kvs ((ds.take i).map fun x => (ky x, vl x)), ⟨ds.length, by simp, Nat.zero_le _, F1, [], ⟨.new hL, .refl _, g1.sub.trans (.new hL), fun _ _ h => .inl h⟩, g1.sub.fresh hL, upd_same, .nil⟩, ?_⟩
  rintro i m H' ⟨rfl, hi, F', kvs, g2, n2, h2, r2⟩
  by_cases hlt : i < ds.length
  · refine .inr ⟨ok.go i H' hlt (g1.sub.trans g2.hh), fun H3 => ∃ F' kvs, Gr F1 H1 F' H3 ∧ F' L = none ∧ H3 L = some (.dK kvs) ∧ RepK K F' kvs ((ds.take (i + 1)).map fun x => (ky x, vl x)), fun H3 p3 => ⟨ds.length - (i + 1), by omega, rfl, hlt, p3⟩, fun x H'' hy => ?_⟩
    obtain ⟨d, F3, hd, g3, r3⟩ := ok.yld i H' x H'' F' hlt g2.ff g2.sub hy
    obtain ⟨h3, n3⟩ := g3.own h2 n2
    refine hs d (List.mem_of_getElem? hd) x F3 H'' (g1.ff.trans (g2.ff.trans g3.ff)) g3.sub r3 _ fun σ2 ⟨w2, b2, k2, v2⟩ => ⟨w2, b2 H'' g3.sub _ fun F4 H4 g4 => ?_⟩
    rw [if_pos rfl]
    refine (k2.mono g4.ff) H4 g4.sub _ fun y F5 H5 g5 i5 => (v2.mono (g4.trans g5).ff) H5 g5.sub _ fun z F6 H6 g6 i6 => ?_
    have e5 := i5.val
    have gg := g3.trans (g4.trans (g5.trans g6))
    obtain ⟨h6, n6⟩ := gg.own h2 n2
    have hlen : kvs.length < sizeLine := by
      have l1 := r2.length
      rw [List.length_map, List.length_take] at l1
      omega
    have hnew : valV kvs (ky d) = none := by
      have hk := r2.keys
      cases hq : valV kvs (ky d) with
      | none => rfl
      | some v =>
        exfalso
        have hmem := valV_in hq
        rw [hk, List.map_map] at hmem
        obtain ⟨y, hy1, hy2⟩ := List.mem_map.mp hmem
        have hy2 : ky y = ky d := hy2
        obtain ⟨j, hj⟩ := List.mem_iff_getElem?.mp hy1
        rw [List.getElem?_take] at hj
        split at hj
        · rename_i hji
          have e1 : (ds.map ky)[j]? = some (ky d) := by rw [List.getElem?_map, hj]; simp [hy2]
          have e2 : (ds.map ky)[i]? = some (ky d) := by rw [List.getElem?_map, hd]; rfl
          have := nd_ix hn e1 e2
          omega
        · cases hj
    refine ⟨kvs, ky d, e5, h6, hlen, F6, putK kvs (ky d) z, ?_, n6, upd_same, ?_⟩
    · have g7 := g2.trans gg
      exact ⟨g7.hh.mut hL, g7.ff, g7.sub.mut n6, g7.new⟩
    · rw [putK_new z hnew, List.take_add_one, hd, List.map_append]
      exact (r2.mono gg.ff).append (.cons i6 .nil)
  · have e : i = ds.length := by omega
    subst e
    rw [List.take_length] at r2
    exact .inl ⟨ok.stop _ H' rfl (g1.sub.trans g2.hh), q L kvs F' H' (g1.trans g2) (g1.hh.fresh hL) n2 h2 r2⟩
end
/-! ### statements -/
section
variable {K : Kw} {σ : L2.St} {F H : Hp} {te tl : TE} {tt : TT} {g : TG} {d : D} {ds : List D} {DE : Ends} {tu tw tz tb : TS}
theorem s_asg {i : Nat} (he : EvD K te σ F d) (sub : Ex F H) (k : ∀ v F' H', Gr F H F' H' → Rep K F' v d → DE.nx (σ.set i (some v)) H') : tAsg te (gName i) DE σ H := he H sub _ fun v F' H' g r => k v F' H' g r
theorem q_asg {i : Nat} (he : EvD K te σ F d) (sub : Ex F H) (k : ∀ v F' H', Gr F H F' H' → Rep K F' v d → tz DE (σ.set i (some v)) H') : tSeq (tAsg te (gName i)) tz DE σ H := s_asg (DE := { DE with nx := tz DE }) he sub k
theorem s_asgL {i : Nat} (he : EvL K te σ F ds) (sub : Ex F H) (k : ∀ p vs F' H', Gr F H F' H' → H p = none → F' p = none → H' p = some (.lst vs) → Reps K F' vs ds → DE.nx (σ.set i (some (.ref p))) H') : tAsg te (gName i) DE σ H := he H sub _ fun p vs F' H' g hp n hl r => k p vs F' H' g hp n hl r
theorem q_asgL {i : Nat} (he : EvL K te σ F ds) (sub : Ex F H) (k : ∀ p vs F' H', Gr F H F' H' → H p = none → F' p = none → H' p = some (.lst vs) → Reps K F' vs ds → tz DE (σ.set i (some (.ref p))) H') : tSeq (tAsg te (gName i)) tz DE σ H := s_asgL (DE := { DE with nx := tz DE }) he sub k
/-- any target -/
theorem s_asgG (he : EvD K te σ F d) (sub : Ex F H) (k : ∀ v F' H', Gr F H F' H' → Rep K F' v d → EvG g v σ H' fun σ' => DE.nx σ' H') : tAsg te g DE σ H := he H sub _ fun v F' H' gr r => k v F' H' gr r _ fun σ' h => h
theorem q_asgG (he : EvD K te σ F d) (sub : Ex F H) (k : ∀ v F' H', Gr F H F' H' → Rep K F' v d → EvG g v σ H' fun σ' => tz DE σ' H') : tSeq (tAsg te g) tz DE σ H := s_asgG (DE := { DE with nx := tz DE }) he sub k
theorem s_ret (he : EvD K te σ F d) (sub : Ex F H) (k : ∀ v F' H', Gr F H F' H' → Rep K F' v d → DE.rt v H') : tRet te DE σ H := he H sub _ k
theorem s_retL (he : EvL K te σ F ds) (sub : Ex F H) (k : ∀ p vs F' H', Gr F H F' H' → H p = none → F' p = none → H' p = some (.lst vs) → Reps K F' vs ds → DE.rt (.ref p) H') : tRet te DE σ H := he H sub _ k
theorem s_if {b : Bool} (h : EvB K tt σ F b) (sub : Ex F H) (h1 : b = true → ∀ F' H', Gr F H F' H' → tu DE σ H') (h2 : b = false → ∀ F' H', Gr F H F' H' → tw DE σ H') : tIfS tt tu tw DE σ H := h H sub _ fun F' H' g => by
  cases b with
  | true => exact h1 rfl F' H' g
  | false => exact h2 rfl F' H' g
theorem q_if {b : Bool} (h : EvB K tt σ F b) (sub : Ex F H) (h1 : b = true → ∀ F' H', Gr F H F' H' → tu { DE with nx := tz DE } σ H') (h2 : b = false → ∀ F' H', Gr F H F' H' → tw { DE with nx := tz DE } σ H') : tSeq (tIfS tt tu tw) tz DE σ H := s_if (DE := { DE with nx := tz DE }) h sub h1 h2
theorem q_when {b : Bool} (h : EvB K tt σ F b) (sub : Ex F H) (h1 : b = true → ∀ F' H', Gr F H F' H' → tu { DE with nx := tz DE } σ H') (h2 : b = false → ∀ F' H', Gr F H F' H' → tz DE σ H') : tSeq (tIfS tt tu tNext) tz DE σ H := s_if (DE := { DE with nx := tz DE }) h sub h1 h2
theorem s_when {b : Bool} (h : EvB K tt σ F b) (sub : Ex F H) (h1 : b = true → ∀ F' H', Gr F H F' H' → tu DE σ H') (h2 : b = false → ∀ F' H', Gr F H F' H' → DE.nx σ H') : tIfS tt tu tNext DE σ H := s_if h sub h1 h2
theorem s_drop (he : EvD K te σ F d) (sub : Ex F H) (k : ∀ F' H', Gr F H F' H' → DE.nx σ H') : tDrop te DE σ H := he H sub _ fun v F' H' g r => k F' H' g
theorem q_drop (he : EvD K te σ F d) (sub : Ex F H) (k : ∀ F' H', Gr F H F' H' → tz DE σ H') : tSeq (tDrop te) tz DE σ H := s_drop (DE := { DE with nx := tz DE }) he sub k
/-- l.append(e), l not in F -/
theorem s_app {ta : TE} {l : Addr} {xs : List V} (ha : EvD K ta σ F (.v (.ref l))) (he : EvD K te σ F d) (sub : Ex F H) (hl : H l = some (.lst xs)) (hz : xs.length < sizeLine)
    (k : ∀ v F' H', Gr F H F' H' → Rep K F' v d → DE.nx σ (upd H' l (.lst (xs ++ [v])))) : tDrop (tBM K.K "list" rAppend ta (tCons te tNil)) DE σ H :=
  ha H sub _ fun v F1 H1 g1 i1 => by
    have e1 := i1.val
    subst e1
    refine ⟨.inl ⟨rfl, xs, .inl (.inl (g1.hh _ _ hl))⟩, (he.mono g1.ff) H1 g1.sub _ fun w F2 H2 g2 i2 => ⟨l, xs, w, rfl, rfl, (g1.trans g2).hh _ _ hl, hz, k w F2 H2 (g1.trans g2) i2⟩⟩
theorem q_app {ta : TE} {l : Addr} {xs : List V} (ha : EvD K ta σ F (.v (.ref l))) (he : EvD K te σ F d) (sub : Ex F H) (hl : H l = some (.lst xs)) (hz : xs.length < sizeLine)
    (k : ∀ v F' H', Gr F H F' H' → Rep K F' v d → tz DE σ (upd H' l (.lst (xs ++ [v])))) : tSeq (tDrop (tBM K.K "list" rAppend ta (tCons te tNil))) tz DE σ H := s_app (DE := { DE with nx := tz DE }) ha he sub hl hz k
/-- between two turns of a loop -/
def Bt (F1 : Hp) (P : L2.St → Hp → Hp → Prop) : L2.St → Hp → Prop := fun σ3 H3 => ∃ F3, Ex F1 F3 ∧ Ex F3 H3 ∧ P σ3 F3 H3
/-- a loop over data; P: what holds ahead of turn i -/
theorem s_for {wi : TI} (hl : IterD K wi σ F ds) (sub : Ex F H) (P : Nat → L2.St → Hp → Hp → Prop)
    (hb : ∀ F1 H1, Gr F H F1 H1 → P 0 σ F1 H1 ∧ ∀ i x v σ' F2 H2 F' H', ds[i]? = some x → Ex F1 F2 → P i σ' F2 H2 → Gr F2 H2 F' H' → Rep K F' v x →
      g v σ' H' fun σ2 H3 => tb { DE with nx := Bt F1 (P (i + 1)), ct := Bt F1 (P (i + 1)), bk := DE.nx } σ2 H3)
    (hn : ∀ σ' F' H', Ex F F' → Ex F' H' → P ds.length σ' F' H' → DE.nx σ' H') : tFor wi g tb DE σ H := hl H sub _ fun J F1 H1 g1 ok => by
  obtain ⟨p0, hs⟩ := hb F1 H1 g1
  refine ⟨fun i m σ' H' => m = ds.length - i ∧ i ≤ ds.length ∧ Bt F1 (P i) σ' H', ⟨ds.length, by simp, Nat.zero_le _, F1, .refl _, g1.sub, p0⟩, ?_⟩
  rintro i m σ' H' ⟨rfl, hi, F', e1, e2, p⟩
  by_cases hlt : i < ds.length
  · refine .inr ⟨ok.go i H' hlt (e1.trans e2), Bt F1 (P (i + 1)), fun σ3 H3 p3 => ⟨ds.length - (i + 1), by omega, rfl, hlt, p3⟩, fun x H'' hy => ?_⟩
    obtain ⟨d, F3, hd, g3, r3⟩ := ok.yld i H' x H'' F' hlt e1 e2 hy
    exact hs i d x σ' F' H' F3 H'' hd e1 p g3 r3
  · have e : i = ds.length := by omega
    subst e
    exact .inl ⟨ok.stop _ H' rfl (e1.trans e2), hn σ' F' H' (g1.ff.trans e1) e2 p⟩
theorem q_for {wi : TI} (hl : IterD K wi σ F ds) (sub : Ex F H) (P : Nat → L2.St → Hp → Hp → Prop)
    (hb : ∀ F1 H1, Gr F H F1 H1 → P 0 σ F1 H1 ∧ ∀ i x v σ' F2 H2 F' H', ds[i]? = some x → Ex F1 F2 → P i σ' F2 H2 → Gr F2 H2 F' H' → Rep K F' v x →
      g v σ' H' fun σ2 H3 => tb { DE with nx := Bt F1 (P (i + 1)), ct := Bt F1 (P (i + 1)), bk := tz DE } σ2 H3)
    (hn : ∀ σ' F' H', Ex F F' → Ex F' H' → P ds.length σ' F' H' → tz DE σ' H') : tSeq (tFor wi g tb) tz DE σ H := s_for (DE := { DE with nx := tz DE }) hl sub P hb hn
end
end Dr
namespace Dr
open PySem PySem.Spec PyProof.Rows L2

theorem room65 {k : Nat} {A : Around} (r : Room k A) : A.units + 65 < cLine := by have := r.un; omega
theorem spP_len {K : Kw} {n : Nat} {f : List D → D → Prop} (vs : List V) (H : Hp) (Q : VK) (E : XK) (h : spP K n f vs H Q E) : vs.length = n := by
  obtain ⟨F, ds, r, _, hr, hn, _⟩ := h
  rw [hr.length]; exact hn
theorem spN_len {K : Kw} {n : Nat} {f : List D → List D → Prop} (vs : List V) (H : Hp) (Q : VK) (E : XK) (h : spN K n f vs H Q E) : vs.length = n := by
  obtain ⟨F, ds, r, _, hr, hn, _⟩ := h
  rw [hr.length]; exact hn
/-- the slots of a def at its entry: n names -/
def stn (n : Nat) (vs : List V) : L2.St := vs.map some ++ List.replicate (n - vs.length) none

/-! ### a def of the text, its promise kept -/
abbrev FnP (K : PySem.W.Frag) (x q : Str) (st : Stmt) (f : Addr) (fd : FuncData) : Prop := FunD K x q (defArgs st) (defBody st) (defScope st) [] [] f fd
structure Df (CX : CXT) (P : Program) (w : World) (K : PySem.W.Frag) (mg : Str → Option Value) (base : Heap) (k : Nat) (a : Str × Option Str) (ps : List Str) (sp : Sp) : Prop where
  ex : ∃ fd, FnOk P w K mg base CX k (He.fAd K a) fd ps sp ∧ Binds K fd ps []
  kp : PySem.W.keepIn K (.ref (He.fAd K a)) = true
section
variable {CX : CXT} {X : Cx} {j k : Nat} {x : Str} {ps : List Str} {sp : Sp} {e : Expr} {es : List Expr} {t : TA} {p pos : Pos} {E : XK}
theorem Df.mono {P : Program} {w : World} {K : PySem.W.Frag} {mg : Str → Option Value} {base : Heap} {a : Str × Option Str} (D : Df CX P w K mg base j a ps sp) (h : j ≤ k) : Df CX P w K mg base k a ps sp :=
  ⟨let ⟨fd, F, b⟩ := D.ex; ⟨fd, F.mono h, b⟩, D.kp⟩
theorem pe_callF (D : Df CX X.prog X.w X.K X.mg X.base j (x, none) ps sp) (hm : X.mg x = some (.ref (He.ga X.K x))) (hr : Room k X.A) (hx : Passes CX X E) (ha : PA X (e :: es) t) (hg : Gl X x := by rfl) (hk : j ≤ k := by decide)
    (hdb : (x == ("__debug__" : Str)) = false := by decide) (he : starEach (e :: es) X.env = (false, eval e X.env) :: starEach es X.env := by rfl) (hpl : (backTo pos (starEach es X.env)).any (·.1) = false := by rfl) :
    PE X (.Call (.Name x p) (e :: es) [] pos) (tCall sp [] E t) := by
  obtain ⟨fd, F, b⟩ := D.ex
  exact pe_call F (hr.mono hk) hg hm D.kp b .nil hx ha hdb he hpl
theorem pe_callF0 (D : Df CX X.prog X.w X.K X.mg X.base j (x, none) ps sp) (hm : X.mg x = some (.ref (He.ga X.K x))) (hr : Room k X.A) (hx : Passes CX X E) (hg : Gl X x := by rfl) (hk : j ≤ k := by decide) (hdb : (x == ("__debug__" : Str)) = false := by decide) :
    PE X (.Call (.Name x p) [] [] pos) (tCall sp [] E tNil) := by
  obtain ⟨fd, F, b⟩ := D.ex
  exact pe_call0 F (hr.mono hk) hg hm D.kp b .nil hx hdb
end
end Dr
namespace Dr
open PySem PySem.Spec PyProof.Rows L2

section
variable {K : Kw} {σ : L2.St} {F : Hp} {ta tb tc te tl : TE} {d e r : D} {ds : List D}
theorem ev_chain {f g : D → D → D → Prop} {c : D} {k k' : Bool} (ha : EvD K ta σ F d) (hb : EvD K tb σ F e) (hf : f d e (.bl k)) (hc : k = true → EvD K tc σ F c) (hg : k = true → g e c (.bl k')) :
    EvD K (tChain (rP2 K f) (rP2 K g) ta tb tc) σ F (.bl (k && k')) := fun H x Q q =>
  ha H x _ fun v F1 H1 g1 i1 => (hb.mono g1.ff) H1 g1.sub _ fun w F2 H2 g2 i2 => ⟨F2, d, e, .bl k, g2.sub, i1.mono g2.ff, i2, hf, fun z F3 H3 g3 i3 => ⟨k, i3.val, by
    cases k with
    | true =>
      rw [if_pos rfl]
      have g123 := (g1.trans g2).trans g3
      exact ((hc rfl).mono g123.ff) H3 g3.sub _ fun y F4 H4 g4 i4 => ⟨F4, e, c, .bl k', g4.sub, i2.mono (g3.trans g4).ff, i4, hg rfl, fun z F5 H5 g5 i5 => q z F5 H5 ((g123.trans g4).trans g5) i5⟩
    | false =>
      rw [if_neg Bool.false_ne_true]
      exact q _ F3 H3 ((g1.trans g2).trans g3) (.v _)⟩⟩
theorem ev_isN {b : Bool} {x : V} (h : EvD K ta σ F (.v x)) (hb : decide (x = .non) = b) : EvD K (tIsN ta) σ F (.bl b) := fun H e Q q => h H e _ fun v F1 H1 g1 i1 => by
  rw [i1.val, hb]; exact q _ F1 H1 g1 (.v _)
theorem ev_isN_tup (h : EvD K ta σ F (.tup ds)) : EvD K (tIsN ta) σ F (.bl false) := fun H e Q q => h H e _ fun v F1 H1 g1 i1 => by
  cases i1; exact q _ F1 H1 g1 (.v _)
theorem ev_notN {b : Bool} {x : V} (h : EvD K ta σ F (.v x)) (hb : (!decide (x = .non)) = b) : EvD K (tNotN ta) σ F (.bl b) := fun H e Q q => h H e _ fun v F1 H1 g1 i1 => by
  rw [i1.val, hb]; exact q _ F1 H1 g1 (.v _)
theorem ev_notN_tup (h : EvD K ta σ F (.tup ds)) : EvD K (tNotN ta) σ F (.bl true) := fun H e Q q => h H e _ fun v F1 H1 g1 i1 => by
  cases i1; exact q _ F1 H1 g1 (.v _)
theorem ev_neg {i : Int} (h : EvD K ta σ F (.int i)) : EvD K (tUn (rU fun i => .int (-i)) ta) σ F (.int (-i)) := fun H e Q q => h H e _ fun v F1 H1 g1 i1 => ⟨i, i1.val, q _ F1 H1 g1 (.v _)⟩
/-- list(range(n)) -/
theorem el_listRg {n : Int} (h : EvD K ta σ F (.int n)) (h0 : 0 ≤ n) (h1 : n ≤ 1000000) : EvL K (tLstRg (tRg1 ta)) σ F (rngD 0 n.toNat) := fun H e Q q => h H e _ fun v F1 H1 g1 i1 => by
  refine ⟨n, i1.val, .of_le (Int.le_refl _) (by omega) (by omega) h0, fun p hp => ?_⟩
  refine q p _ F1 _ ⟨g1.hh.trans (.new hp), g1.ff, g1.sub.trans (.new hp), g1.new⟩ (g1.hh.fresh hp) (g1.sub.fresh hp) upd_same ?_
  have e : (rngD 0 n.toNat) = (rgV 0 n).map D.v := by
    unfold rngD rgV
    rw [List.map_map, Int.sub_zero]; rfl
  rw [e]
  exact .vals _
/-- [e for x in .. for y in ..] -/
theorem el_lc2 {wi wi1 : TI} {g g1 : TG} {tt tt1 : TT} {vs vs1 : List Nat} (hl : IterD K wi σ F ds) (hz : ds.length < 1000) (inner : D → List D) (out : D → D → D) (hz1 : ∀ x ∈ ds, (inner x).length < 1000)
    (hs : ∀ x ∈ ds, ∀ v F' H', Ex F F' → Ex F' H' → Rep K F' v x → EvG g v (wipe σ vs) H' fun σ2 => wipe σ2 vs = wipe σ vs ∧ EvB K tt σ2 F' true ∧ IterD K wi1 σ2 F' (inner x) ∧
      ∀ y ∈ inner x, ∀ w F2 H2, Ex F' F2 → Ex F2 H2 → Rep K F2 w y → EvG g1 w (wipe σ2 vs1) H2 fun σ3 => wipe σ3 vs1 = wipe σ2 vs1 ∧ EvB K tt1 σ3 F2 true ∧ EvD K te σ3 F2 (out x y)) :
    EvL K (tLc2 wi g tt wi1 g1 tt1 te vs vs1) σ F (ds.flatMap fun x => (inner x).map (out x)) := fun H x Q q => hl H x _ fun J F1 H1 gg1 ok => by
  intro L hL
  have hlen : ∀ i, i ≤ ds.length → ((ds.take i).flatMap fun x => (inner x).map (out x)).length ≤ i * 1000 := by
    intro i
    induction i with
    | zero => intro _; simp
    | succ i ih =>
      intro hi
      have hi' : i < ds.length := by omega
      rw [List.take_add_one, List.getElem?_eq_getElem hi', List.flatMap_append, List.length_append]
      have h1 := ih (by omega)
      have h2 := hz1 ds[i] (List.getElem_mem hi')
      have h3 : (([ds[i]] : List D).flatMap fun x => (inner x).map (out x)).length = (inner ds[i]).length := by simp
      have h4 : (Option.toList (some ds[i])) = [ds[i]] := rfl
      rw [h4, h3]
      omega
  refine ⟨fun i m H' => m = ds.length - i ∧ i ≤ ds.length ∧ ∃ F' xs, Gr F1 H1 F' H' ∧ F' L = none ∧ H' L = some (.lst xs) ∧ Reps K F' xs ((ds.take i).flatMap fun x => (inner x).map (out x)), ⟨ds.length, by simp, Nat.zero_le _, F1, [], ⟨.new hL, .refl _, gg1.sub.trans (.new hL), fun _ _ h => .inl h⟩, gg1.sub.fresh hL, upd_same, .nil⟩, ?_⟩
  rintro i m H' ⟨rfl, hi, F', xs, g2, n2, h2, r2⟩
  by_cases hlt : i < ds.length
  · refine .inr ⟨ok.go i H' hlt (gg1.sub.trans g2.hh), fun H3 => ∃ F' xs, Gr F1 H1 F' H3 ∧ F' L = none ∧ H3 L = some (.lst xs) ∧ Reps K F' xs ((ds.take (i + 1)).flatMap fun x => (inner x).map (out x)), fun H3 p3 => ⟨ds.length - (i + 1), by omega, rfl, hlt, p3⟩, fun x H'' hy => ?_⟩
    obtain ⟨d, F3, hd, g3, r3⟩ := ok.yld i H' x H'' F' hlt g2.ff g2.sub hy
    obtain ⟨h3, n3⟩ := g3.own h2 n2
    have hd' : d ∈ ds := List.mem_of_getElem? hd
    refine hs d hd' x F3 H'' (gg1.ff.trans (g2.trans g3).ff) g3.sub r3 _ fun σ2 ⟨w2, b2, it2, e2⟩ => ⟨w2, b2 H'' g3.sub _ fun F4 H4 g4 => ?_⟩
    rw [if_pos rfl]
    obtain ⟨h4, n4⟩ := g4.own h3 n3
    have it4 : IterD K wi1 σ2 F3 (inner d) := it2
    refine it4 H4 (g4.ff.trans g4.sub) _ fun J1 F5 H5 g5 ok1 => ?_
    -- both growths, told over F4
    have e34 : Ex F3 F4 := g4.ff
    let F6 : Hp := fun a => match F4 a with | some o => some o | none => F5 a
    have g6 : Gr F4 H4 F6 H5 := by
      refine ⟨g5.hh, fun b o hb => by simp [F6, hb], fun b o hb => ?_, fun b o hb => ?_⟩
      · cases q1 : F4 b with
        | some u => simp [F6, q1] at hb; subst hb; exact g5.hh _ _ (g4.sub _ _ q1)
        | none => simp [F6, q1] at hb; exact g5.sub _ _ hb
      · cases q1 : F4 b with
        | some u => simp [F6, q1] at hb; subst hb; exact .inl rfl
        | none =>
          simp [F6, q1] at hb
          rcases g5.new _ _ hb with z | z
          · rw [e34 _ _ z] at q1; cases q1
          · exact .inr z
    have e56 : Ex F5 F6 := fun b o hb => by
      show (match F4 b with | some o => some o | none => F5 b) = some o
      cases q1 : F4 b with
      | none => exact hb
      | some u =>
        have z1 := g5.sub _ _ hb
        have z2 := g5.hh _ _ (g4.sub _ _ q1)
        rw [z1] at z2; cases z2; rfl
    obtain ⟨h5, n5⟩ := g6.own h4 n4
    have gall : Gr F1 H1 F6 H5 := ((g2.trans g3).trans g4).trans g6
    refine ⟨fun j m H' => m = (inner d).length - j ∧ j ≤ (inner d).length ∧ ∃ F' xs, Gr F1 H1 F' H' ∧ Ex F6 F' ∧ F' L = none ∧ H' L = some (.lst xs) ∧ Reps K F' xs (((ds.take i).flatMap fun x => (inner x).map (out x)) ++ ((inner d).take j).map (out d)),
      ⟨(inner d).length, by simp, Nat.zero_le _, F6, xs, gall, .refl _, n5, h5, by simp; exact r2.mono ((g3.trans g4).trans g6).ff⟩, ?_⟩
    rintro j m H7 ⟨rfl, hj, F7, ys, g7, e7, n7, h7, r7⟩
    by_cases hlt1 : j < (inner d).length
    · refine .inr ⟨ok1.go j H7 hlt1 (e56.trans (e7.trans g7.sub)), fun H8 => ∃ F' xs, Gr F1 H1 F' H8 ∧ Ex F6 F' ∧ F' L = none ∧ H8 L = some (.lst xs) ∧ Reps K F' xs (((ds.take i).flatMap fun x => (inner x).map (out x)) ++ ((inner d).take (j + 1)).map (out d)), fun H8 p8 => ⟨(inner d).length - (j + 1), by omega, rfl, hlt1, p8⟩, fun y H8 hy1 => ?_⟩
      obtain ⟨dy, F8, hdy, g8, r8⟩ := ok1.yld j H7 y H8 F7 hlt1 (e56.trans e7) g7.sub hy1
      obtain ⟨h8, n8⟩ := g8.own h7 n7
      refine e2 dy (List.mem_of_getElem? hdy) y F8 H8 (e34.trans (g6.ff.trans (e7.trans g8.ff))) g8.sub r8 _ fun σ3 ⟨w3, b3, e3⟩ => ⟨w3, b3 H8 g8.sub _ fun F9 H9 g9 => ?_⟩
      rw [if_pos rfl]
      refine (e3.mono g9.ff) H9 g9.sub _ fun z F10 H10 g10 i10 => ?_
      have g89 := (g8.trans g9).trans g10
      obtain ⟨h10, n10⟩ := g89.own h7 n7
      have hl : ys.length < sizeLine := by
        have l1 := r7.length
        have l2 := hlen i hi
        have l3 := hz1 d hd'
        rw [List.length_append, List.length_map, List.length_take] at l1
        have : i * 1000 ≤ 1000 * 1000 := Nat.mul_le_mul (by omega) (Nat.le_refl _)
        rw [sizeLine_eq]; omega
      refine ⟨ys, h10, hl, F10, ys ++ [z], ?_, e7.trans g89.ff, n10, upd_same, ?_⟩
      · have g := g7.trans g89
        exact ⟨g.hh.mut hL, g.ff, g.sub.mut n10, g.new⟩
      · rw [List.take_add_one, hdy, List.map_append, ← List.append_assoc]
        exact (r7.mono g89.ff).append (.cons i10 .nil)
    · have e : j = (inner d).length := by omega
      subst e
      refine .inl ⟨ok1.stop _ H7 rfl (e56.trans (e7.trans g7.sub)), F7, ys, g7, n7, h7, ?_⟩
      rw [List.take_length] at r7
      rw [List.take_add_one, hd, List.flatMap_append]
      simpa using r7
  · have e : i = ds.length := by omega
    subst e
    rw [List.take_length] at r2
    exact .inl ⟨ok.stop _ H' rfl (gg1.sub.trans g2.hh), q L xs F' H' (gg1.trans g2) (gg1.hh.fresh hL) n2 h2 r2⟩
end
/-! ### zip -/
section
variable {K : Kw} {σ : L2.St} {F : Hp} {ta : TA} {as bs : List D}
/-- zip of two tuples that are as long, or whose second is shorter by at most the first's tail: told by the shorter -/
theorem it_zipT (hl : EvA K ta σ F [.tup as, .tup bs]) : IterD K (RZ.iZipA K.K ta) σ F (zipD as bs) := fun H x R q => hl H x _ fun vs F1 H1 g1 i1 => by
  obtain ⟨v, w, e, r1, r2⟩ := i1.two
  subst e
  cases r1 with | @tup a xs _ ha hx =>
  cases r2 with | @tup b ys _ hb hy =>
  refine ⟨a, b, xs, ys, rfl, .inr ⟨g1.sub.t ha, g1.sub.t hb, q _ F1 H1 g1 ⟨fun i H hi e => ?_, fun i H x H' F2 hi e1 e2 hyl => ?_, fun i H hi e => ?_⟩⟩⟩
  · have hi' : i < as.length ∧ i < bs.length := by unfold zipD at hi; rw [List.length_zipWith] at hi; omega
    have h1 : i < xs.length := by rw [hx.length]; exact hi'.1
    have h2 : i < ys.length := by rw [hy.length]; exact hi'.2
    exact ⟨xs, ys, xs[i], ys[i], e.t ha, e.t hb, by simp [h1], by simp [h2]⟩
  · obtain ⟨T, x1, y1, e, hT, eH, hxy⟩ := hyl
    subst e eH
    have p1 := hxy.1 xs ((e1.trans e2).t ha)
    have p2 := hxy.2 ys ((e1.trans e2).t hb)
    obtain ⟨d1, hd1, id1⟩ := hx.getV p1
    obtain ⟨d2, hd2, id2⟩ := hy.getV p2
    obtain ⟨q1, q2⟩ := pair_new (K := K) (x := x1) (y := y1) e2 hT (id1.mono e1) (id2.mono e1)
    exact ⟨_, _, zipD_get hd1 hd2, q1, q2⟩
  · have hi' : i = min as.length bs.length := by unfold zipD at hi; rw [List.length_zipWith] at hi; exact hi
    exact ⟨xs, ys, e.t ha, e.t hb, by rw [hx.length, hy.length]; omega⟩
end
/-! ### stores, copies -/
inductive DictD : List D → D → Prop
  | dct (d0 : D) (ds : List (Key × D)) : IsDc d0 ds → DictD [d0] (.dct ds)
def rSetD (K : Kw) : TSet := fun o i v H Q => rSetL o i v H Q ∨ ∃ a H', o = .ref a ∧ DPut H a i v H' ∧ Q H'
section
variable {X : Cx}
theorem set_D (hu : X.A.units + 64 < cLine) : PSet X (rSetD (kw X)) := by
  intro pins s σ H o i v ov iv u Q I ro ri rv h
  rcases h with h | ⟨a, H', e, p, q⟩
  · exact set_list pins s σ H o i v ov iv u Q I ro ri rv h
  · subst e
    cases ro
    exact d_setItem (by omega) I p ri rv fun s' I' => ⟨H', I', q⟩
theorem call_dictC (hc : X.calm = true) : CallR X (.type "dict") (rPn (kw X) DictD) := by
  intro pins s σ H xs us Q I rx h
  obtain ⟨F, ds, r, sub, id, hf, q⟩ := h
  cases hf with
  | dct d0 ds hd0 =>
    obtain ⟨v, rfl, i1⟩ := id.one
    obtain ⟨a, kvs, vs, rfl, hk, z, lo, rel, dd⟩ := i1.dictOf I sub hd0
    obtain ⟨u, rfl, ru⟩ := vals1 rx
    cases ru
    refine kt_call_dict lo dd (by rw [← rel.length]; exact z) fun h' d' hs => ?_
    have hm : (s.heap.objs.size == sysModules) = false := beq_eq_false_iff_ne.mpr (Nat.ne_of_gt I.big)
    have hfr := I.hok.fresh (Nat.le_refl s.heap.objs.size)
    exact ⟨.ref s.heap.objs.size, upd H s.heap.objs.size (.dK kvs), I.laid (t' := s.toks) (fun b u e => (hs.2 b (Nat.ne_of_lt (Heap.lt_size e))).trans (Heap.get?_push_of_some _ e)) (Nat.le_refl _)
      (show ObjOk X.prog X.w _ _ _ (.dK kvs) from ⟨z, hm, vs, rel, d'⟩), rfl, q _ _ _ (.alloc sub hfr) (.dct upd_same (hk.mono (.new (sub.fresh hfr))))⟩
end
/-! ### displays of dicts -/
section
variable {K : Kw} {σ : L2.St} {F : Hp} {tk tv : TE} {trs : List (TE × TE)}
def EvP (K : Kw) (trs : List (TE × TE)) (σ : L2.St) (F : Hp) (ps : List (Key × D)) : Prop := ∀ H, Ex F H → ∀ Q : List (V × V) → Hp → Prop, (∀ kvs F' H', Gr F H F' H' → RepK K F' kvs ps → Q (kvs.map fun kv => (kV kv.1, kv.2)) H') → tPairs trs σ H Q
theorem ep_nil : EvP K [] σ F [] := fun H x Q q => q [] F H (.refl x) .nil
theorem EvP.mono {F' : Hp} {ps : List (Key × D)} (h : EvP K trs σ F ps) (x : Ex F F') : EvP K trs σ F' ps := fun H a Q q => by
  refine h H (x.trans a) Q fun v F2 H2 g i => ?_
  have key : Gr F' H (fun a => match F' a with | some o => some o | none => F2 a) H2 := by
    refine ⟨g.hh, fun b o hb => by simp [hb], fun b o hb => ?_, fun b o hb => ?_⟩
    · cases q1 : F' b with
      | some u => simp [q1] at hb; subst hb; exact g.hh _ _ (a _ _ q1)
      | none => simp [q1] at hb; exact g.sub _ _ hb
    · cases q1 : F' b with
      | some u => simp [q1] at hb; subst hb; exact .inl rfl
      | none =>
        simp [q1] at hb
        rcases g.new _ _ hb with z | z
        · rw [x _ _ z] at q1; cases q1
        · exact .inr z
  refine q v _ H2 key (i.mono fun b o hb => ?_)
  show (match F' b with | some o => some o | none => F2 b) = some o
  cases q1 : F' b with
  | none => exact hb
  | some u =>
    have z1 := g.sub _ _ hb
    have z2 := g.hh _ _ (a _ _ q1)
    rw [z1] at z2; cases z2; rfl
theorem ep_cons {k : Key} {d : D} {ps : List (Key × D)} (hk : EvD K tk σ F (.v (kV k))) (hv : EvD K tv σ F d) (hr : EvP K trs σ F ps) : EvP K ((tk, tv) :: trs) σ F ((k, d) :: ps) := fun H x Q q =>
  hk H x _ fun y F1 H1 g1 i1 => (hv.mono g1.ff) H1 g1.sub _ fun z F2 H2 g2 i2 => (hr.mono (g1.trans g2).ff) H2 g2.sub _ fun kvs F3 H3 g3 i3 => by
    have e := i1.val
    subst e
    exact q ((k, z) :: kvs) F3 H3 ((g1.trans g2).trans g3) (.cons (i2.mono g3.ff) i3)
theorem merge_nil : ∀ (kvs acc : List (Key × V)), ((acc ++ kvs).map (·.1)).Nodup → mergeK acc kvs = acc ++ kvs
  | [], acc, _ => by simp [mergeK]
  | p :: kvs, acc, h => by
    have hn : valV acc p.1 = none := by
      cases hq : valV acc p.1 with
      | none => rfl
      | some v =>
        exfalso
        have hm := valV_in hq
        rw [List.map_append, List.map_cons] at h
        have := (List.nodup_append.mp h).2.2 _ hm p.1 (by simp)
        exact this rfl
    show mergeK (putK acc p.1 p.2) kvs = _
    rw [putK_new _ hn, merge_nil kvs (acc ++ [p]) (by simpa using h)]
    simp
theorem ev_disp {ps : List (Key × D)} (h : EvP K trs σ F ps) (hz : ps.length ≤ 15) (hn : (ps.map (·.1)).Nodup) :
    ∀ H, Ex F H → ∀ Q : VK, (∀ p kvs F' H', Gr F H F' H' → H p = none → F' p = none → H' p = some (.dK kvs) → RepK K F' kvs ps → Q (.ref p) H') → tDisp trs σ H Q := fun H x Q q p hp =>
  h (upd H p (.dK [])) (x.trans (.new hp)) _ fun kvs F1 H1 g1 i1 => by
    have n1 : F p = none := x.fresh hp
    obtain ⟨h1, n2⟩ := g1.own upd_same n1
    have hm : mergeK [] kvs = kvs := by
      have := merge_nil kvs [] (by rw [List.nil_append, i1.keys]; exact hn)
      simpa using this
    refine ⟨h1, kvs, rfl, by rw [i1.length]; exact hz, ?_⟩
    rw [hm]
    refine q p kvs F1 _ ⟨fun a o e => ?_, g1.ff, g1.sub.mut n2, fun a o e => ?_⟩ hp n2 upd_same i1
    · rw [upd_ne (ne_of_none e hp)]
      exact g1.hh _ _ (by rw [upd_ne (ne_of_none e hp)]; exact e)
    · rcases g1.new a o e with z | z
      · exact .inl z
      · by_cases qa : a = p
        · subst qa; rw [n2] at e; cases e
        · rw [upd_ne qa] at z; exact .inr z
end
/-- a new dict, frozen at once -/
theorem ev_of_new {K : Kw} {te : TE} {σ : L2.St} {F : Hp} {ps : List (Key × D)} (h : ∀ H, Ex F H → ∀ Q : VK, (∀ p kvs F' H', Gr F H F' H' → H p = none → F' p = none → H' p = some (.dK kvs) → RepK K F' kvs ps → Q (.ref p) H') → te σ H Q) : EvD K te σ F (.dct ps) :=
  fun H x Q q => h H x Q fun p kvs F' H' g hp n hl r => q _ _ _ (g.freeze hp n hl) (.dct upd_same (r.mono (.new n)))

/-! ### making -/
structure DfM (CX : CXT) (P : Program) (w : World) (K : PySem.W.Frag) (mg : Str → Option Value) (base : Heap) (k : Nat) (C : Str) (ps : List Str) (sp : Sp) : Prop where
  d : Df CX P w K mg base k (C, some "__init__") ps sp
  m : Mk K (He.ga K C) (He.ma K (He.ga K C) "__init__")
section
variable {CX : CXT} {X : Cx} {j k : Nat} {x : Str} {ps : List Str} {sp : Sp} {e : Expr} {es : List Expr} {t : TA} {p pos : Pos} {E : XK}
theorem pe_makeF (D : DfM CX X.prog X.w X.K X.mg X.base j x ps sp) (hm : X.mg x = some (.ref (He.ga X.K x))) (hr : Room k X.A) (hx : Passes CX X E) (ha : PA X (e :: es) t) (hg : Gl X x := by rfl) (hk : j + 1 ≤ k := by decide)
    (hdb : (x == ("__debug__" : Str)) = false := by decide) (he : starEach (e :: es) X.env = (false, eval e X.env) :: starEach es X.env := by rfl) (hpl : (backTo pos (starEach es X.env)).any (·.1) = false := by rfl) :
    PE X (.Call (.Name x p) (e :: es) [] pos) (tMake (He.ga X.K x) sp [] E t) := by
  obtain ⟨fd, F, b⟩ := D.d.ex
  exact pe_make D.m F (hr.mono hk) hg hm b .nil hx ha hdb he hpl
end
end Dr
namespace Dr
open PySem PySem.Spec PyProof.Rows L2

/-! ### a dict that is walked: locked meanwhile -/
/-- the lock is taken off -/
def LkR (F F' : Hp) : Prop := ∀ a u, F a = some u → (∀ o kvs, u ≠ .frz o (.dK kvs)) → F' a = some u
/-- the lock is put on -/
def LkN (F F' : Hp) : Prop := ∀ a u, F a = some u → (∀ kvs, u ≠ .dK kvs) → F' a = some u
mutual
/-- data without tracked dicts -/
def dfree : D → Bool
  | .v _ => true
  | .tup ds => dfrees ds
  | .lst ds => dfrees ds
  | .dct _ => false
  | .kdc ds => dfreeK ds
  | .ins _ fs => dfreeF fs
  | .scr _ => true
def dfrees : List D → Bool
  | [] => true
  | d :: ds => dfree d && dfrees ds
def dfreeK : List (Key × D) → Bool
  | [] => true
  | (_, d) :: ds => dfree d && dfreeK ds
def dfreeF : List (Str × D) → Bool
  | [] => true
  | (_, d) :: ds => dfree d && dfreeF ds
end
section
variable {K : Kw} {F F' H : Hp} {a : Addr} {kvs : List (Key × V)} {od : Obj}
theorem LkR.t (l : LkR F F') {a : Addr} {xs : List V} (h : SqT K.K F a xs) : SqT K.K F' a xs := by
  rcases h with (h | ⟨o, h⟩) | h
  · exact .inl (.inl (l _ _ h fun _ _ z => nomatch z))
  · exact .inl (.inr ⟨o, l _ _ h fun _ _ z => nomatch z⟩)
  · exact .inr h
theorem LkR.l (l : LkR F F') {a : Addr} {xs : List V} (h : SqL K.K F a xs) : SqL K.K F' a xs := by
  rcases h with (h | ⟨o, h⟩) | h
  · exact .inl (.inl (l _ _ h fun _ _ z => nomatch z))
  · exact .inl (.inr ⟨o, l _ _ h fun _ _ z => nomatch z⟩)
  · exact .inr h
theorem LkN.t (l : LkN F F') {a : Addr} {xs : List V} (h : SqT K.K F a xs) : SqT K.K F' a xs := by
  rcases h with (h | ⟨o, h⟩) | h
  · exact .inl (.inl (l _ _ h fun _ z => nomatch z))
  · exact .inl (.inr ⟨o, l _ _ h fun _ z => nomatch z⟩)
  · exact .inr h
theorem LkN.l (l : LkN F F') {a : Addr} {xs : List V} (h : SqL K.K F a xs) : SqL K.K F' a xs := by
  rcases h with (h | ⟨o, h⟩) | h
  · exact .inl (.inl (l _ _ h fun _ z => nomatch z))
  · exact .inl (.inr ⟨o, l _ _ h fun _ z => nomatch z⟩)
  · exact .inr h
mutual
theorem Rep.relock (l : LkR F F') {v : V} {d : D} (h : Rep K F v d) : Rep K F' v d := by
  cases h with
  | v => exact .v _
  | tup h r => exact .tup (l.t h) (Reps.relock l r)
  | lst h r => exact .lst (l _ _ h fun _ _ z => nomatch z) (Reps.relock l r)
  | dct h r => exact .dct (l _ _ h fun _ _ z => nomatch z) (RepK.relock l r)
  | kd h r => exact .kd h (RepK.relock l r)
  | ins h r => exact .ins (l _ _ h fun _ _ z => nomatch z) (RepF.relock l r)
  | scr h => exact .scr (l.l h)
theorem Reps.relock (l : LkR F F') {vs : List V} {ds : List D} (h : Reps K F vs ds) : Reps K F' vs ds := by
  cases h with
  | nil => exact .nil
  | cons h r => exact .cons (Rep.relock l h) (Reps.relock l r)
theorem RepK.relock (l : LkR F F') {vs : List (Key × V)} {ds : List (Key × D)} (h : RepK K F vs ds) : RepK K F' vs ds := by
  cases h with
  | nil => exact .nil
  | cons h r => exact .cons (Rep.relock l h) (RepK.relock l r)
theorem RepF.relock (l : LkR F F') {vs : List (Str × V)} {ds : List (Str × D)} (h : RepF K F vs ds) : RepF K F' vs ds := by
  cases h with
  | nil => exact .nil
  | cons h r => exact .cons (Rep.relock l h) (RepF.relock l r)
end
mutual
theorem Rep.relockN (l : LkN F F') {v : V} {d : D} (h : Rep K F v d) (n : dfree d = true) : Rep K F' v d := by
  cases h with
  | v => exact .v _
  | tup h r => rw [dfree] at n; exact .tup (l.t h) (Reps.relockN l r n)
  | lst h r => rw [dfree] at n; exact .lst (l _ _ h fun _ z => nomatch z) (Reps.relockN l r n)
  | dct h r => rw [dfree] at n; cases n
  | kd h r => rw [dfree] at n; exact .kd h (RepK.relockN l r n)
  | ins h r => rw [dfree] at n; exact .ins (l _ _ h fun _ z => nomatch z) (RepF.relockN l r n)
  | scr h => exact .scr (l.l h)
theorem Reps.relockN (l : LkN F F') {vs : List V} {ds : List D} (h : Reps K F vs ds) (n : dfrees ds = true) : Reps K F' vs ds := by
  cases h with
  | nil => exact .nil
  | cons h r => rw [dfrees, Bool.and_eq_true] at n; exact .cons (Rep.relockN l h n.1) (Reps.relockN l r n.2)
theorem RepK.relockN (l : LkN F F') {vs : List (Key × V)} {ds : List (Key × D)} (h : RepK K F vs ds) (n : dfreeK ds = true) : RepK K F' vs ds := by
  cases h with
  | nil => exact .nil
  | cons h r => rw [dfreeK, Bool.and_eq_true] at n; exact .cons (Rep.relockN l h n.1) (RepK.relockN l r n.2)
theorem RepF.relockN (l : LkN F F') {vs : List (Str × V)} {ds : List (Str × D)} (h : RepF K F vs ds) (n : dfreeF ds = true) : RepF K F' vs ds := by
  cases h with
  | nil => exact .nil
  | cons h r => rw [dfreeF, Bool.and_eq_true] at n; exact .cons (Rep.relockN l h n.1) (RepF.relockN l r n.2)
end
theorem lk_on (h : F a = some (.dK kvs)) : LkN F (upd F a (.frz od (.dK kvs))) := fun b u e n1 => by
  by_cases q : b = a
  · subst q; rw [h] at e; cases e; exact absurd rfl (n1 _)
  · rw [upd_ne q]; exact e
theorem lk_off (h : F a = some (.frz od (.dK kvs))) : LkR F (upd F a (.dK kvs)) := fun b u e n2 => by
  by_cases q : b = a
  · subst q; rw [h] at e; cases e; exact absurd rfl (n2 _ _)
  · rw [upd_ne q]; exact e
theorem gr_unlock {F1 H1 : Hp} (h : F a = some (.dK kvs)) (sub : Ex F H) (g : Gr (upd F a (.frz od (.dK kvs))) (upd H a (.frz od (.dK kvs))) F1 H1) : Gr F H (upd F1 a (.dK kvs)) (upd H1 a (.dK kvs)) where
  hh := fun b o e => by
    by_cases q : b = a
    · subst q; rw [upd_same]; rw [sub _ _ h] at e; exact e
    · rw [upd_ne q]; exact g.hh _ _ (by rw [upd_ne q]; exact e)
  ff := fun b o e => by
    by_cases q : b = a
    · subst q; rw [upd_same]; rw [h] at e; exact e
    · rw [upd_ne q]; exact g.ff _ _ (by rw [upd_ne q]; exact e)
  sub := g.sub.upd2
  new := fun b o e => by
    by_cases q : b = a
    · subst q; rw [upd_same] at e; rw [h]; exact .inl e
    · rw [upd_ne q] at e
      rcases g.new _ _ e with z | z
      · rw [upd_ne q] at z; exact .inl z
      · rw [upd_ne q] at z; exact .inr z
variable {σ : L2.St} {te tl : TE} {d : D} {ds : List D}
theorem lock_ev (ha : F a = some (.dK kvs)) (h : ∀ od, EvD K te σ (upd F a (.frz od (.dK kvs))) d) : EvD K (tLockE te) σ F d := fun H x Q q =>
  ⟨a, .dK kvs, x _ _ ha, trivial, fun od => h od (upd H a (.frz od (.dK kvs))) x.upd2 _ fun v F1 H1 g1 i1 => by
    have e1 : F1 a = some (.frz od (.dK kvs)) := g1.ff _ _ upd_same
    exact ⟨g1.sub _ _ e1, q v _ _ (gr_unlock ha x g1) (i1.relock (lk_off e1))⟩⟩
theorem lock_el (ha : F a = some (.dK kvs)) (h : ∀ od, EvL K te σ (upd F a (.frz od (.dK kvs))) ds) : EvL K (tLockE te) σ F ds := fun H x Q q =>
  ⟨a, .dK kvs, x _ _ ha, trivial, fun od => h od (upd H a (.frz od (.dK kvs))) x.upd2 _ fun p vs F1 H1 g1 hp n hl r => by
    have e1 : F1 a = some (.frz od (.dK kvs)) := g1.ff _ _ upd_same
    have hpa : p ≠ a := fun z => by rw [z, upd_same] at hp; cases hp
    refine ⟨g1.sub _ _ e1, q p vs _ _ (gr_unlock ha x g1) (by rw [upd_ne hpa] at hp; exact hp) (by rw [upd_ne hpa]; exact n) (by rw [upd_ne hpa]; exact hl) (r.relock (lk_off e1))⟩⟩
/-- the keys of a locked dict -/
theorem it_keys {kds : List (Key × D)} (hl : EvD K tl σ F (.v (.ref a))) (ha : F a = some (.frz od (.dK kvs))) (hr : RepK K F kvs kds) : IterD K (iKeys tl) σ F (kds.map fun p => kD p.1) := fun H x R q => hl H x _ fun v F1 H1 g1 i1 => by
  have e := i1.val
  subst e
  refine ⟨a, od, rfl, .inl ⟨kvs, g1.sub _ _ (g1.ff _ _ ha), q _ F1 H1 g1 ⟨fun i H hi e => ?_, fun i H x H' F2 hi e1 e2 hy => ?_, fun i H hi e => ?_⟩⟩⟩
  · exact ⟨e _ _ (g1.ff _ _ ha), by rw [hr.length]; simpa using hi⟩
  · obtain ⟨e, k, v, hk, hx⟩ := hy
    subst e hx
    have hkk : (kds.map (·.1))[i]? = some k := by rw [← hr.keys, List.getElem?_map, hk]; rfl
    rw [List.getElem?_map] at hkk
    cases hp : kds[i]? with
    | none => rw [hp] at hkk; cases hkk
    | some p =>
      rw [hp] at hkk
      have e3 : p.1 = k := Option.some.inj hkk
      exact ⟨kD k, F2, by rw [List.getElem?_map, hp, ← e3]; rfl, .refl e2, .v _⟩
  · exact ⟨e _ _ (g1.ff _ _ ha), by rw [hr.length]; simp at hi; omega⟩
theorem Reps.three {K : Kw} {F : Hp} {vs : List V} {a b c : D} (h : Reps K F vs [a, b, c]) : ∃ x y z, vs = [x, y, z] ∧ Rep K F x a ∧ Rep K F y b ∧ Rep K F z c := by
  cases h with
  | cons h r => obtain ⟨y, z, e, r1, r2⟩ := r.two; subst e; exact ⟨_, y, z, rfl, h, r1, r2⟩
theorem Reps.four {K : Kw} {F : Hp} {vs : List V} {a b c d : D} (h : Reps K F vs [a, b, c, d]) : ∃ x y z u, vs = [x, y, z, u] ∧ Rep K F x a ∧ Rep K F y b ∧ Rep K F z c ∧ Rep K F u d := by
  cases h with
  | cons h r => obtain ⟨y, z, u, e, r1, r2, r3⟩ := r.three; subst e; exact ⟨_, y, z, u, rfl, h, r1, r2, r3⟩
theorem Reps.five {K : Kw} {F : Hp} {vs : List V} {a b c d f : D} (h : Reps K F vs [a, b, c, d, f]) : ∃ x y z u v, vs = [x, y, z, u, v] ∧ Rep K F x a ∧ Rep K F y b ∧ Rep K F z c ∧ Rep K F u d ∧ Rep K F v f := by
  cases h with
  | cons h r => obtain ⟨y, z, u, v, e, r1, r2, r3, r4⟩ := r.four; subst e; exact ⟨_, y, z, u, v, rfl, h, r1, r2, r3, r4⟩
end
end Dr
namespace Dr
open PySem PySem.Spec PyProof.Rows L2
section
variable {K : Kw} {σ : L2.St} {F : Hp} {te : TE} {wi : TI} {g : TG} {vs : List Nat} {ds : List D}
theorem eb_yes : EvB K tYes σ F true := fun H x Q q => q F H (.refl x)
theorem filterMap_all (f : D → D) : ∀ l : List D, l.filterMap (fun x => some (f x)) = l.map f
  | [] => rfl
  | a :: l => by simp [filterMap_all f l]
theorem el_map (hl : IterD K wi σ F ds) (hz : ds.length < sizeLine) (f : D → D)
    (hs : ∀ x ∈ ds, ∀ v F' H', Ex F F' → Ex F' H' → Rep K F' v x → EvG g v (wipe σ vs) H' fun σ2 => wipe σ2 vs = wipe σ vs ∧ EvD K te σ2 F' (f x)) : EvL K (tLc wi g tYes te vs) σ F (ds.map f) := by
  rw [← filterMap_all]
  refine el_lc hl hz _ fun x hx v F' H' e1 e2 r k hk => ?_
  exact hs x hx v F' H' e1 e2 r k fun σ2 ⟨w, h⟩ => hk σ2 ⟨w, eb_yes, fun r' hr => by
    have := Option.some.inj hr
    subst this
    exact h⟩
theorem el_mapB (hl : IterD K wi σ F ds) (hz : ds.length < sizeLine) (f : D → Bool)
    (hs : ∀ x ∈ ds, ∀ v F' H', Ex F F' → Ex F' H' → Rep K F' v x → EvG g v (wipe σ vs) H' fun σ2 => wipe σ2 vs = wipe σ vs ∧ EvD K te σ2 F' (.bl (f x))) : EvL K (tLc wi g tYes te vs) σ F ((ds.map f).map D.bl) := by
  have := el_map (K := K) (te := te) (g := g) (vs := vs) hl hz (fun x => .bl (f x)) hs
  rw [List.map_map]
  exact this
theorem el_mapI (hl : IterD K wi σ F ds) (hz : ds.length < sizeLine) (f : D → Int)
    (hs : ∀ x ∈ ds, ∀ v F' H', Ex F F' → Ex F' H' → Rep K F' v x → EvG g v (wipe σ vs) H' fun σ2 => wipe σ2 vs = wipe σ vs ∧ EvD K te σ2 F' (.int (f x))) : EvL K (tLc wi g tYes te vs) σ F ((ds.map f).map D.int) := by
  have := el_map (K := K) (te := te) (g := g) (vs := vs) hl hz (fun x => .int (f x)) hs
  rw [List.map_map]
  exact this
end
/-- texts -/
theorem eqD_str (x y : Str) : eqD (.str x) (.str y) = (x == y) := by simp [eqD, pyD, PyData.eqv]
theorem eqD_int (x y : Int) : eqD (.int x) (.int y) = (x == y) := by simp [eqD, pyD, PyData.eqv]
theorem memD_strs (x : Str) (xs : List Str) : memD (.str x) (xs.map D.str) = xs.any (· == x) := by
  unfold memD
  rw [List.any_map]
  exact congrArg (fun f => xs.any f) (funext fun y => eqD_str y x)
theorem flat_strs {xs : List Str} (h : ∀ x ∈ xs, PyData.strOk x = true) : (xs.map V.str).all flatW = true := by
  rw [List.all_map, List.all_eq_true]
  exact fun x hx => h x hx
theorem flatD_str (n : Nat) (x : Str) : flatD n (.str x) = PyData.strOk x := by cases n <;> simp [flatD, flatW]
theorem flatDs_strs {xs : List Str} {n : Nat} (h : ∀ x ∈ xs, PyData.strOk x = true) : flatDs n (xs.map D.str) = true := by
  rw [flatDs_all, List.all_map, List.all_eq_true]
  exact fun x hx => (flatD_str n x).trans (h x hx)
end Dr
namespace Dr
open PySem PySem.Spec PyProof.Rows L2

/-! ### growth beside a mutable part -/
structure Mu where
  W : Addr → Prop
  J : Hp → Prop
  dom : ∀ {H : Hp} {a : Addr}, J H → W a → ∃ o, H a = some o
  stab : ∀ {H H' : Hp}, J H → (∀ a o, W a → H a = some o → H' a = some o) → J H'
structure Mu.I (m : Mu) (F H : Hp) : Prop where
  out : ∀ a, m.W a → F a = none
  st : m.J H
structure GrW (m : Mu) (F H F' H' : Hp) : Prop where
  hh : ∀ a o, ¬ m.W a → H a = some o → H' a = some o
  ff : Ex F F'
  sub : Ex F' H'
  new : ∀ a o, F' a = some o → F a = some o ∨ H a = none
  inv : m.I F' H'
section
variable {m : Mu} {F H F' H' F2 H2 : Hp} {p : Addr} {o : HO}
theorem Mu.I.nw (i : m.I F H) (h : H p = none) : ¬ m.W p := fun w => by
  obtain ⟨o, e⟩ := m.dom i.st w
  rw [h] at e; cases e
theorem Gr.w (g : Gr F H F' H') (i : m.I F H) : GrW m F H F' H' where
  hh := fun a o _ e => g.hh a o e
  ff := g.ff
  sub := g.sub
  new := g.new
  inv := ⟨fun a w => by
    cases q : F' a with
    | none => rfl
    | some u =>
      rcases g.new _ _ q with z | z
      · rw [i.out a w] at z; cases z
      · exact absurd w (i.nw z), m.stab i.st fun a o _ e => g.hh a o e⟩
theorem GrW.fresh (g : GrW m F H F' H') (h : H' p = none) : H p = none := by
  cases q : H p with
  | none => rfl
  | some u =>
    have := g.hh p u (g.inv.nw h) q
    rw [h] at this; cases this
theorem GrW.trans (a : GrW m F H F' H') (b : GrW m F' H' F2 H2) : GrW m F H F2 H2 where
  hh := fun x o w e => b.hh x o w (a.hh x o w e)
  ff := a.ff.trans b.ff
  sub := b.sub
  new := fun x o e => by
    rcases b.new x o e with q | q
    · exact a.new x o q
    · exact .inr (a.fresh q)
  inv := b.inv
theorem GrW.own (g : GrW m F H F' H') (h : H p = some o) (n : F p = none) (w : ¬ m.W p) : H' p = some o ∧ F' p = none := by
  refine ⟨g.hh _ _ w h, ?_⟩
  cases q : F' p with
  | none => rfl
  | some u =>
    rcases g.new p u q with z | z
    · rw [z] at n; cases n
    · rw [z] at h; cases h
theorem GrW.freeze (g : GrW m F H F' H') (hp : H p = none) (n : F' p = none) (h : H' p = some o) (w : ¬ m.W p) : GrW m F H (upd F' p o) H' where
  hh := g.hh
  ff := g.ff.trans (.new n)
  sub := fun a u e => by
    by_cases q : a = p
    · subst q; rw [upd_same] at e; rw [h]; exact e
    · rw [upd_ne q] at e; exact g.sub _ _ e
  new := fun a u e => by
    by_cases q : a = p
    · subst q; exact .inr hp
    · rw [upd_ne q] at e; exact g.new _ _ e
  inv := ⟨fun a wa => by
    have : a ≠ p := fun z => w (z ▸ wa)
    rw [upd_ne this]; exact g.inv.out a wa, g.inv.st⟩
/-- an object of our own is written -/
theorem Mu.I.put (i : m.I F H) (w : ¬ m.W p) : m.I F (upd H p o) := ⟨i.out, m.stab i.st fun a u wa e => by
  have : a ≠ p := fun z => w (z ▸ wa)
  rw [upd_ne this]; exact e⟩
theorem GrW.put (g : GrW m F H F' H') (hp : H p = none) (n : F' p = none) (w : ¬ m.W p) : GrW m F H F' (upd H' p o) where
  hh := fun a u wa e => by
    rw [upd_ne (ne_of_none e hp)]
    exact g.hh a u wa e
  ff := g.ff
  sub := g.sub.mut n
  new := g.new
  inv := g.inv.put w
/-- the union of two told parts -/
def un (F F' : Hp) : Hp := fun a => match F a with | some o => some o | none => F' a
theorem un_l : Ex F (un F F') := fun b o hb => by simp [un, hb]
theorem un_r (e1 : Ex F H) (e2 : Ex F' H) : Ex F' (un F F') := fun b o hb => by
  show (match F b with | some o => some o | none => F' b) = some o
  cases q1 : F b with
  | none => exact hb
  | some u =>
    have z1 := e1 _ _ q1
    have z2 := e2 _ _ hb
    rw [z1] at z2; cases z2; rfl
theorem GrW.un (x : Ex F F2) (a : Ex F2 H) (i : m.I F2 H) (g : GrW m F H F' H') : GrW m F2 H (un F2 F') H' ∧ Ex F' (un F2 F') := by
  have e2 : Ex F2 H' := fun b o hb => g.hh b o (fun w => by rw [i.out b w] at hb; cases hb) (a _ _ hb)
  refine ⟨⟨g.hh, un_l, fun b o hb => ?_, fun b o hb => ?_, fun b w => ?_, g.inv.st⟩, un_r e2 g.sub⟩
  · unfold Dr.un at hb
    cases q1 : F2 b with
    | some u => simp [q1] at hb; subst hb; exact e2 _ _ q1
    | none => simp [q1] at hb; exact g.sub _ _ hb
  · unfold Dr.un at hb
    cases q1 : F2 b with
    | some u => simp [q1] at hb; subst hb; exact .inl rfl
    | none =>
      simp [q1] at hb
      rcases g.new _ _ hb with z | z
      · rw [x _ _ z] at q1; cases q1
      · exact .inr z
  · unfold Dr.un
    rw [i.out b w, g.inv.out b w]
theorem Mu.I.anti (i : m.I F2 H) (x : Ex F F2) : m.I F H := ⟨fun a w => x.fresh (i.out a w), i.st⟩
end

/-! ### evaluation beside a mutable part -/
section
variable (K : Kw) (m : Mu)
def EvW (te : TE) (σ : L2.St) (F : Hp) (P : D → Prop) : Prop := ∀ H, Ex F H → m.I F H → ∀ Q : VK, (∀ d v F' H', P d → GrW m F H F' H' → Rep K F' v d → Q v H') → te σ H Q
def EvBW (_ : Kw) (m : Mu) (tt : TT) (σ : L2.St) (F : Hp) (P : Bool → Prop) : Prop := ∀ H, Ex F H → m.I F H → ∀ Q : Bool → Hp → Prop, (∀ b F' H', P b → GrW m F H F' H' → Q b H') → tt σ H Q
def EvAW (ta : TA) (σ : L2.St) (F : Hp) (P : List D → Prop) : Prop := ∀ H, Ex F H → m.I F H → ∀ Q : List V → Hp → Prop, (∀ ds vs F' H', P ds → GrW m F H F' H' → Reps K F' vs ds → Q vs H') → ta σ H Q
def EvLW (te : TE) (σ : L2.St) (F : Hp) (P : List D → Prop) : Prop := ∀ H, Ex F H → m.I F H → ∀ Q : VK, (∀ rs p vs F' H', P rs → GrW m F H F' H' → H p = none → F' p = none → H' p = some (.lst vs) → Reps K F' vs rs → Q (.ref p) H') → te σ H Q
def EvPW (trs : List (TE × TE)) (σ : L2.St) (F : Hp) (P : List (Key × D) → Prop) : Prop := ∀ H, Ex F H → m.I F H → ∀ Q : List (V × V) → Hp → Prop, (∀ ds kvs F' H', P ds → GrW m F H F' H' → RepK K F' kvs ds → Q (kvs.map fun kv => (kV kv.1, kv.2)) H') → tPairs trs σ H Q
end
section
variable {K : Kw} {m : Mu} {σ : L2.St} {F F2 : Hp} {te ta tb tk tv : TE} {tt : TT} {tl : TA} {d : D} {ds : List D} {P P' : D → Prop} {trs : List (TE × TE)}
theorem EvW.mono (h : EvW K m te σ F P) (x : Ex F F2) : EvW K m te σ F2 P := fun H a i Q q => h H (x.trans a) (i.anti x) Q fun d v F' H' pd g r => by
  obtain ⟨g', e⟩ := g.un x a i
  exact q d v _ H' pd g' (r.mono e)
theorem EvBW.mono {P : Bool → Prop} (h : EvBW K m tt σ F P) (x : Ex F F2) : EvBW K m tt σ F2 P := fun H a i Q q => h H (x.trans a) (i.anti x) Q fun b F' H' pd g => by
  obtain ⟨g', e⟩ := g.un x a i
  exact q b _ H' pd g'
theorem EvAW.mono {P : List D → Prop} (h : EvAW K m tl σ F P) (x : Ex F F2) : EvAW K m tl σ F2 P := fun H a i Q q => h H (x.trans a) (i.anti x) Q fun d v F' H' pd g r => by
  obtain ⟨g', e⟩ := g.un x a i
  exact q d v _ H' pd g' (r.mono e)
theorem EvPW.mono {P : List (Key × D) → Prop} (h : EvPW K m trs σ F P) (x : Ex F F2) : EvPW K m trs σ F2 P := fun H a i Q q => h H (x.trans a) (i.anti x) Q fun d v F' H' pd g r => by
  obtain ⟨g', e⟩ := g.un x a i
  exact q d v _ H' pd g' (r.mono e)
theorem ew_of (h : EvD K te σ F d) : EvW K m te σ F (· = d) := fun H x i Q q => h H x Q fun v F' H' g r => q d v F' H' rfl (g.w i) r
theorem EvW.imp (h : EvW K m te σ F P) (hp : ∀ d, P d → P' d) : EvW K m te σ F P' := fun H x i Q q => h H x i Q fun d v F' H' pd g r => q d v F' H' (hp d pd) g r
theorem ew_op {f : D → D → D → Prop} {P1 P2 : D → Prop} (ha : EvW K m ta σ F P1) (hb : EvW K m tb σ F P2) (hf : ∀ d e, P1 d → P2 e → ∃ r, f d e r ∧ P r) : EvW K m (tOp (rP2 K f) ta tb) σ F P := fun H x i Q q =>
  ha H x i _ fun d v F1 H1 p1 g1 i1 => (hb.mono g1.ff) H1 g1.sub g1.inv _ fun e w F2 H2 p2 g2 i2 => by
    obtain ⟨r, h, pr⟩ := hf d e p1 p2
    exact ⟨F2, d, e, r, g2.sub, i1.mono g2.ff, i2, h, fun z F3 H3 g3 i3 => q r z F3 H3 pr ((g1.trans g2).trans (g3.w g2.inv)) i3⟩
theorem eaw_of (h : EvA K tl σ F ds) : EvAW K m tl σ F (· = ds) := fun H x i Q q => h H x Q fun v F' H' g r => q ds v F' H' rfl (g.w i) r
theorem eaw_cons {P1 : D → Prop} {P2 : List D → Prop} (ha : EvW K m ta σ F P1) (hb : EvAW K m tl σ F P2) : EvAW K m (tCons ta tl) σ F (fun xs => ∃ d es, P1 d ∧ P2 es ∧ xs = d :: es) := fun H x i Q q =>
  ha H x i _ fun d v F1 H1 p1 g1 i1 => (hb.mono g1.ff) H1 g1.sub g1.inv _ fun es vs F2 H2 p2 g2 i2 => q (d :: es) (v :: vs) F2 H2 ⟨d, es, p1, p2, rfl⟩ (g1.trans g2) (.cons (i1.mono g2.ff) i2)
theorem ew_cb {f : List D → D → Prop} {Pa : List D → Prop} (h : EvAW K m tl σ F Pa) (hf : ∀ ds, Pa ds → ∃ r, f ds r ∧ P r) : EvW K m (tCB (rPn K f) tl) σ F P := fun H x i Q q =>
  h H x i _ fun ds vs F1 H1 p1 g1 i1 => by
    obtain ⟨r, hr, pr⟩ := hf ds p1
    exact ⟨F1, ds, r, g1.sub, i1, hr, fun v F2 H2 g2 i2 => q r v F2 H2 pr (g1.trans (g2.w g1.inv)) i2⟩
/-- the promise of a def that changes the mutable part -/
def spW (K : Kw) (n : Nat) (f : Mu → List D → (D → Prop) → Prop) : Sp := fun xs H Q _ => ∃ m F ds P, Ex F H ∧ m.I F H ∧ Reps K F xs ds ∧ ds.length = n ∧ f m ds P ∧ ∀ d v F' H', P d → GrW m F H F' H' → Rep K F' v d → Q v H'
theorem spW_len {n : Nat} {f : Mu → List D → (D → Prop) → Prop} (vs : List V) (H : Hp) (Q : VK) (E : XK) (h : spW K n f vs H Q E) : vs.length = n := by
  obtain ⟨m, F, ds, P, _, _, hr, hn, _⟩ := h
  rw [hr.length]; exact hn
theorem ew_call {n : Nat} {f : Mu → List D → (D → Prop) → Prop} {E : XK} {Pa : List D → Prop} (h : EvAW K m tl σ F Pa) (hf : ∀ ds, Pa ds → f m ds P) (hn : ∀ ds, Pa ds → ds.length = n) : EvW K m (tCall (spW K n f) [] E tl) σ F P := fun H x i Q q =>
  h H x i _ fun ds vs F1 H1 p1 g1 i1 => ⟨m, F1, ds, P, g1.sub, g1.inv, by rw [List.append_nil]; exact i1, hn ds p1, hf ds p1, fun d v F2 H2 pd g2 i2 => q d v F2 H2 pd (g1.trans g2) i2⟩
theorem ew_callD {n : Nat} {f : Mu → List D → (D → Prop) → Prop} {E : XK} (h : EvA K tl σ F ds) (hf : f m ds P) (hn : ds.length = n := by rfl) : EvW K m (tCall (spW K n f) [] E tl) σ F P :=
  ew_call (eaw_of h) (fun _ e => e ▸ hf) (fun _ e => e ▸ hn)
theorem ebw_test {P : Bool → Prop} {P1 : D → Prop} (h : EvW K m te σ F P1) (hp : ∀ d, P1 d → ∃ b, d = .bl b ∧ P b) : EvBW K m (tTest te) σ F P := fun H x i Q q => h H x i _ fun d v F' H' pd g r => by
  obtain ⟨b, rfl, pb⟩ := hp d pd
  exact ⟨b, r.val, q b F' H' pb g⟩
theorem ebw_B {P : Bool → Prop} {P1 : D → Prop} (h : EvW K m te σ F P1) (hp : ∀ d, P1 d → ∃ b, d = .bl b ∧ P b) : EvBW K m (tB te) σ F P := fun H x i Q q => h H x i _ fun d v F' H' pd g r => by
  obtain ⟨b, rfl, pb⟩ := hp d pd
  exact ⟨b, r.val, q b F' H' pb g⟩
theorem ebw_of {b : Bool} (h : EvB K tt σ F b) : EvBW K m tt σ F (· = b) := fun H x i Q q => h H x Q fun F' H' g => q b F' H' rfl (g.w i)
theorem EvLW.ew {P : List D → Prop} (h : EvLW K m te σ F P) : EvW K m te σ F (fun d => ∃ rs, d = .lst rs ∧ P rs) := fun H x i Q q => h H x i Q fun rs p vs F' H' pr g hp n hl r =>
  q _ _ _ _ ⟨rs, rfl, pr⟩ (g.freeze hp n hl fun w => by
    obtain ⟨o, e⟩ := m.dom i.st w
    rw [hp] at e; cases e) (.lst upd_same (r.mono (.new n)))
/-! dict displays -/
theorem epw_nil : EvPW K m [] σ F (· = []) := fun H x i Q q => q [] [] F H rfl ((Gr.refl x).w i) .nil
theorem epw_cons {k : Key} {P1 : D → Prop} {P2 : List (Key × D) → Prop} (hk : EvD K tk σ F (.v (kV k))) (hv : EvW K m tv σ F P1) (hr : EvPW K m trs σ F P2) : EvPW K m ((tk, tv) :: trs) σ F (fun ps => ∃ d es, P1 d ∧ P2 es ∧ ps = (k, d) :: es) := fun H x i Q q =>
  hk H x _ fun y F1 H1 g1 i1 => (hv.mono g1.ff) H1 g1.sub (g1.w i).inv _ fun d z F2 H2 p2 g2 i2 => (hr.mono (g1.ff.trans g2.ff)) H2 g2.sub g2.inv _ fun es kvs F3 H3 p3 g3 i3 => by
    have e := i1.val
    subst e
    exact q _ ((k, z) :: kvs) F3 H3 ⟨d, es, p2, p3, rfl⟩ (((g1.w i).trans g2).trans g3) (.cons (i2.mono g3.ff) i3)
theorem ew_disp {P : List (Key × D) → Prop} (h : EvPW K m trs σ F P) (hz : ∀ ps, P ps → ps.length ≤ 15 ∧ (ps.map (·.1)).Nodup) :
    ∀ H, Ex F H → m.I F H → ∀ Q : VK, (∀ ps p kvs F' H', P ps → GrW m F H F' H' → H p = none → F' p = none → H' p = some (.dK kvs) → RepK K F' kvs ps → Q (.ref p) H') → tDisp trs σ H Q := fun H x i Q q p hp => by
  have wp := i.nw hp
  refine h (upd H p (.dK [])) (x.trans (.new hp)) (i.put wp) _ fun ps kvs F1 H1 pp g1 i1 => ?_
  have n1 : F p = none := x.fresh hp
  obtain ⟨h1, n2⟩ := g1.own upd_same n1 wp
  obtain ⟨hz1, hn⟩ := hz ps pp
  have hm : mergeK [] kvs = kvs := by
    have := merge_nil kvs [] (by rw [List.nil_append, i1.keys]; exact hn)
    simpa using this
  refine ⟨h1, kvs, rfl, by rw [i1.length]; exact hz1, ?_⟩
  rw [hm]
  refine q ps p kvs F1 _ pp ⟨fun a o wa e => ?_, g1.ff, g1.sub.mut n2, fun a o e => ?_, g1.inv.put wp⟩ hp n2 upd_same i1
  · rw [upd_ne (ne_of_none e hp)]
    exact g1.hh _ _ wa (by rw [upd_ne (ne_of_none e hp)]; exact e)
  · rcases g1.new a o e with z | z
    · exact .inl z
    · by_cases qa : a = p
      · subst qa; rw [n2] at e; cases e
      · rw [upd_ne qa] at z; exact .inr z
/-! a comprehension -/
def Pick (R : D → Option D → Prop) (ds rs : List D) : Prop := ∃ os : List (Option D), os.length = ds.length ∧ (∀ (i : Nat) (x : D) (o : Option D), ds[i]? = some x → os[i]? = some o → R x o) ∧ rs = os.filterMap id
theorem Pick.snoc {R : D → Option D → Prop} {i : Nat} {x : D} {rs : List D} {o : Option D} (h : Pick R (ds.take i) rs) (hx : ds[i]? = some x) (ho : R x o) : Pick R (ds.take (i + 1)) (rs ++ o.toList) := by
  obtain ⟨os, h1, h2, rfl⟩ := h
  have hi : i < ds.length := by
    rcases Nat.lt_or_ge i ds.length with z | z
    · exact z
    · rw [List.getElem?_eq_none z] at hx; cases hx
  have l1 : os.length = i := by rw [h1, List.length_take]; omega
  refine ⟨os ++ [o], by simp [l1]; omega, fun j y u hj hu => ?_, by rw [List.filterMap_append]; cases o <;> simp⟩
  rw [List.getElem?_take] at hj
  split at hj
  · rename_i hji
    rcases Nat.lt_or_ge j i with z | z
    · rw [List.getElem?_append_left (by omega)] at hu
      exact h2 j y u (by rw [List.getElem?_take, if_pos z]; exact hj) hu
    · have e : j = i := by omega
      subst e
      rw [hx] at hj; cases hj
      rw [List.getElem?_append_right (by omega), l1] at hu
      simp at hu; subst hu; exact ho
  · cases hj
theorem Pick.zero {R : D → Option D → Prop} : Pick R (ds.take 0) [] := ⟨[], by simp, fun i x o h => by simp at h, rfl⟩
theorem Pick.le {R : D → Option D → Prop} {rs : List D} (h : Pick R ds rs) : rs.length ≤ ds.length := by
  obtain ⟨os, h1, _, rfl⟩ := h
  rw [← h1]; exact List.length_filterMap_le _ _
theorem el_lcW {wi : TI} {g : TG} {vs : List Nat} (hl : IterD K wi σ F ds) (hz : ds.length < sizeLine) (R : D → Option D → Prop)
    (hs : ∀ x ∈ ds, ∀ v F' H', Ex F F' → Ex F' H' → Rep K F' v x → EvG g v (wipe σ vs) H' fun σ2 => wipe σ2 vs = wipe σ vs ∧ EvBW K m tt σ2 F' (fun b => if b = true then EvW K m te σ2 F' (fun r => R x (some r)) else R x none)) :
    EvLW K m (tLc wi g tt te vs) σ F (Pick R ds) := fun H x i Q q => hl H x _ fun J F1 H1 g1 ok => by
  intro L hL
  have wL : ¬ m.W L := (g1.w i).inv.nw hL
  have g1w := g1.w i
  refine ⟨fun j k H' => k = ds.length - j ∧ j ≤ ds.length ∧ ∃ F' xs rs, GrW m F H F' H' ∧ Ex F1 F' ∧ F' L = none ∧ H' L = some (.lst xs) ∧ Reps K F' xs rs ∧ Pick R (ds.take j) rs,
    ⟨ds.length, by simp, Nat.zero_le _, F1, [], [], g1w.put (g1.hh.fresh hL) (g1.sub.fresh hL) wL, .refl _, g1.sub.fresh hL, upd_same, .nil, .zero⟩, ?_⟩
  rintro j k H' ⟨rfl, hj, F', xs, rs, g2, e2, n2, h2, r2, pk⟩
  have hH : H L = none := g1.hh.fresh hL
  by_cases hlt : j < ds.length
  · refine .inr ⟨ok.go j H' hlt (e2.trans g2.sub), fun H3 => ∃ F' xs rs, GrW m F H F' H3 ∧ Ex F1 F' ∧ F' L = none ∧ H3 L = some (.lst xs) ∧ Reps K F' xs rs ∧ Pick R (ds.take (j + 1)) rs, fun H3 p3 => ⟨ds.length - (j + 1), by omega, rfl, hlt, p3⟩, fun y H'' hy => ?_⟩
    obtain ⟨d, F3, hd, g3, r3⟩ := ok.yld j H' y H'' F' hlt e2 g2.sub hy
    have g3w := g3.w g2.inv
    obtain ⟨h3, n3⟩ := g3w.own h2 n2 wL
    refine hs d (List.mem_of_getElem? hd) y F3 H'' (g1.ff.trans (e2.trans g3.ff)) g3.sub r3 _ fun σ2 ⟨w2, b2⟩ => ⟨w2, b2 H'' g3.sub g3w.inv _ fun b F4 H4 pb g4 => ?_⟩
    obtain ⟨h4, n4⟩ := g4.own h3 n3 wL
    have g24 := (g2.trans g3w).trans g4
    cases b with
    | false =>
      rw [if_neg (by simp)] at pb ⊢
      exact ⟨F4, xs, rs, g24, e2.trans (g3.ff.trans g4.ff), n4, h4, r2.mono (g3.ff.trans g4.ff), by simpa using pk.snoc hd pb⟩
    | true =>
      rw [if_pos rfl] at pb ⊢
      refine (pb.mono g4.ff) H4 g4.sub g4.inv _ fun r z F5 H5 pr g5 i5 => ?_
      obtain ⟨h5, n5⟩ := g5.own h4 n4 wL
      have lz : xs.length < sizeLine := by
        have l1 := r2.length
        have l2 := pk.le
        rw [List.length_take] at l2
        omega
      refine ⟨xs, h5, lz, F5, xs ++ [z], rs ++ [r], (g24.trans g5).put hH n5 wL, e2.trans (g3.ff.trans (g4.ff.trans g5.ff)), n5, upd_same, (r2.mono (g3.ff.trans (g4.ff.trans g5.ff))).append (.cons i5 .nil), by simpa using pk.snoc hd pr⟩
  · have e : j = ds.length := by omega
    subst e
    rw [List.take_length] at pk
    exact .inl ⟨ok.stop _ H' rfl (e2.trans g2.sub), q rs L xs F' H' pk g2 hH n2 h2 r2⟩
end
/-! ### statements beside a mutable part -/
section
variable {K : Kw} {m : Mu} {σ : L2.St} {F H : Hp} {te to ti : TE} {tt : TT} {g : TG} {P : D → Prop} {DE : Ends} {tu tw tz tb : TS}
theorem s_asgW {i : Nat} (he : EvW K m te σ F P) (sub : Ex F H) (iv : m.I F H) (k : ∀ d v F' H', P d → GrW m F H F' H' → Rep K F' v d → DE.nx (σ.set i (some v)) H') : tAsg te (gName i) DE σ H := he H sub iv _ fun d v F' H' p g r => k d v F' H' p g r
theorem q_asgW {i : Nat} (he : EvW K m te σ F P) (sub : Ex F H) (iv : m.I F H) (k : ∀ d v F' H', P d → GrW m F H F' H' → Rep K F' v d → tz DE (σ.set i (some v)) H') : tSeq (tAsg te (gName i)) tz DE σ H := s_asgW (DE := { DE with nx := tz DE }) he sub iv k
theorem s_retW (he : EvW K m te σ F P) (sub : Ex F H) (iv : m.I F H) (k : ∀ d v F' H', P d → GrW m F H F' H' → Rep K F' v d → DE.rt v H') : tRet te DE σ H := he H sub iv _ k
/-- d[k] = e: a dict of our own -/
theorem s_putW {j : Nat} {p : Addr} {kvs : List (Key × V)} {k : Key} (he : EvW K m te σ F P) (ho : σ[j]? = some (some (.ref p))) (hi : EvD K ti σ F (.v (kV k))) (sub : Ex F H) (iv : m.I F H) (hp : H p = some (.dK kvs)) (n : F p = none) (w : ¬ m.W p) (hz : kvs.length < sizeLine)
    (kk : ∀ d v F' H', P d → GrW m F H F' H' → Rep K F' v d → H' p = some (.dK kvs) → F' p = none → DE.nx σ (upd H' p (.dK (putK kvs k v)))) : tAsg te (gSub (tVar j) ti (rSetD K)) DE σ H := he H sub iv _ fun d v F1 H1 pd g1 r1 => ⟨_, ho, (hi.mono g1.ff) H1 g1.sub _ fun y F2 H2 g2 i2 => by
    have e := i2.val
    subst e
    have g12 := g1.trans (g2.w g1.inv)
    obtain ⟨h2, n2⟩ := g12.own hp n w
    exact .inr ⟨p, _, rfl, .k h2 hz, kk d v F2 H2 pd g12 (r1.mono g2.ff) h2 n2⟩⟩
theorem q_putW {j : Nat} {p : Addr} {kvs : List (Key × V)} {k : Key} (he : EvW K m te σ F P) (ho : σ[j]? = some (some (.ref p))) (hi : EvD K ti σ F (.v (kV k))) (sub : Ex F H) (iv : m.I F H) (hp : H p = some (.dK kvs)) (n : F p = none) (w : ¬ m.W p) (hz : kvs.length < sizeLine)
    (kk : ∀ d v F' H', P d → GrW m F H F' H' → Rep K F' v d → H' p = some (.dK kvs) → F' p = none → tz DE σ (upd H' p (.dK (putK kvs k v)))) : tSeq (tAsg te (gSub (tVar j) ti (rSetD K))) tz DE σ H := s_putW (DE := { DE with nx := tz DE }) he ho hi sub iv hp n w hz kk
end
end Dr
namespace Dr
open PySem PySem.Spec PyProof.Rows L2

/-! ### an object that is written: its own part -/
/-- one object that is written -/
def objM (x : Addr) : Mu where
  W := fun a => a = x
  J := fun H => ∃ o, H x = some o
  dom := fun h w => by subst w; exact h
  stab := fun ⟨o, h⟩ k => ⟨o, k _ _ rfl h⟩
theorem objM.i {F H : Hp} {x : Addr} {o : HO} (n : F x = none) (h : H x = some o) : (objM x).I F H := ⟨fun a w => by rw [show a = x from w]; exact n, o, h⟩
theorem GrW.put1 {F H F' H' : Hp} {x : Addr} {o : HO} (g : GrW (objM x) F H F' H') : GrW (objM x) F H F' (upd H' x o) where
  hh := fun a u w e => by
    have q : a ≠ x := w
    rw [upd_ne q]; exact g.hh a u w e
  ff := g.ff
  sub := g.sub.mut (g.inv.out x rfl)
  new := g.new
  inv := ⟨g.inv.out, o, upd_same⟩
/-- the promise of an __init__ -/
def spInit (K : Kw) (C : Addr) (n : Nat) (f : List D → List (Str × D) → Prop) : Sp := fun xs H Q _ => ∃ x dx vs F ds fs, xs = .ref x :: vs ∧ Ex F H ∧ F x = none ∧ H x = some (.ins C dx []) ∧ Reps K F vs ds ∧ ds.length = n ∧ f ds fs ∧
  ∀ F' H' dx' gs, GrW (objM x) F H F' H' → H' x = some (.ins C dx' gs) → RepF K F' gs fs → Q .non H'
theorem spInit_len {K : Kw} {C : Addr} {n : Nat} {f : List D → List (Str × D) → Prop} (vs : List V) (H : Hp) (Q : VK) (E : XK) (h : spInit K C n f vs H Q E) : vs.length = n + 1 := by
  obtain ⟨x, dx, ws, F, ds, fs, rfl, _, _, _, hr, hn, _⟩ := h
  rw [List.length_cons, hr.length, hn]
section
variable {K : Kw} {σ : L2.St} {F H : Hp} {tl : TA} {tv : TE} {ds : List D} {d : D} {DE : Ends} {tz : TS}
theorem ev_make {C : Addr} {n : Nat} {f : List D → List (Str × D) → Prop} {fs : List (Str × D)} {E : XK} (h : EvA K tl σ F ds) (hf : f ds fs) (hn : ds.length = n := by rfl) : EvD K (tMake C (spInit K C n f) [] E tl) σ F (.ins C fs) := fun H x Q q =>
  h H x _ fun vs F1 H1 g1 i1 y dx hy hdx hne => by
    have n1 : F1 y = none := g1.sub.fresh hy
    have e1 : Ex H1 (upd (upd H1 dx (.own y)) y (.ins C dx [])) := (Ex.new hdx).trans (.new (by rw [upd_ne (fun z => hne z.symm)]; exact hy))
    refine ⟨y, dx, vs, F1, ds, fs, by rw [List.append_nil], g1.sub.trans e1, n1, upd_same, i1, hn, hf, fun F2 H2 dx' gs g2 h2 r2 => ⟨rfl, ?_⟩⟩
    have n2 : F2 y = none := g2.inv.out y rfl
    have hH : H y = none := g1.hh.fresh hy
    refine q _ (upd F2 y (.ins C dx' gs)) H2 ⟨fun a o e => g2.hh a o (fun z => by rw [show a = y from z] at e; rw [hH] at e; cases e) (e1 _ _ (g1.hh _ _ e)), (g1.ff.trans g2.ff).trans (.new n2), fun a o e => ?_, fun a o e => ?_⟩ (.ins upd_same (r2.mono (.new n2)))
    · by_cases z : a = y
      · subst z; rw [upd_same] at e; rw [h2]; exact e
      · rw [upd_ne z] at e; exact g2.sub _ _ e
    · by_cases z : a = y
      · subst z; exact .inr hH
      · rw [upd_ne z] at e
        rcases g2.new _ _ e with w | w
        · exact g1.new _ _ w
        · right
          have : H1 a = none := by
            cases q1 : H1 a with
            | none => rfl
            | some u => rw [e1 _ _ q1] at w; cases w
          exact g1.hh.fresh this
theorem RepF.append {vs ws : List (Str × V)} {fs es : List (Str × D)} (h : RepF K F vs fs) (g : RepF K F ws es) : RepF K F (vs ++ ws) (fs ++ es) := by
  induction fs generalizing vs with
  | nil => cases h; exact g
  | cons d ds ih => cases h with | cons h r => exact .cons h (ih r)
theorem putF_new {f : Str} {y : V} : ∀ {gs : List (Str × V)}, gs.lookup f = none → putF f y gs = gs ++ [(f, y)]
  | [], _ => rfl
  | (k, v) :: r, h => by
    rw [List.lookup_cons] at h
    split at h
    · cases h
    · rename_i hk
      have hk' : ¬ k = f := fun z => by subst z; simp at hk
      unfold putF
      simp [hk', putF_new h]
/-- self.f = e, a new field -/
theorem q_fld {C x dx : Addr} {f : Str} {j : Nat} {gs : List (Str × V)} {fs : List (Str × D)} (hv : EvD K tv σ F d) (hj : σ[j]? = some (some (.ref x))) (sub : Ex F H) (hx : H x = some (.ins C dx gs)) (n : F x = none) (hc : Cls K.K C) (ha : NoAttr K.K C f) (hr : RepF K F gs fs) (hl : fs.lookup f = none) (hz : fs.length < 1000)
    (k : ∀ v F' H', Gr F H F' H' → H' x = some (.ins C dx gs) → F' x = none → RepF K F' (gs ++ [(f, v)]) (fs ++ [(f, d)]) → DE.nx σ (upd H' x (.ins C dx (gs ++ [(f, v)])))) : sFld K.K (tVar j) tv f DE σ H := hv H sub _ fun v F1 H1 g1 i1 => by
  obtain ⟨h1, n1⟩ := g1.own hx n
  refine ⟨_, hj, x, C, dx, gs, rfl, h1, hc, ha, by rw [hr.length]; exact hz, ?_⟩
  rw [putF_new (hr.look_none hl)]
  exact k v F1 H1 g1 h1 n1 ((hr.mono g1.ff).append (.cons i1 .nil))
theorem qs_fld {C x dx : Addr} {f : Str} {j : Nat} {gs : List (Str × V)} {fs : List (Str × D)} (hv : EvD K tv σ F d) (hj : σ[j]? = some (some (.ref x))) (sub : Ex F H) (hx : H x = some (.ins C dx gs)) (n : F x = none) (hc : Cls K.K C) (ha : NoAttr K.K C f) (hr : RepF K F gs fs) (hl : fs.lookup f = none) (hz : fs.length < 1000)
    (k : ∀ v F' H', Gr F H F' H' → H' x = some (.ins C dx gs) → F' x = none → RepF K F' (gs ++ [(f, v)]) (fs ++ [(f, d)]) → tz DE σ (upd H' x (.ins C dx (gs ++ [(f, v)])))) : tSeq (sFld K.K (tVar j) tv f) tz DE σ H := q_fld (DE := { DE with nx := tz DE }) hv hj sub hx n hc ha hr hl hz k
end

/-! ### books -/
structure Bk where
  n : Int
  ws : List Int
  cap : Int
  aw : Str
  bk : Str
  jo : Str
  sw : Str
  ti : Str
  words : List Str
def sDS : List Str := ["counted", "passed"]
def sKLM : List Str := ["kept", "least", "mean"]
def sMS : List Str := ["moves", "stays"]
def sRT : List Str := ["row", "turn"]
structure Bk.Ok (b : Bk) : Prop where
  n : b.n = 2 ∨ b.n = 3
  ws : b.ws ∈ ([[1], [2], [1, 2], [1, 3], [3], [2, 3]] : List (List Int))
  c1 : 1 ≤ b.cap
  c2 : b.cap ≤ 4
  aw : b.aw ∈ sDS
  bk : b.bk ∈ sKLM
  jo : b.jo ∈ sKLM
  sw : b.sw ∈ sMS
  ti : b.ti ∈ sRT
  words : b.words ∈ ([[], ["away"], ["leave"], ["swap"], ["away", "leave"], ["away", "swap"], ["leave", "swap"], ["away", "leave", "swap"]] : List (List Str))
def strsD (xs : List Str) : D := .tup (xs.map D.str)
def intsD (xs : List Int) : D := .tup (xs.map D.int)
def Bk.rule (b : Bk) : List (Key × D) := [(.inr "away", .str b.aw), (.inr "back", .str b.bk), (.inr "join", .str b.jo), (.inr "swap", .str b.sw), (.inr "ties", .str b.ti)]
def Bk.args (b : Bk) : List D := [.int b.n, intsD b.ws, .int b.cap, .dct b.rule, strsD b.words]
def Bk.fs (b : Bk) : List (Str × D) := [("many", .int b.n), ("loads", intsD b.ws), ("most", .int b.cap), ("manner", .dct b.rule), ("deed_words", strsD b.words)]
def bookD (A : Str → Addr) (b : Bk) : D := .ins (A "Book") b.fs
def drawnK (b : Bk) : List (Key × D) := [(.inr "people", .int b.n), (.inr "rule", .dct b.rule), (.inr "weights", intsD b.ws), (.inr "cap", .int b.cap), (.inr "words", strsD b.words)]
def drawnD (b : Bk) : D := .dct (drawnK b)
def POINTSd : List (Key × D) := [(.inr "away", strsD sDS), (.inr "back", strsD sKLM), (.inr "join", strsD sKLM), (.inr "swap", strsD sMS), (.inr "ties", strsD sRT)]
def pointsL : List Str := ["away", "back", "join", "swap", "ties"]
structure TxPoints (A : Str → Addr) (K : Kw) : Prop where
  p : ∃ kvs, KdAt K (A "POINTS") kvs ∧ ∀ F, RepK K F kvs POINTSd
structure TxBook (A : Str → Addr) (K : Kw) : Prop where
  c : Cls K.K (A "Book")
  a : ∀ f ∈ (["many", "loads", "most", "manner", "deed_words"] : List Str), NoAttr K.K (A "Book") f
theorem Bk.get (b : Bk) : dkGet b.rule (.inr "away") = some (.str b.aw) ∧ dkGet b.rule (.inr "back") = some (.str b.bk) ∧ dkGet b.rule (.inr "join") = some (.str b.jo) ∧ dkGet b.rule (.inr "swap") = some (.str b.sw) ∧ dkGet b.rule (.inr "ties") = some (.str b.ti) := ⟨rfl, rfl, rfl, rfl, rfl⟩
theorem drawn_get (b : Bk) : dkGet (drawnK b) (.inr "people") = some (.int b.n) ∧ dkGet (drawnK b) (.inr "rule") = some (.dct b.rule) ∧ dkGet (drawnK b) (.inr "weights") = some (intsD b.ws) ∧ dkGet (drawnK b) (.inr "cap") = some (.int b.cap) ∧ dkGet (drawnK b) (.inr "words") = some (strsD b.words) := ⟨rfl, rfl, rfl, rfl, rfl⟩
theorem book_get (b : Bk) : b.fs.lookup ("many" : Str) = some (.int b.n) ∧ b.fs.lookup ("loads" : Str) = some (intsD b.ws) ∧ b.fs.lookup ("most" : Str) = some (.int b.cap) ∧ b.fs.lookup ("manner" : Str) = some (.dct b.rule) ∧ b.fs.lookup ("deed_words" : Str) = some (strsD b.words) := ⟨rfl, rfl, rfl, rfl, rfl⟩

/-! ### texts in tuples; deeds -/
theorem inD_strs {neg : Bool} {x : Str} {ws : List Str} (hx : PyData.strOk x = true) (hw : ∀ w ∈ ws, PyData.strOk w = true) : InD neg (.str x) (strsD ws) (.bl (neg ^^ ws.any (· == x))) := by
  have e : ws.map D.str = (ws.map V.str).map D.v := by rw [List.map_map]; rfl
  have h := InD.tup (neg := neg) (.str x) (ws.map V.str) hx (flat_strs hw)
  rw [← e, memD_strs] at h
  exact h
def dd (w : Str) (d : D) : D := .tup [.str w, d]
def wordTab : List (Str × List Str) := [("away", ["away", "back"]), ("leave", ["join", "leave"]), ("swap", ["swap"])]
def wordDeeds (b : Bk) (p : Str × List Str) : List D := if b.words.any (· == p.1) = true then p.2.flatMap fun w => (rngD 0 b.n.toNat).map (dd w) else []
def shiftsD (b : Bk) : List D := (rngD 0 b.ws.length).map (dd "shift")
def deedsRaw (b : Bk) : List D := shiftsD b ++ wordTab.flatMap (wordDeeds b)
def deedsOf (b : Bk) : List D := (deedsRaw b).mergeSort leD
def DeedLike (d : D) : Prop := ∃ w k, d = .tup [.str w, .int k] ∧ PyData.strOk w = true
theorem alike_deed {d e : D} (h : DeedLike d) (g : DeedLike e) : PySem.W.alike (pyD d) (pyD e) = true := by
  obtain ⟨w, k, rfl, _⟩ := h
  obtain ⟨u, j, rfl, _⟩ := g
  simp [pyD, pyDs, PySem.W.alike, PySem.W.alikeAll]
theorem flat_deed {d : D} {n : Nat} (h : DeedLike d) : flatD (n + 1) d = true := by
  obtain ⟨w, k, rfl, hw⟩ := h
  rw [flatD, flatDs_all]
  simp [flatD_str, hw]
  cases n <;> simp [flatD, flatW]
theorem sort_deeds {ds : List D} (h : ∀ d ∈ ds, DeedLike d) : SortN [.lst ds] (ds.mergeSort leD) := by
  refine .lst ds ?_ ?_ (.inl ?_)
  · rw [flatDs_all, List.all_eq_true]
    exact fun d hd => flat_deed (h d hd)
  · intro x hx y hy
    obtain ⟨d, hd, rfl⟩ := List.mem_map.mp hx
    obtain ⟨e, he, rfl⟩ := List.mem_map.mp hy
    exact alike_deed (h d hd) (h e he)
  · intro x hx
    obtain ⟨d, hd, rfl⟩ := List.mem_map.mp hx
    obtain ⟨w, k, rfl, _⟩ := h d hd
    exact ⟨.str w, [.int k], by simp [pyD, pyDs]⟩
theorem dd_like {w : Str} {d : D} {lo : Int} {n : Nat} (hw : PyData.strOk w = true) (hd : d ∈ rngD lo n) : DeedLike (dd w d) := by
  obtain ⟨i, _, rfl⟩ := List.mem_map.mp hd
  exact ⟨w, _, rfl, hw⟩
theorem wordTab_ok : ∀ p ∈ wordTab, PyData.strOk p.1 = true ∧ ∀ w ∈ p.2, PyData.strOk w = true := by decide +kernel
theorem wordDeeds_like {b : Bk} {p : Str × List Str} (hp : p ∈ wordTab) : ∀ d ∈ wordDeeds b p, DeedLike d := by
  intro d hd
  unfold wordDeeds at hd
  split at hd
  · obtain ⟨w, hw, hd⟩ := List.mem_flatMap.mp hd
    obtain ⟨e, he, rfl⟩ := List.mem_map.mp hd
    exact dd_like ((wordTab_ok p hp).2 w hw) he
  · cases hd
theorem shifts_like {b : Bk} : ∀ d ∈ shiftsD b, DeedLike d := by
  intro d hd
  obtain ⟨e, he, rfl⟩ := List.mem_map.mp hd
  exact dd_like (by decide +kernel) he
theorem raw_like {b : Bk} : ∀ d ∈ deedsRaw b, DeedLike d := by
  intro d hd
  rcases List.mem_append.mp hd with h | h
  · exact shifts_like d h
  · obtain ⟨p, hp, hd⟩ := List.mem_flatMap.mp h
    exact wordDeeds_like hp d hd
theorem Bk.Ok.words_ok {b : Bk} (h : b.Ok) : ∀ w ∈ b.words, PyData.strOk w = true := by
  have h := h.words
  simp only [List.mem_cons, List.not_mem_nil, or_false] at h
  rcases h with h | h | h | h | h | h | h | h <;> rw [h] <;> decide +kernel
theorem Bk.Ok.ws_len {b : Bk} (h : b.Ok) : 1 ≤ b.ws.length ∧ b.ws.length ≤ 2 := by
  have h := h.ws
  simp only [List.mem_cons, List.not_mem_nil, or_false] at h
  rcases h with h | h | h | h | h | h <;> rw [h] <;> decide
theorem rngD_len (lo : Int) (n : Nat) : (rngD lo n).length = n := by unfold rngD; simp
section
variable {K : Kw} {σ : L2.St} {F H : Hp} {ta te : TE} {ds : List D} {DE : Ends} {tz : TS}
/-- l.extend(e), l not in F, e a new list -/
theorem s_ext {l : Addr} {xs : List V} (ha : EvD K ta σ F (.v (.ref l))) (he : EvL K te σ F ds) (sub : Ex F H) (hl : H l = some (.lst xs)) (n : F l = none) (hz : xs.length + ds.length ≤ sizeLine)
    (k : ∀ ws F' H', Gr F H F' H' → H' l = some (.lst xs) → F' l = none → Reps K F' ws ds → DE.nx σ (upd H' l (.lst (xs ++ ws)))) : tDrop (tBM K.K "list" rExtend ta (tCons te tNil)) DE σ H :=
  ha H sub _ fun v F1 H1 g1 i1 => by
    have e1 := i1.val
    subst e1
    refine ⟨.inl ⟨rfl, xs, .inl (.inl (g1.hh _ _ hl))⟩, he H1 (g1.ff.trans g1.sub |> fun _ => ?_) _ fun p ws F2 H2 g2 hp n2 hl2 r2 => ?_⟩
    · exact g1.ff.trans g1.sub
    · have l2 := r2.length
      have hh := g1.hh.trans g2.hh
      refine ⟨l, p, xs, ws, rfl, rfl, hh _ _ hl, hl2, by omega, ?_⟩
      have gg : Gr F H F2 H2 := ⟨hh, g2.ff, g2.sub, fun a o e => (g2.new a o e).elim .inl fun z => .inr (g1.hh.fresh z)⟩
      exact k ws F2 H2 gg (hh _ _ hl) (gg.own hl n).2 r2
end
theorem Gr.put {F H F' H' : Hp} {p : Addr} {o : HO} (g : Gr F H F' H') (hp : H p = none) (n : F' p = none) : Gr F H F' (upd H' p o) := ⟨g.hh.mut hp, g.ff, g.sub.mut n, g.new⟩

section
variable {A : Str → Addr} {K : Kw} {σ : L2.St} {F : Hp} {te : TE} {b : Bk}
theorem ev_many (B : TxBook A K) (h : EvD K te σ F (bookD A b)) : EvD K (tFld K.K te "many") σ F (.int b.n) := ev_fld h B.c (B.a _ (by decide)) rfl
theorem ev_loads (B : TxBook A K) (h : EvD K te σ F (bookD A b)) : EvD K (tFld K.K te "loads") σ F (intsD b.ws) := ev_fld h B.c (B.a _ (by decide)) rfl
theorem ev_most (B : TxBook A K) (h : EvD K te σ F (bookD A b)) : EvD K (tFld K.K te "most") σ F (.int b.cap) := ev_fld h B.c (B.a _ (by decide)) rfl
theorem ev_manner (B : TxBook A K) (h : EvD K te σ F (bookD A b)) : EvD K (tFld K.K te "manner") σ F (.dct b.rule) := ev_fld h B.c (B.a _ (by decide)) rfl
theorem ev_deed_words (B : TxBook A K) (h : EvD K te σ F (bookD A b)) : EvD K (tFld K.K te "deed_words") σ F (strsD b.words) := ev_fld h B.c (B.a _ (by decide)) rfl
end

theorem Gr.un {F F2 H F' H' : Hp} (x : Ex F F2) (a : Ex F2 H) (g : Gr F H F' H') : Gr F2 H (un F2 F') H' ∧ Ex F' (un F2 F') := by
  have e2 : Ex F2 H' := a.trans g.hh
  refine ⟨⟨g.hh, un_l, fun b o hb => ?_, fun b o hb => ?_⟩, un_r e2 g.sub⟩
  · unfold Dr.un at hb
    cases q1 : F2 b with
    | some u => simp [q1] at hb; subst hb; exact e2 _ _ q1
    | none => simp [q1] at hb; exact g.sub _ _ hb
  · unfold Dr.un at hb
    cases q1 : F2 b with
    | some u => simp [q1] at hb; subst hb; exact .inl rfl
    | none =>
      simp [q1] at hb
      rcases g.new _ _ hb with z | z
      · rw [x _ _ z] at q1; cases q1
      · exact .inr z
section
variable {K : Kw} {σ : L2.St} {F F2 H : Hp} {ta tb te : TE} {d : D} {ds : List D} {DE : Ends} {tz : TS}
theorem EvL.mono (h : EvL K te σ F ds) (x : Ex F F2) : EvL K te σ F2 ds := fun H a Q q => h H (x.trans a) Q fun p vs F' H' g hp n hl r => by
  obtain ⟨g', e⟩ := g.un x a
  refine q p vs _ H' g' hp ?_ hl (r.mono e)
  unfold Dr.un
  rw [a.fresh hp, n]
/-- x, y = e, a new list: through a tuple -/
theorem q_tupDL {i j : Nat} (ha : EvD K ta σ F d) (hb : EvL K tb σ F ds) (sub : Ex F H)
    (k : ∀ v p vs F' H', Gr F H F' H' → Rep K F' v d → H p = none → F' p = none → H' p = some (.lst vs) → Reps K F' vs ds → tz DE ((σ.set i (some v)).set j (some (.ref p))) H') : tSeq (tAsg (tTup (tCons ta (tCons tb tNil))) (gTup K.K 2 (gCons (gName i) (gCons (gName j) gNil)))) tz DE σ H :=
  ha H sub _ fun v F1 H1 g1 r1 => (hb.mono g1.ff) H1 g1.sub _ fun p vs F2 H2 g2 hp n hl r2 => ⟨by rw [sizeLine_eq]; simp, fun t ht => by
    have g12 := g1.trans g2
    have gt := g12.trans (.alloc' (o := .tup [v, .ref p]) g2.sub ht)
    have rt : Rep K (upd (fun _ => none) t (.tup [v, .ref p])) (.ref t) (.tup [.v v, .v (.ref p)]) := .tup (.inl (.inl upd_same)) (.cons (.v _) (.cons (.v _) .nil))
    have st : Ex (upd (fun _ => none) t (.tup [v, .ref p])) (upd H2 t (.tup [v, .ref p])) := fun a o e => by
      by_cases z : a = t
      · subst z; rw [upd_same] at e ⊢; exact e
      · rw [upd_ne z] at e; cases e
    refine eg_tup2 (P := fun σ' => σ' = (σ.set i (some v)).set j (some (.ref p))) st rt (fun x y rx ry => eg_name (eg_name (by rw [rx.val, ry.val]))) _ fun σ' e => ?_
    subst e
    have hpt : p ≠ t := fun z => by subst z; rw [hl] at ht; cases ht
    exact k v p vs F2 _ gt (r1.mono g2.ff) (g1.hh.fresh hp) n (by rw [upd_ne hpt]; exact hl) r2⟩
/-- x, y = e, a new list -/
theorem q_parDL {i j : Nat} (ha : EvD K ta σ F d) (hb : EvL K tb σ F ds) (sub : Ex F H)
    (k : ∀ v p vs F' H', Gr F H F' H' → Rep K F' v d → H p = none → F' p = none → H' p = some (.lst vs) → Reps K F' vs ds → tz DE ((σ.set i (some v)).set j (some (.ref p))) H') : tSeq (tPar i j (tCons ta (tCons tb tNil))) tz DE σ H :=
  ha H sub _ fun v F1 H1 g1 r1 => (hb.mono g1.ff) H1 g1.sub _ fun p vs F2 H2 g2 hp n hl r2 => ⟨v, .ref p, rfl, k v p vs F2 H2 (g1.trans g2) (r1.mono g2.ff) (g1.hh.fresh hp) n hl r2⟩
end

section
variable {K : Kw} {σ : L2.St} {F : Hp} {ta tb tc td : TE} {d e f g : D}
theorem ev_t1 (h : EvD K ta σ F d) : EvD K (tTup (tCons ta tNil)) σ F (.tup [d]) := ev_tup (ea_cons h ea_nil) (by rw [sizeLine_eq]; simp)
theorem ev_t2 (h : EvD K ta σ F d) (h2 : EvD K tb σ F e) : EvD K (tTup (tCons ta (tCons tb tNil))) σ F (.tup [d, e]) := ev_tup (ea_cons h (ea_cons h2 ea_nil)) (by rw [sizeLine_eq]; simp)
theorem ev_t3 (h : EvD K ta σ F d) (h2 : EvD K tb σ F e) (h3 : EvD K tc σ F f) : EvD K (tTup (tCons ta (tCons tb (tCons tc tNil)))) σ F (.tup [d, e, f]) := ev_tup (ea_cons h (ea_cons h2 (ea_cons h3 ea_nil))) (by rw [sizeLine_eq]; simp)
theorem ev_t4 (h : EvD K ta σ F d) (h2 : EvD K tb σ F e) (h3 : EvD K tc σ F f) (h4 : EvD K td σ F g) : EvD K (tTup (tCons ta (tCons tb (tCons tc (tCons td tNil))))) σ F (.tup [d, e, f, g]) := ev_tup (ea_cons h (ea_cons h2 (ea_cons h3 (ea_cons h4 ea_nil)))) (by rw [sizeLine_eq]; simp)
end

/-! ### the row of draws -/
def scrAt (K : Kw) (sc : Addr) (ns : List Int) (b : Bool) (H : Hp) : Prop := (b = true ∧ ∃ o, H sc = some (.frz o (.lst (ns.map V.int)))) ∨ (b = false ∧ SqL K.K (fun _ => none) sc (ns.map V.int))
def rowAt (row sc : Addr) (i s r : Int) (H : Hp) : Prop := H row = some (.lst [.ref sc, .int i, .int s, .int r])
def rowM (K : Kw) (row sc : Addr) (ns : List Int) (b : Bool) : Mu where
  W := fun a => a = row ∨ (a = sc ∧ b = true)
  J := fun H => (∃ i s r, rowAt row sc i s r H ∧ 0 ≤ i) ∧ scrAt K sc ns b H
  dom := fun ⟨⟨i, s, r, h, _⟩, k⟩ w => by
    rcases w with w | ⟨w, hb⟩
    · subst w; exact ⟨_, h⟩
    · subst w
      rcases k with ⟨_, o, k⟩ | ⟨k, _⟩
      · exact ⟨_, k⟩
      · rw [hb] at k; cases k
  stab := fun ⟨⟨i, s, r, h, hi⟩, k⟩ st => ⟨⟨i, s, r, st _ _ (.inl rfl) h, hi⟩, by
    rcases k with ⟨hb, o, k⟩ | k
    · exact .inl ⟨hb, o, st _ _ (.inr ⟨rfl, hb⟩) k⟩
    · exact .inr k⟩
/-- all but the row stays -/
def Rn (row : Addr) (H H' : Hp) : Prop := ∀ a o, a ≠ row → H a = some o → H' a = some o
theorem Ex.rn {row : Addr} {H H' : Hp} (e : Ex H H') : Rn row H H' := fun a o _ h => e a o h
theorem Rn.trans {row : Addr} {H H1 H2 : Hp} (a : Rn row H H1) (b : Rn row H1 H2) : Rn row H H2 := fun x o n h => b x o n (a x o n h)
theorem Rn.put {row : Addr} {H H1 : Hp} {o : HO} (a : Rn row H H1) : Rn row H (upd H1 row o) := fun x u n h => by rw [upd_ne n]; exact a x u n h
section
variable {K : Kw} {row sc : Addr} {ns : List Int} {b : Bool} {F H H' : Hp} {i s r : Int}
theorem scrAt.ne (h : scrAt K sc ns b H) (hr : rowAt row sc i s r H) (hb : b = true) : sc ≠ row := fun z => by
  subst z
  rcases h with ⟨_, o, h⟩ | ⟨h, _⟩
  · unfold rowAt at hr; rw [hr] at h; cases h
  · rw [hb] at h; cases h
theorem scrAt.rn (h : scrAt K sc ns b H) (hr : rowAt row sc i s r H) (e : Rn row H H') : scrAt K sc ns b H' := by
  have n := h.ne hr
  rcases h with ⟨hb, o, h⟩ | h
  · exact .inl ⟨hb, o, e _ _ (n hb) h⟩
  · exact .inr h
theorem scrAt.sq (h : scrAt K sc ns b H) : SqL K.K H sc (ns.map V.int) := by
  rcases h with ⟨_, o, h⟩ | ⟨_, h⟩
  · exact .inl (.inr ⟨o, h⟩)
  · rcases h with (h | ⟨o, h⟩) | h
    · cases h
    · cases h
    · exact .inr h
theorem row_rep (hr : rowAt row sc i s r H) (h : scrAt K sc ns b H) : Rep K H (.ref row) (.lst [.scr ns, .int i, .int s, .int r]) := .lst hr (.cons (.scr h.sq) (.cons (.v _) (.cons (.v _) (.cons (.v _) .nil))))
theorem row_end (iv : (rowM K row sc ns b).I F H) (sub : Ex F H) (e : Rn row H H') (hr : rowAt row sc i s r H') (hi : 0 ≤ i) (hs : scrAt K sc ns b H') : GrW (rowM K row sc ns b) F H F H' where
  hh := fun a o w h => e a o (fun z => w (.inl z)) h
  ff := .refl _
  sub := fun a o h => e a o (fun z => by rw [z, iv.out row (.inl rfl)] at h; cases h) (sub _ _ h)
  new := fun _ _ h => .inl h
  inv := ⟨iv.out, ⟨i, s, r, hr, hi⟩, hs⟩
variable {σ : L2.St} {te : TE} {DE : Ends} {tz : TS} {xs : List V} {z k : Int} {j n : Nat}
theorem s_row (he : EvD K te σ H (.int z)) (hn : σ[n]? = some (some (.ref row))) (hx : H row = some (.lst xs)) (hj : ixN xs.length k = some j) (kk : ∀ H', Ex H H' → DE.nx σ (upd H' row (.lst (xs.set j (.int z))))) : tAsg te (gSub (tVar n) (tC (.int k)) (rSetD K)) DE σ H :=
  he H (.refl _) _ fun v F1 H1 g1 r1 => by
    have e := r1.val
    subst e
    exact ⟨_, hn, .inl ⟨row, xs, k, j, rfl, rfl, g1.hh _ _ hx, hj, kk H1 g1.hh⟩⟩
theorem q_row (he : EvD K te σ H (.int z)) (hn : σ[n]? = some (some (.ref row))) (hx : H row = some (.lst xs)) (hj : ixN xs.length k = some j) (kk : ∀ H', Ex H H' → tz DE σ (upd H' row (.lst (xs.set j (.int z))))) : tSeq (tAsg te (gSub (tVar n) (tC (.int k)) (rSetD K))) tz DE σ H := s_row (DE := { DE with nx := tz DE }) he hn hx hj kk
end
end Dr
namespace Dr
open PySem PySem.Spec PyProof.Rows L2

theorem ltk {a b : Nat} (h : Nat.blt a b = true) : a < b := by simpa using h
theorem atI_nat {α : Type} {xs : List α} {k : Nat} (h : k < xs.length) : L2.atI xs (k : Int) = some xs[k] := by
  unfold L2.atI ixN
  rw [if_pos (by omega), if_pos (by omega)]
  simp [h]
/-! == of a datum with itself -/
mutual
theorem eqv_pyD : ∀ d : D, PyData.eqv (pyD d) (pyD d) = true
  | .v x => by cases x <;> simp [pyD, PyData.eqv]
  | .tup ds => by rw [pyD, PyData.eqv]; exact eqv_pyDs ds
  | .lst ds => by rw [pyD, PyData.eqv]; exact eqv_pyDs ds
  | .dct _ => by simp [pyD, PyData.eqv]
  | .kdc _ => by simp [pyD, PyData.eqv]
  | .ins _ _ => by simp [pyD, PyData.eqv]
  | .scr _ => by simp [pyD, PyData.eqv]
theorem eqv_pyDs : ∀ ds : List D, PyData.eqvAll (pyDs ds) (pyDs ds) = true
  | [] => by simp [pyDs, PyData.eqvAll]
  | d :: ds => by rw [pyDs, PyData.eqvAll, eqv_pyD d, eqv_pyDs ds]; rfl
end
theorem eqD_self (d : D) : eqD d d = true := eqv_pyD d

/-! ### one more object of our own: what it holds -/
def Mu.plus (m : Mu) (p : Addr) (o : HO) : Mu where
  W := fun a => m.W a ∨ a = p
  J := fun H => m.J H ∧ H p = some o ∧ ¬ m.W p
  dom := fun ⟨j, h, n⟩ w => by
    rcases w with w | w
    · exact m.dom j w
    · subst w; exact ⟨_, h⟩
  stab := fun ⟨j, h, n⟩ k => ⟨m.stab j fun a o w e => k a o (.inl w) e, k _ _ (.inr rfl) h, n⟩
section
variable {m : Mu} {F H F' H' : Hp} {p : Addr} {o : HO}
theorem Mu.I.plus (i : m.I F H) (h : H p = some o) (n : F p = none) (w : ¬ m.W p) : (m.plus p o).I F H := ⟨fun a wa => by
  rcases wa with wa | wa
  · exact i.out a wa
  · subst wa; exact n, i.st, h, w⟩
theorem Mu.I.minus (i : (m.plus p o).I F H) : m.I F H ∧ H p = some o ∧ F p = none ∧ ¬ m.W p := ⟨⟨fun a w => i.out a (.inl w), i.st.1⟩, i.st.2.1, i.out p (.inr rfl), i.st.2.2⟩
theorem GrW.minus (i : (m.plus p o).I F H) (g : GrW (m.plus p o) F H F' H') : GrW m F H F' H' where
  hh := fun a u w e => by
    by_cases q : a = p
    · subst q
      rw [i.minus.2.1] at e; cases e
      exact g.inv.minus.2.1
    · exact g.hh a u (fun z => z.elim w q) e
  ff := g.ff
  sub := g.sub
  new := g.new
  inv := g.inv.minus.1
theorem GrW.plus (i : (m.plus p o).I F H) (g : GrW m F H F' H') : GrW (m.plus p o) F H F' H' where
  hh := fun a u w e => g.hh a u (fun z => w (.inl z)) e
  ff := g.ff
  sub := g.sub
  new := g.new
  inv := by
    obtain ⟨i1, i2, i3, i4⟩ := i.minus
    obtain ⟨h, n⟩ := g.own i2 i3 i4
    exact g.inv.plus h n i4
end
section
variable {K : Kw} {m : Mu} {σ : L2.St} {F H : Hp} {te ta tb tk : TE} {tt : TT} {tl th : TO} {tas : TA} {d : D} {p : Addr} {o : HO} {P : D → Prop} {DE : Ends} {tz tu tw : TS}
theorem EvW.frame (h : EvW K m te σ F P) : EvW K (m.plus p o) te σ F P := fun H x i Q q => h H x i.minus.1 Q fun d v F' H' pd g r => q d v F' H' pd (g.plus i) r
theorem EvBW.frame {P : Bool → Prop} (h : EvBW K m tt σ F P) : EvBW K (m.plus p o) tt σ F P := fun H x i Q q => h H x i.minus.1 Q fun b F' H' pd g => q b F' H' pd (g.plus i)
theorem EvAW.frame {P : List D → Prop} (h : EvAW K m tas σ F P) : EvAW K (m.plus p o) tas σ F P := fun H x i Q q => h H x i.minus.1 Q fun d v F' H' pd g r => q d v F' H' pd (g.plus i) r
/-- a call whose arguments read our own object -/
theorem ew_callP {n : Nat} {f : Mu → List D → (D → Prop) → Prop} {E : XK} {Pa : List D → Prop} (h : EvAW K (m.plus p o) tas σ F Pa) (hf : ∀ ds, Pa ds → f m ds P) (hn : ∀ ds, Pa ds → ds.length = n) : EvW K (m.plus p o) (tCall (spW K n f) [] E tas) σ F P := fun H x i Q q =>
  h H x i _ fun ds vs F1 H1 p1 g1 i1 => ⟨m, F1, ds, P, g1.sub, g1.inv.minus.1, by rw [List.append_nil]; exact i1, hn ds p1, hf ds p1, fun d v F2 H2 pd g2 i2 => q d v F2 H2 pd (g1.trans (g2.plus g1.inv)) i2⟩
/-- our own dict is read -/
theorem ew_own {kvs : List (Key × V)} {ps : List (Key × D)} {k : Key} {j : Nat} (hj : σ[j]? = some (some (.ref p))) (hr : RepK K F kvs ps) (hk : EvD K tk σ F (.v (kV k))) (hd : dkGet ps k = some d) : EvW K (m.plus p (.dK kvs)) (tOp (rP2 K IxD) (tVar j) tk) σ F (· = d) := fun H x i Q q =>
  ⟨_, hj, hk H x _ fun y F1 H1 g1 i1 => by
    have e := i1.val
    subst e
    obtain ⟨v, hv, rv⟩ := (hr.mono g1.ff).look hd
    have hp : H1 p = some (.dK kvs) := g1.hh _ _ i.minus.2.1
    have vals : ∀ l : List (Key × V), RepK K H1 l (l.map fun kv => (kv.1, D.v kv.2)) := by
      intro l
      induction l with
      | nil => exact .nil
      | cons a l ih => exact .cons (.v _) ih
    have hv' : dkGet (kvs.map fun kv => (kv.1, D.v kv.2)) k = some (.v v) := by
      unfold dkGet
      unfold valV at hv
      clear hp rv i q hr hd vals
      induction kvs with
      | nil => simp at hv
      | cons a l ih =>
        rw [List.map_cons, List.find?_cons]
        rw [List.find?_cons] at hv
        split at hv
        · rename_i hk
          simp at hv
          simp [hk, hv]
        · rename_i hk
          simp only [hk]
          exact ih hv
    have fin : ∀ w F2 H2, Gr H1 H1 F2 H2 → Rep K F2 w (.v v) → Q w H2 := fun w F2 H2 g2 r2 => by
      have e := r2.val
      subst e
      have gg : Gr F1 H1 F1 H2 := ⟨g2.hh, .refl _, g1.sub.trans g2.hh, fun _ _ h => .inl h⟩
      exact q d w F1 H2 rfl ((g1.trans gg).w i) rv
    refine ⟨H1, .dct (kvs.map fun kv => (kv.1, D.v kv.2)), .v (kV k), .v v, .refl _, .dct hp (vals _), .v _, ?_, fin⟩
    cases k with
    | inl n => exact .dcI _ _ _ _ (.dct _) hv'
    | inr z => exact .dcS _ _ _ _ (.dct _) hv'⟩
theorem ew_sl {lo hi : Option Int} {P1 : D → Prop} (h : EvW K m te σ F P1) (h1 : EvO K tl σ F lo) (h2 : EvO K th σ F hi) (hf : ∀ d, P1 d → ∃ r, SlD d lo hi r ∧ P r) : EvW K m (tSl (rSlD K) te tl th) σ F P := fun H x i Q q =>
  h H x i _ fun d v F1 H1 p1 g1 i1 => (h1.mono g1.ff) H1 g1.sub _ fun F2 H2 g2 => (h2.mono (g1.ff.trans g2.ff)) H2 g2.sub _ fun F3 H3 g3 => by
    obtain ⟨r, hr, pr⟩ := hf d p1
    have g13 := (g1.trans (g2.w g1.inv)).trans (g3.w (g2.w g1.inv).inv)
    exact ⟨F3, d, r, g3.sub, i1.mono (g2.trans g3).ff, hr, fun w F4 H4 g4 i4 => q r w F4 H4 pr (g13.trans (g4.w g13.inv)) i4⟩
/-- d[k] = e: a dict of our own, which e may read -/
theorem s_putO {ti : TE} {j : Nat} {kvs : List (Key × V)} {k : Key} (he : EvW K (m.plus p (.dK kvs)) te σ F P) (ho : σ[j]? = some (some (.ref p))) (hi : EvD K ti σ F (.v (kV k))) (sub : Ex F H) (iv : m.I F H) (hp : H p = some (.dK kvs)) (n : F p = none) (w : ¬ m.W p) (hz : kvs.length < sizeLine)
    (kk : ∀ d v F' H', P d → GrW m F H F' H' → Rep K F' v d → H' p = some (.dK kvs) → F' p = none → DE.nx σ (upd H' p (.dK (putK kvs k v)))) : tAsg te (gSub (tVar j) ti (rSetD K)) DE σ H := by
  have iv' := iv.plus hp n w
  refine he H sub iv' _ fun d v F1 H1 pd g1 r1 => ⟨_, ho, (hi.mono g1.ff) H1 g1.sub _ fun y F2 H2 g2 i2 => ?_⟩
  have e := i2.val
  subst e
  have g12 := g1.trans (g2.w g1.inv)
  obtain ⟨i1, i2, i3, i4⟩ := g12.inv.minus
  exact .inr ⟨p, _, rfl, .k i2 hz, kk d v F2 H2 pd (g12.minus iv') (r1.mono g2.ff) i2 i3⟩
theorem q_putO {ti : TE} {j : Nat} {kvs : List (Key × V)} {k : Key} (he : EvW K (m.plus p (.dK kvs)) te σ F P) (ho : σ[j]? = some (some (.ref p))) (hi : EvD K ti σ F (.v (kV k))) (sub : Ex F H) (iv : m.I F H) (hp : H p = some (.dK kvs)) (n : F p = none) (w : ¬ m.W p) (hz : kvs.length < sizeLine)
    (kk : ∀ d v F' H', P d → GrW m F H F' H' → Rep K F' v d → H' p = some (.dK kvs) → F' p = none → tz DE σ (upd H' p (.dK (putK kvs k v)))) : tSeq (tAsg te (gSub (tVar j) ti (rSetD K))) tz DE σ H := s_putO (DE := { DE with nx := tz DE }) he ho hi sub iv hp n w hz kk
theorem s_ifW {P : Bool → Prop} (h : EvBW K m tt σ F P) (sub : Ex F H) (iv : m.I F H) (h1 : P true → ∀ F' H', GrW m F H F' H' → tu DE σ H') (h2 : P false → ∀ F' H', GrW m F H F' H' → tw DE σ H') : tIfS tt tu tw DE σ H := h H sub iv _ fun b F' H' pb g => by
  cases b with
  | true => exact h1 pb F' H' g
  | false => exact h2 pb F' H' g
theorem q_ifW {P : Bool → Prop} (h : EvBW K m tt σ F P) (sub : Ex F H) (iv : m.I F H) (h1 : P true → ∀ F' H', GrW m F H F' H' → tu { DE with nx := tz DE } σ H') (h2 : P false → ∀ F' H', GrW m F H F' H' → tw { DE with nx := tz DE } σ H') : tSeq (tIfS tt tu tw) tz DE σ H := s_ifW (DE := { DE with nx := tz DE }) h sub iv h1 h2
theorem q_newd {i : Nat} (k : ∀ p, H p = none → tz DE (σ.set i (some (.ref p))) (upd H p (.dK []))) : tSeq (tAsg tDNewK (gName i)) tz DE σ H := k
end
/-- an item of a list, by a draw -/
theorem pick {ds : List D} {i : Int} (h0 : 0 ≤ i) (h1 : i < ds.length) : ∃ r, IxD (.lst ds) (.int i) r ∧ r ∈ ds := by
  obtain ⟨k, rfl⟩ := Int.eq_ofNat_of_zero_le h0
  have hk : k < ds.length := by omega
  exact ⟨ds[k], .lst _ _ _ (atI_nat hk), List.getElem_mem hk⟩

theorem rngD_at {n i : Nat} {x : D} (h : (rngD 0 n)[i]? = some x) : i < n ∧ x = .int (i : Int) := by
  obtain ⟨z, _⟩ := List.getElem?_eq_some_iff.mp h
  rw [rngD_len] at z
  rw [rngD_get z, Int.zero_add] at h
  exact ⟨z, (Option.some.inj h).symm⟩
theorem rngD_mem {n : Nat} {x : D} (h : x ∈ rngD 0 n) : ∃ i : Nat, i < n ∧ x = .int (i : Int) := by
  obtain ⟨i, hi⟩ := List.mem_iff_getElem?.mp h
  exact ⟨i, rngD_at hi⟩
theorem ev_l {K : Kw} {σ : L2.St} {F : Hp} {tl : TA} {ds : List D} (h : EvA K tl σ F ds) (hz : ds.length < 1000 := by first | decide | simp) : EvD K (tLst tl) σ F (.lst ds) := ev_lst h (by rw [sizeLine_eq]; omega)

/-! ### a dict of our own, step by step -/
def putD (ps : List (Key × D)) (k : Key) (d : D) : List (Key × D) := if (ps.any fun p => decide (p.1 = k)) = true then ps.map (fun p => if p.1 = k then (p.1, d) else p) else ps ++ [(k, d)]
theorem RepK.putMap {K : Kw} {F : Hp} {k : Key} {v : V} {d : D} (hv : Rep K F v d) : ∀ {ps : List (Key × D)} {kvs : List (Key × V)}, RepK K F kvs ps → RepK K F (kvs.map (fun kv => if kv.1 = k then (kv.1, v) else kv)) (ps.map (fun p => if p.1 = k then (p.1, d) else p))
  | [], _, h => by cases h; exact .nil
  | p :: ps, _, h => by
    cases h with
    | @cons k' _ _ _ _ hh hr =>
      rw [List.map_cons, List.map_cons]
      by_cases q : k' = k
      · subst q
        simp only [if_true]
        exact .cons hv (RepK.putMap hv hr)
      · simp only [q, if_false]
        exact .cons hh (RepK.putMap hv hr)
theorem RepK.put {K : Kw} {F : Hp} {kvs : List (Key × V)} {ps : List (Key × D)} {k : Key} {v : V} {d : D} (h : RepK K F kvs ps) (hv : Rep K F v d) : RepK K F (putK kvs k v) (putD ps k d) := by
  have e : (kvs.any fun p => decide (p.1 = k)) = (ps.any fun p => decide (p.1 = k)) := by
    have := congrArg (fun l : List Key => l.any fun p => decide (p = k)) h.keys
    simpa [List.any_map, Function.comp_def] using this
  unfold putK putD
  rw [e]
  split
  · exact RepK.putMap hv h
  · exact h.append (.cons hv .nil)
structure Own (K : Kw) (m : Mu) (F0 H0 : Hp) (p : Addr) (F H : Hp) (kvs : List (Key × V)) (ps : List (Key × D)) : Prop where
  g : GrW m F0 H0 F H
  h0 : H0 p = none
  n : F p = none
  h : H p = some (.dK kvs)
  r : RepK K F kvs ps
  w : ¬ m.W p
section
variable {K : Kw} {m : Mu} {σ : L2.St} {F0 H0 F H F' H' : Hp} {te ti tk : TE} {tt : TT} {p : Addr} {kvs : List (Key × V)} {ps : List (Key × D)} {P : D → Prop} {DE : Ends} {tz tu tw : TS}
theorem Own.iv (S : Own K m F0 H0 p F H kvs ps) : (m.plus p (.dK kvs)).I F H := S.g.inv.plus S.h S.n S.w
theorem Own.grow (S : Own K m F0 H0 p F H kvs ps) (g : GrW (m.plus p (.dK kvs)) F H F' H') : Own K m F0 H0 p F' H' kvs ps where
  g := S.g.trans (g.minus S.iv)
  h0 := S.h0
  n := g.inv.minus.2.2.1
  h := g.inv.minus.2.1
  r := S.r.mono g.ff
  w := S.w
theorem Own.gr (S : Own K m F0 H0 p F H kvs ps) (g : Gr F H F' H') : Own K m F0 H0 p F' H' kvs ps := S.grow (g.w S.iv)
theorem Own.end (S : Own K m F0 H0 p F H kvs ps) : GrW m F0 H0 (upd F p (.dK kvs)) H ∧ Rep K (upd F p (.dK kvs)) (.ref p) (.dct ps) := ⟨S.g.freeze S.h0 S.n S.h S.w, .dct upd_same (S.r.mono (.new S.n))⟩
theorem Own.read {d : D} {k : Key} {j : Nat} (S : Own K m F0 H0 p F H kvs ps) (hj : σ[j]? = some (some (.ref p))) (hk : EvD K tk σ F (.v (kV k))) (hd : dkGet ps k = some d) : EvW K (m.plus p (.dK kvs)) (tOp (rP2 K IxD) (tVar j) tk) σ F (· = d) := ew_own hj S.r hk hd
theorem s_putS {j : Nat} {k : Key} (S : Own K m F0 H0 p F H kvs ps) (he : EvW K (m.plus p (.dK kvs)) te σ F P) (ho : σ[j]? = some (some (.ref p))) (hi : EvD K ti σ F (.v (kV k))) (hz : ps.length < 1000)
    (kk : ∀ d kvs' F' H', P d → Ex F F' → Own K m F0 H0 p F' H' kvs' (putD ps k d) → DE.nx σ H') : tAsg te (gSub (tVar j) ti (rSetD K)) DE σ H :=
  s_putO he ho hi S.g.sub S.g.inv S.h S.n S.w (by rw [S.r.length, sizeLine_eq]; omega) fun d v F' H' pd g r h n => kk d (putK kvs k v) F' _ pd g.ff ⟨(S.g.trans g).put S.h0 n S.w, S.h0, n, upd_same, (S.r.mono g.ff).put r, S.w⟩
theorem q_putS {j : Nat} {k : Key} (S : Own K m F0 H0 p F H kvs ps) (he : EvW K (m.plus p (.dK kvs)) te σ F P) (ho : σ[j]? = some (some (.ref p))) (hi : EvD K ti σ F (.v (kV k))) (hz : ps.length < 1000)
    (kk : ∀ d kvs' F' H', P d → Ex F F' → Own K m F0 H0 p F' H' kvs' (putD ps k d) → tz DE σ H') : tSeq (tAsg te (gSub (tVar j) ti (rSetD K))) tz DE σ H := s_putS (DE := { DE with nx := tz DE }) S he ho hi hz kk
theorem s_ifS {P : Bool → Prop} (S : Own K m F0 H0 p F H kvs ps) (h : EvBW K (m.plus p (.dK kvs)) tt σ F P) (h1 : P true → ∀ F' H', Ex F F' → Own K m F0 H0 p F' H' kvs ps → tu DE σ H') (h2 : P false → ∀ F' H', Ex F F' → Own K m F0 H0 p F' H' kvs ps → tw DE σ H') : tIfS tt tu tw DE σ H :=
  s_ifW h S.g.sub S.iv (fun pb F' H' g => h1 pb F' H' g.ff (S.grow g)) (fun pb F' H' g => h2 pb F' H' g.ff (S.grow g))
theorem q_ifS {P : Bool → Prop} (S : Own K m F0 H0 p F H kvs ps) (h : EvBW K (m.plus p (.dK kvs)) tt σ F P) (h1 : P true → ∀ F' H', Ex F F' → Own K m F0 H0 p F' H' kvs ps → tu { DE with nx := tz DE } σ H') (h2 : P false → ∀ F' H', Ex F F' → Own K m F0 H0 p F' H' kvs ps → tw { DE with nx := tz DE } σ H') : tSeq (tIfS tt tu tw) tz DE σ H := s_ifS (DE := { DE with nx := tz DE }) S h h1 h2
end

section
variable {K : Kw} {m : Mu} {σ : L2.St} {F H : Hp} {trs : List (TE × TE)} {DE : Ends} {tz : TS}
theorem EvPW.imp {P P' : List (Key × D) → Prop} (h : EvPW K m trs σ F P) (hp : ∀ d, P d → P' d) : EvPW K m trs σ F P' := fun H x i Q q => h H x i Q fun d v F' H' pd g r => q d v F' H' (hp d pd) g r
theorem s_disp {i : Nat} {P : List (Key × D) → Prop} (h : EvPW K m trs σ F P) (hz : ∀ ps, P ps → ps.length ≤ 15 ∧ (ps.map (·.1)).Nodup) (sub : Ex F H) (iv : m.I F H) (k : ∀ ps p kvs F' H', P ps → Own K m F H p F' H' kvs ps → DE.nx (σ.set i (some (.ref p))) H') : tAsg (tDisp trs) (gName i) DE σ H :=
  ew_disp h hz H sub iv _ fun ps p kvs F' H' pp g hp n h r => k ps p kvs F' H' pp ⟨g, hp, n, h, r, iv.nw hp⟩
theorem q_disp {i : Nat} {P : List (Key × D) → Prop} (h : EvPW K m trs σ F P) (hz : ∀ ps, P ps → ps.length ≤ 15 ∧ (ps.map (·.1)).Nodup) (sub : Ex F H) (iv : m.I F H) (k : ∀ ps p kvs F' H', P ps → Own K m F H p F' H' kvs ps → tz DE (σ.set i (some (.ref p))) H') : tSeq (tAsg (tDisp trs) (gName i)) tz DE σ H := s_disp (DE := { DE with nx := tz DE }) h hz sub iv k
end
end Dr
namespace Dr
open PySem PySem.Spec PyProof.Rows L2
/-! ### what the head says of the module's tables -/
def tupA (K : PySem.W.Frag) (a : Addr) (vs : List He.Dv) : Bool := match K.lookup a with
  | some ⟨.type c, _, .seq its _, _⟩ => decide (c = "tuple") && (decide (its.size ≤ sizeLine) && He.relAll (vs.map (He.Dv.v K)) its.toList)
  | _ => false
theorem tupA_ok {K : PySem.W.Frag} {a : Addr} {vs : List He.Dv} (h : tupA K a vs = true) (H : Hp) : SqT K H a (vs.map (He.Dv.v K)) := by
  unfold tupA at h
  cases q : K.lookup a with
  | none =>
    rw [q] at h
    cases h
  | some o =>
    obtain ⟨oc, od, dt, osl⟩ := o
    rw [q] at h
    cases oc with
    | type c =>
      cases dt with
      | seq its n =>
        obtain ⟨h1, h2⟩ := He.ba (show (decide (c = "tuple") && (decide (its.size ≤ sizeLine) && He.relAll (vs.map (He.Dv.v K)) its.toList)) = true from h)
        obtain ⟨h3, h4⟩ := He.ba h2
        exact .inr ⟨_, its, n, q, congrArg Value.type (of_decide_eq_true h1), rfl, of_decide_eq_true h3, He.relAll_ok h4⟩
      | _ => cases h
    | _ => cases dt <;> cases h
/-- the values of the dict at a -/
def valsE (K : PySem.W.Frag) (a : Addr) (dvs : List He.Dv) : Bool := match K.lookup a with
  | some ⟨_, _, .dict es _, _⟩ => He.relAll (dvs.map (He.Dv.v K)) (es.toList.map (·.val))
  | _ => false
theorem ents {w : World} : ∀ {l : List DictEntry} {ks : List Str} {vs : List V}, l.map He.keyOf = He.keysIn w.params ks → Vals vs (l.map (·.val)) →
    ∃ us, KV ((ks.map fun k => ((.inr k : Key))).zip vs) us ∧ (∀ P : Program, Pairs (mixKind P w) l us) ∧ (∀ P : Program, ∀ e ∈ l, ∃ k, (mixKind P w).is k e.key = true ∧ e.hash = (mixKind P w).hash k) ∧ us.map (·.1) = (ks.map fun k => (.inr k : Key)) ∧ vs.length = l.length ∧ ks.length = l.length
  | [], ks, vs, h, r => by
    cases ks with
    | nil => cases r; exact ⟨[], .nil, fun _ => .nil, fun _ _ h => (nomatch h), rfl, rfl, rfl⟩
    | cons => cases h
  | e :: l, ks, vs, h, r => by
    cases ks with
    | nil => cases h
    | cons k ks =>
      have h1 : He.keyOf e :: l.map He.keyOf = some (k, PyData.keyHash w.params k) :: He.keysIn w.params ks := h
      injection h1 with h2 h3
      cases r with
      | cons r1 r2 =>
        obtain ⟨us, a1, a2, a3, a4, a5, a6⟩ := ents h3 r2
        have hk : ∀ P : Program, (mixKind P w).is (.inr k) e.key = true ∧ e.hash = PyData.keyHash w.params k := by
          unfold He.keyOf at h2
          split at h2
          · rename_i x t q
            have h4 := Option.some.inj h2
            obtain ⟨h5, h6⟩ := Prod.mk.inj h4
            subst h5
            exact fun P => ⟨by rw [q]; exact mixKind_str P w x t, h6⟩
          · cases h2
        refine ⟨(.inr k, e.val) :: us, .cons ⟨rfl, r1⟩ a1, fun P => .cons (hk P).1 rfl (a2 P), fun P e' he => ?_, by simp [a4], by simp [a5], by simp [a6]⟩
        cases he with
        | head => exact ⟨.inr k, (hk P).1, (hk P).2⟩
        | tail _ he => exact a3 P e' he
theorem kd_of {K : PySem.W.Frag} {w : World} {a : Addr} {ks : List Str} {dvs : List He.Dv} (h : He.dicW K a = some (He.keysIn w.params ks)) (hv : valsE K a dvs = true) (hn : (ks.map fun k => (.inr k : Key)).Nodup) (hl : ks.length ≤ 1000) : KdAt ⟨K, w⟩ a ((ks.map fun k => (.inr k : Key)).zip (dvs.map (He.Dv.v K))) := by
  unfold He.dicW at h
  cases q : K.lookup a with
  | none =>
    rw [q] at h
    cases h
  | some o =>
    obtain ⟨oc, od, dt, osl⟩ := o
    rw [q] at h
    cases oc with
    | type c =>
      cases od with
      | none =>
        cases dt with
        | dict es n =>
          have h1 : (match decide (c = "dict") && (osl.isEmpty && !(a == sysModules)) with
            | true => some (es.toList.map He.keyOf)
            | false => none) = some (He.keysIn w.params ks) := h
          cases z : decide (c = "dict") && (osl.isEmpty && !(a == sysModules)) with
          | false =>
            rw [z] at h1
            cases h1
          | true =>
            rw [z] at h1
            obtain ⟨z1, z2⟩ := He.ba z
            obtain ⟨z3, z4⟩ := He.ba z2
            have e1 : c = "dict" := of_decide_eq_true z1
            have e2 : osl = #[] := Array.isEmpty_iff.mp z3
            have e3 : (a == sysModules) = false := by
              cases y : a == sysModules with
              | false => rfl
              | true =>
                rw [y] at z4
                cases z4
            subst e1 e2
            have hv2 : He.relAll (dvs.map (He.Dv.v K)) (es.toList.map (·.val)) = true := by
              unfold valsE at hv
              rw [q] at hv
              exact hv
            have hv3 := He.relAll_ok hv2
            obtain ⟨us, a1, a2, a3, a4, a5, a6⟩ := ents (w := w) (Option.some.inj h1) hv3
            have ez : es.size = ((ks.map fun k => (.inr k : Key)).zip (dvs.map (He.Dv.v K))).length := by
              rw [List.length_zip, List.length_map, a5, a6, Nat.min_self, Array.length_toList]
            refine ⟨_, es, n, us, q, rfl, ⟨rfl, rfl, rfl⟩, rfl, ez, ?_, e3, a1, fun P h hK => ?_⟩
            · rw [List.length_zip, List.length_map, sizeLine_eq]
              have := Nat.min_le_left ks.length (dvs.map (He.Dv.v K)).length
              omega
            · exact ⟨_, es, hK _ _ q, ⟨rfl, rfl, rfl⟩, rfl, fun e he => a3 P e (Array.mem_toList_iff.mpr he), a2 P, by rw [a4]; exact hn⟩
        | _ => cases h
      | some b => cases dt <;> cases h
    | _ => cases od <;> cases dt <;> cases h
/-! the program's tables -/
def ptsAd (x : Str) (K : PySem.W.Frag) : Addr := match PySem.W.nsIn K (He.ga K "POINTS") x with
  | some (some (.ref b)) => b
  | _ => 0
def wordsB1 (K : PySem.W.Frag) : Bool := He.tupB K "WORDS" [.str "away", .str "leave", .str "swap"]
def pointsB1 (K : PySem.W.Frag) : Bool := valsE K (He.ga K "POINTS") [.adr (ptsAd "away"), .adr (ptsAd "back"), .adr (ptsAd "join"), .adr (ptsAd "swap"), .adr (ptsAd "ties")] &&
  (tupA K (ptsAd "away" K) [.str "counted", .str "passed"] && (tupA K (ptsAd "back" K) [.str "kept", .str "least", .str "mean"] && (tupA K (ptsAd "join" K) [.str "kept", .str "least", .str "mean"] && (tupA K (ptsAd "swap" K) [.str "moves", .str "stays"] && tupA K (ptsAd "ties" K) [.str "row", .str "turn"]))))
theorem tup_rep {K : PySem.W.Frag} {w : World} {F : Hp} {a : Addr} {xs : List Str} (h : SqT K F a (xs.map V.str)) : Rep ⟨K, w⟩ F (.ref a) (strsD xs) := by
  refine .tup h ?_
  have e : xs.map D.str = (xs.map V.str).map D.v := by rw [List.map_map]; rfl
  rw [e]
  exact .vals _
theorem txPoints_of {K : PySem.W.Frag} {w : World} (h : He.dicW K (He.ga K "POINTS") = some (He.keysIn w.params ["away", "back", "join", "swap", "ties"])) (hb : pointsB1 K = true) : TxPoints (He.ga K) ⟨K, w⟩ := by
  obtain ⟨h1, h2⟩ := He.ba hb
  obtain ⟨t1, h2⟩ := He.ba h2
  obtain ⟨t2, h2⟩ := He.ba h2
  obtain ⟨t3, h2⟩ := He.ba h2
  obtain ⟨t4, t5⟩ := He.ba h2
  refine ⟨_, kd_of h h1 (by decide +kernel) (by decide), fun F => ?_⟩
  exact .cons (tup_rep (xs := sDS) (tupA_ok t1 F)) (.cons (tup_rep (xs := sKLM) (tupA_ok t2 F)) (.cons (tup_rep (xs := sKLM) (tupA_ok t3 F)) (.cons (tup_rep (xs := sMS) (tupA_ok t4 F)) (.cons (tup_rep (xs := sRT) (tupA_ok t5 F)) .nil))))
theorem words_sq {K : PySem.W.Frag} {w : World} (h : wordsB1 K = true) (F : Hp) : Rep ⟨K, w⟩ F (.ref (He.ga K "WORDS")) (strsD ["away", "leave", "swap"]) := tup_rep (He.tupB_ok h F)
end Dr
namespace Dr
open PySem PySem.Spec PyProof.Rows L2
local macro_rules | `(tactic| walk_at "rep") => `(tactic| first | assumption | exact .v _)
local macro_rules | `(tactic| walk_at "rel") => `(tactic| first | exact .int _ _ | exact .lst _ | exact .tup _ | exact .dct _ | exact .tup _ _ _ | exact .lst _ _ _ | (apply IsiD.ty <;> first | rfl | assumption | decide +kernel))
local macro_rules | `(tactic| walk_at "ev") => `(tactic| first
  | (apply ev_var; rfl; walk_at "rep")
  | exact ev_c
  | exact ea_nil
  | exact eo_none
  | (apply ev_op <;> walk_at "ev")
  | (apply ev_chain <;> walk_at "ev")
  | (apply ev_cb <;> walk_at "ev")
  | (apply ev_andV <;> walk_at "ev")
  | (apply ev_orV <;> walk_at "ev")
  | (apply ev_notV <;> walk_at "ev")
  | (apply ev_if <;> walk_at "ev")
  | (apply eb_test <;> walk_at "ev")
  | (apply eb_B <;> walk_at "ev")
  | (apply eb_and <;> walk_at "ev")
  | (apply eb_or <;> walk_at "ev")
  | (apply eb_not <;> walk_at "ev")
  | (apply ev_tup <;> walk_at "ev")
  | (apply ev_lst <;> walk_at "ev")
  | (apply el_lst <;> walk_at "ev")
  | (apply ev_neg <;> walk_at "ev")
  | (apply ea_cons <;> walk_at "ev")
  | (apply eo_some <;> walk_at "ev")
  | (apply ev_sl <;> walk_at "ev")
  | (refine fun (_ : _ = (_ : Bool)) => ?_; walk_at "ev")
  | walk_at "rel"
  | decide
  | skip)
/-! ### a draw -/
def taken_p (many : Int) : D → Prop := fun d => ∃ r, d = .int r ∧ 0 ≤ r ∧ r < many
def taken_r (K : Kw) : Mu → List D → (D → Prop) → Prop := fun m ds P => ∃ row sc ns b many, m = rowM K row sc ns b ∧ ds = [.v (.ref row), .int many] ∧ 0 < many ∧ many < 1073741824 ∧ P = taken_p many
def sp_law_taken (A : Str → Addr) (K : Kw) : Sp := spW K 2 (taken_r K)
def t_law_taken (A : Str → Addr) (K : Kw) : TS := (tSeq (tIfS (tTest (tOp (rP2 K GtD) (tOp (rP2 K IxD) (tVar 0) (tC (.int 3))) (tC (.int 0)))) (tSeq (tAsg (tOp (rP2 K ModD) (tCB (rPn K IntD) (tCons (tOp (rP2 K IxD) (tVar 0) (tC (.int 3))) tNil)) (tVar 1)) (gName 2)) (tSeq (tAsg (tOp (rP2 K FdivD) (tOp (rP2 K IxD) (tVar 0) (tC (.int 3))) (tVar 1)) (gSub (tVar 0) (tC (.int 3)) (rSetD K))) (tRet (tVar 2)))) tNext) (tSeq (tAsg (tOp (rP2 K AddD) (tOp (rP2 K IxD) (tVar 0) (tC (.int 1))) (tC (.int 1))) (gSub (tVar 0) (tC (.int 1)) (rSetD K))) (tSeq (tIfS (tTest (tOp (rP2 K GtD) (tOp (rP2 K IxD) (tVar 0) (tC (.int 1))) (tCB (rPn K LenD) (tCons (tOp (rP2 K IxD) (tVar 0) (tC (.int 0))) tNil)))) (tSeq (tAsg (tOp (rP2 K ModD) (tCB (rPn K IntD) (tCons (tOp (rP2 K AddD) (tOp (rP2 K MulD) (tOp (rP2 K IxD) (tVar 0) (tC (.int 2))) (tC (.int 48271))) (tC (.int 11))) tNil)) (tC (.int 2147483647))) (gSub (tVar 0) (tC (.int 2)) (rSetD K))) (tRet (tOp (rP2 K ModD) (tCB (rPn K IntD) (tCons (tOp (rP2 K FdivD) (tOp (rP2 K IxD) (tVar 0) (tC (.int 2))) (tC (.int 7))) tNil)) (tVar 1)))) tNext) (tSeq (tAsg (tOp (rP2 K IxD) (tOp (rP2 K IxD) (tVar 0) (tC (.int 0))) (tOp (rP2 K SubD) (tOp (rP2 K IxD) (tVar 0) (tC (.int 1))) (tC (.int 1)))) (gName 3)) (tSeq (tAsg (tOp (rP2 K ModD) (tCB (rPn K IntD) (tCons (tOp (rP2 K AddD) (tOp (rP2 K AddD) (tOp (rP2 K MulD) (tOp (rP2 K IxD) (tVar 0) (tC (.int 2))) (tC (.int 48271))) (tVar 3)) (tC (.int 11))) tNil)) (tC (.int 2147483647))) (gSub (tVar 0) (tC (.int 2)) (rSetD K))) (tSeq (tIfS (tTest (tOp (rP2 K GeD) (tVar 3) (tOp (rP2 K PowD) (tC (.int 10)) (tC (.int 18))))) (tAsg (tOp (rP2 K FdivD) (tVar 3) (tVar 1)) (gSub (tVar 0) (tC (.int 3)) (rSetD K))) tNext) (tRet (tOp (rP2 K ModD) (tCB (rPn K IntD) (tCons (tVar 3) tNil)) (tVar 1)))))))))
theorem m_law_taken {A : Str → Addr} {K : Kw} (vs : List V) (H : Hp) (Q : VK) (E : XK) (h : sp_law_taken A K vs H Q E) : t_law_taken A K { nx := fun _ H' => Q .non H', rt := Q } (stn 4 vs) H := by
  obtain ⟨m, F, ds, P, sub, iv, hr, hn, ⟨row, sc, ns, b, many, rfl, rfl, h0, h1, rfl⟩, q⟩ := h
  obtain ⟨v1, v2, rfl, r1, r2⟩ := hr.two
  have e1 := r1.val
  have e2 := r2.val
  subst e1 e2
  obtain ⟨⟨i, s, r, hrow, hi⟩, hsc⟩ := iv.st
  have nsc : b = true → sc ≠ row := hsc.ne hrow
  have modP : ∀ z : Int, taken_p many (.int (z % many)) := fun z => ⟨_, rfl, Int.emod_nonneg _ (by omega), Int.emod_lt_of_pos _ h0⟩
  have vr : ∀ {σ : L2.St} {H i s r}, σ[0]? = some (some (.ref row)) → rowAt row sc i s r H → scrAt K sc ns b H → EvD K (tVar 0) σ H (.lst [.scr ns, .int i, .int s, .int r]) := fun h1 h2 h3 => ev_var h1 (row_rep h2 h3)
  refine q_when (K := K) (b := decide (0 < r)) (eb_test (ev_op (ev_op (vr rfl hrow hsc) ev_c (.lst _ 3 (.int r) rfl)) ev_c (.int _ _))) (.refl H) (fun hc F1 H1 g1 => ?_) (fun hc F1 H1 g1 => ?_)
  · have hrow1 := g1.hh _ _ hrow
    have hsc1 := hsc.rn hrow g1.hh.rn
    refine q_asg (ev_op (ev_cb (ea_cons (ev_op (vr rfl hrow1 hsc1) ev_c (.lst _ 3 (.int r) rfl)) ea_nil) (.int _)) (ev_var rfl (.v _)) (.int _ _ h0)) (.refl H1) fun v F2 H2 g2 r2 => ?_
    have hrow2 := g2.hh _ _ hrow1
    have hsc2 := hsc1.rn hrow1 g2.hh.rn
    have e := r2.val
    subst e
    refine q_row (ev_op (ev_op (vr rfl hrow2 hsc2) ev_c (.lst _ 3 (.int r) rfl)) (ev_var rfl (.v _)) (.int _ _ h0 h1)) rfl hrow2 (j := 3) rfl fun H3 g3 => ?_
    have rn : Rn row H H3 := ((g1.hh.trans g2.hh).trans g3).rn
    have hrow4 : rowAt row sc i s (r / many) (upd H3 row (.lst [.ref sc, .int i, .int s, .int (r / many)])) := upd_same
    refine ⟨_, rfl, ?_⟩
    have rn' := rn.put (o := .lst [.ref sc, .int i, .int s, .int (r / many)])
    exact q _ _ F _ (modP r) (row_end iv sub rn' hrow4 hi (hsc.rn hrow rn')) (.v _)
  · have hrow1 := g1.hh _ _ hrow
    have hsc1 := hsc.rn hrow g1.hh.rn
    refine q_row (ev_op (ev_op (vr rfl hrow1 hsc1) ev_c (.lst _ 1 (.int i) rfl)) ev_c (.int _ _)) rfl hrow1 (j := 1) rfl fun H2 g2 => ?_
    have rn2 : Rn row H (upd H2 row (.lst [.ref sc, .int (i + 1), .int s, .int r])) := (g1.hh.trans g2).rn.put
    have hrow2 : rowAt row sc (i + 1) s r (upd H2 row (.lst [.ref sc, .int (i + 1), .int s, .int r])) := upd_same
    have hsc2 := hsc.rn hrow rn2
    have eset : ([.ref sc, .int i, .int s, .int r] : List V).set 1 (.int (i + 1)) = [.ref sc, .int (i + 1), .int s, .int r] := rfl
    rw [eset]
    generalize upd H2 row (.lst [.ref sc, .int (i + 1), .int s, .int r]) = H3 at rn2 hrow2 hsc2
    refine q_when (K := K) (b := decide ((ns.length : Int) < i + 1)) (eb_test (ev_op (ev_op (vr rfl hrow2 hsc2) ev_c (.lst _ 1 (.int (i + 1)) rfl)) (ev_cb (ea_cons (ev_op (vr rfl hrow2 hsc2) ev_c (.lst _ 0 (.scr ns) rfl)) ea_nil) (.scr _)) (.int _ _))) (.refl H3) (fun hc F4 H4 g4 => ?_) (fun hc F4 H4 g4 => ?_)
    · have hrow4 := g4.hh _ _ hrow2
      have hsc4 := hsc2.rn hrow2 g4.hh.rn
      refine q_row (ev_op (ev_cb (ea_cons (ev_op (ev_op (ev_op (vr rfl hrow4 hsc4) ev_c (.lst _ 2 (.int s) rfl)) ev_c (.int _ _ (.inr (by decide)))) ev_c (.int _ _)) ea_nil) (.int _)) ev_c (.int _ _ (by decide))) rfl hrow4 (j := 2) rfl fun H5 g5 => ?_
      have eset : ([.ref sc, .int (i + 1), .int s, .int r] : List V).set 2 (.int ((s * 48271 + 11) % 2147483647)) = [.ref sc, .int (i + 1), .int ((s * 48271 + 11) % 2147483647), .int r] := rfl
      rw [eset]
      have rn6 : Rn row H (upd H5 row (.lst [.ref sc, .int (i + 1), .int ((s * 48271 + 11) % 2147483647), .int r])) := (rn2.trans ((g4.hh.trans g5).rn)).put
      have hrow6 : rowAt row sc (i + 1) ((s * 48271 + 11) % 2147483647) r (upd H5 row (.lst [.ref sc, .int (i + 1), .int ((s * 48271 + 11) % 2147483647), .int r])) := upd_same
      have hsc6 := hsc.rn hrow rn6
      refine s_ret (ev_op (ev_cb (ea_cons (ev_op (ev_op (vr rfl hrow6 hsc6) ev_c (.lst _ 2 (.int ((s * 48271 + 11) % 2147483647)) rfl)) ev_c (.int _ _ (by decide) (by decide))) ea_nil) (.int _)) (ev_var rfl (.v _)) (.int _ _ h0)) (.refl _) fun v F7 H7 g7 r7 => ?_
      have e := r7.val
      subst e
      have rn7 := rn6.trans g7.hh.rn
      exact q _ _ F _ (modP _) (row_end iv sub rn7 (g7.hh _ _ hrow6) (by omega) (hsc.rn hrow rn7)) (.v _)
    · have hrow4 := g4.hh _ _ hrow2
      have hsc4 := hsc2.rn hrow2 g4.hh.rn
      have hc' : ¬ (ns.length : Int) < i + 1 := of_decide_eq_false hc
      obtain ⟨c, hcell⟩ : ∃ c, L2.atI ns (i + 1 - 1) = some c := by
        obtain ⟨k, rfl⟩ := Int.eq_ofNat_of_zero_le hi
        have hk : k < ns.length := by omega
        refine ⟨ns[k], ?_⟩
        have e : ((k : Int) + 1 - 1) = (k : Int) := by omega
        rw [e]
        exact atI_nat hk
      refine q_asg (ev_op (ev_op (vr rfl hrow4 hsc4) ev_c (.lst _ 0 (.scr ns) rfl)) (ev_op (ev_op (vr rfl hrow4 hsc4) ev_c (.lst _ 1 (.int (i + 1)) rfl)) ev_c (.int _ _)) (.scr ns _ c hcell)) (.refl H4) fun v F5 H5 g5 r5 => ?_
      have e := r5.val
      subst e
      have hrow5 := g5.hh _ _ hrow4
      have hsc5 := hsc4.rn hrow4 g5.hh.rn
      refine q_row (ev_op (ev_cb (ea_cons (ev_op (ev_op (ev_op (ev_op (vr rfl hrow5 hsc5) ev_c (.lst _ 2 (.int s) rfl)) ev_c (.int _ _ (.inr (by decide)))) (ev_var rfl (.v _)) (.int _ _)) ev_c (.int _ _)) ea_nil) (.int _)) ev_c (.int _ _ (by decide))) rfl hrow5 (j := 2) rfl fun H6 g6 => ?_
      have eset : ([.ref sc, .int (i + 1), .int s, .int r] : List V).set 2 (.int ((s * 48271 + c + 11) % 2147483647)) = [.ref sc, .int (i + 1), .int ((s * 48271 + c + 11) % 2147483647), .int r] := rfl
      rw [eset]
      have rn7 : Rn row H (upd H6 row (.lst [.ref sc, .int (i + 1), .int ((s * 48271 + c + 11) % 2147483647), .int r])) := (rn2.trans (((g4.hh.trans g5.hh).trans g6).rn)).put
      have hrow7 : rowAt row sc (i + 1) ((s * 48271 + c + 11) % 2147483647) r (upd H6 row (.lst [.ref sc, .int (i + 1), .int ((s * 48271 + c + 11) % 2147483647), .int r])) := upd_same
      generalize upd H6 row (.lst [.ref sc, .int (i + 1), .int ((s * 48271 + c + 11) % 2147483647), .int r]) = H7 at rn7 hrow7
      generalize (s * 48271 + c + 11) % 2147483647 = s2 at hrow7
      have hsc7 := hsc.rn hrow rn7
      refine q_when (K := K) (b := decide (((10 : Int) ^ (18 : Int).toNat) ≤ c)) (eb_test (ev_op (ev_var rfl (.v _)) (ev_op ev_c ev_c (.int _ _ (by unfold CPow; decide))) (.int _ _))) (.refl H7) (fun hc F8 H8 g8 => ?_) (fun hc F8 H8 g8 => ?_)
      · have hrow8 := g8.hh _ _ hrow7
        refine s_row (ev_op (ev_var rfl (.v _)) (ev_var rfl (.v _)) (.int _ _ h0 h1)) rfl hrow8 (j := 3) rfl fun H9 g9 => ?_
        have eset : ([.ref sc, .int (i + 1), .int s2, .int r] : List V).set 3 (.int (c / many)) = [.ref sc, .int (i + 1), .int s2, .int (c / many)] := rfl
        rw [eset]
        have rn9 : Rn row H (upd H9 row (.lst [.ref sc, .int (i + 1), .int s2, .int (c / many)])) := (rn7.trans ((g8.hh.trans g9).rn)).put
        have hrow9 : rowAt row sc (i + 1) s2 (c / many) (upd H9 row (.lst [.ref sc, .int (i + 1), .int s2, .int (c / many)])) := upd_same
        refine s_ret (ev_op (ev_cb (ea_cons (ev_var rfl (.v _)) ea_nil) (.int _)) (ev_var rfl (.v _)) (.int _ _ h0)) (.refl _) fun v F7 H7 g7 r7 => ?_
        have e := r7.val
        subst e
        have rn10 := rn9.trans g7.hh.rn
        exact q _ _ F _ (modP _) (row_end iv sub rn10 (g7.hh _ _ hrow9) (by omega) (hsc.rn hrow rn10)) (.v _)
      · refine s_ret (ev_op (ev_cb (ea_cons (ev_var rfl (.v _)) ea_nil) (.int _)) (ev_var rfl (.v _)) (.int _ _ h0)) (.refl _) fun v F7 H10 g7 r7 => ?_
        have e := r7.val
        subst e
        have rn10 := (rn7.trans g8.hh.rn).trans g7.hh.rn
        exact q _ _ F _ (modP _) (row_end iv sub rn10 (g7.hh _ _ (g8.hh _ _ hrow7)) (by omega) (hsc.rn hrow rn10)) (.v _)
section
variable {A : Str → Addr} {K : Kw} {m : Mu} {σ : L2.St} {F : Hp} {tm : TE} {row sc p : Addr} {ns : List Int} {b : Bool} {o : HO} {many : Int} {j : Nat} {E : XK}
theorem ew_taken (hj : σ[j]? = some (some (.ref row))) (h : EvW K (rowM K row sc ns b) tm σ F (· = .int many)) (h0 : 0 < many) (h1 : many < 1073741824) : EvW K (rowM K row sc ns b) (tCall (sp_law_taken A K) [] E (tCons (tVar j) (tCons tm tNil))) σ F (taken_p many) :=
  ew_call (eaw_cons (ew_of (ev_var hj (.v _))) (eaw_cons h (eaw_of ea_nil))) (fun ds ⟨d, es, e1, ⟨d2, es2, e2, e3, e4⟩, e5⟩ => by
    subst e1 e2 e3 e4 e5
    exact ⟨row, sc, ns, b, many, rfl, rfl, h0, h1, rfl⟩) (fun ds ⟨d, es, e1, ⟨d2, es2, e2, e3, e4⟩, e5⟩ => by subst e3 e4 e5; rfl)
theorem ew_takenP (hj : σ[j]? = some (some (.ref row))) (h : EvW K ((rowM K row sc ns b).plus p o) tm σ F (· = .int many)) (h0 : 0 < many) (h1 : many < 1073741824) : EvW K ((rowM K row sc ns b).plus p o) (tCall (sp_law_taken A K) [] E (tCons (tVar j) (tCons tm tNil))) σ F (taken_p many) :=
  ew_callP (eaw_cons (ew_of (ev_var hj (.v _))) (eaw_cons h (eaw_of ea_nil))) (fun ds ⟨d, es, e1, ⟨d2, es2, e2, e3, e4⟩, e5⟩ => by
    subst e1 e2 e3 e4 e5
    exact ⟨row, sc, ns, b, many, rfl, rfl, h0, h1, rfl⟩) (fun ds ⟨d, es, e1, ⟨d2, es2, e2, e3, e4⟩, e5⟩ => by subst e3 e4 e5; rfl)
/-- an item of a list, drawn -/
theorem pick_taken {ds : List D} {e : D} {n : Int} (h : taken_p n e) (hn : n = ds.length) : ∃ r, IxD (.lst ds) e r ∧ r ∈ ds := by
  obtain ⟨i, rfl, h0, h1⟩ := h
  exact pick h0 (by omega)
end
/-! ### a rule is drawn -/
def optsL : List (List Str) := [sDS, sKLM, sKLM, sMS, sRT]
def rowArg (K : Kw) (m : Mu) (ds : List D) : Prop := ∃ row sc ns b, m = rowM K row sc ns b ∧ ds = [.v (.ref row)]
def RuleOk (b : Bk) : Prop := b.aw ∈ sDS ∧ b.bk ∈ sKLM ∧ b.jo ∈ sKLM ∧ b.sw ∈ sMS ∧ b.ti ∈ sRT
def law_rule_r (K : Kw) : Mu → List D → (D → Prop) → Prop := fun m ds P => rowArg K m ds ∧ P = fun d => ∃ b : Bk, RuleOk b ∧ d = .dct b.rule
def sp_law_rule (A : Str → Addr) (K : Kw) : Sp := spW K 1 (law_rule_r K)
def t_law_rule (A : Str → Addr) (K : Kw) : TS := (tSeq (tAsg (tLst (tCons (tLst (tCons (tC (.str "counted")) (tCons (tC (.str "passed")) tNil))) (tCons (tLst (tCons (tC (.str "kept")) (tCons (tC (.str "least")) (tCons (tC (.str "mean")) tNil)))) (tCons (tLst (tCons (tC (.str "kept")) (tCons (tC (.str "least")) (tCons (tC (.str "mean")) tNil)))) tNil)))) (gName 1)) (tSeq (tAsg (tOp (rP2 K AddD) (tVar 1) (tLst (tCons (tLst (tCons (tC (.str "moves")) (tCons (tC (.str "stays")) tNil))) (tCons (tLst (tCons (tC (.str "row")) (tCons (tC (.str "turn")) tNil))) tNil)))) (gName 1)) (tSeq (tAsg (tLst (tCons (tC (.str "away")) (tCons (tC (.str "back")) (tCons (tC (.str "join")) (tCons (tC (.str "swap")) (tCons (tC (.str "ties")) tNil)))))) (gName 2)) (tSeq (tAsg tDNewK (gName 3)) (tSeq (tFor (iRng1 (tCons (tC (.int 5)) tNil)) (gName 4) (tAsg (tOp (rP2 K IxD) (tOp (rP2 K IxD) (tVar 1) (tVar 4)) (tCall (sp_law_taken A K) [] E0 (tCons (tVar 0) (tCons (tCB (rPn K LenD) (tCons (tOp (rP2 K IxD) (tVar 1) (tVar 4)) tNil)) tNil)))) (gSub (tVar 3) (tOp (rP2 K IxD) (tVar 2) (tVar 4)) (rSetD K)))) (tRet (tVar 3)))))))
def ruleKs (ws : List Str) : List (Key × D) := List.zipWith (fun p w => ((Sum.inr p : Key), D.str w)) pointsL ws
theorem ruleKs_next {ws : List Str} (h : ws.length < 5) : ∃ y o, pointsL[ws.length]? = some y ∧ optsL[ws.length]? = some o ∧ dkGet (ruleKs ws) (.inr y) = none ∧ (∀ w, ruleKs (ws ++ [w]) = ruleKs ws ++ [(.inr y, .str w)]) ∧ 0 < o.length ∧ o.length < 4 := by
  match ws, h with
  | [], _ => exact ⟨_, _, rfl, rfl, rfl, fun _ => rfl, by decide, by decide⟩
  | [_], _ => exact ⟨_, _, rfl, rfl, rfl, fun _ => rfl, by decide, by decide⟩
  | [_, _], _ => exact ⟨_, _, rfl, rfl, rfl, fun _ => rfl, by decide, by decide⟩
  | [_, _, _], _ => exact ⟨_, _, rfl, rfl, rfl, fun _ => rfl, by decide, by decide⟩
  | [_, _, _, _], _ => exact ⟨_, _, rfl, rfl, rfl, fun _ => rfl, by decide, by decide⟩
  | _ :: _ :: _ :: _ :: _ :: _, h => exact absurd h (by simp)
theorem m_law_rule {A : Str → Addr} {K : Kw} (vs : List V) (H : Hp) (Q : VK) (E : XK) (h : sp_law_rule A K vs H Q E) : t_law_rule A K { nx := fun _ H' => Q .non H', rt := Q } (stn 5 vs) H := by
  obtain ⟨m, F, ds, P, sub, iv, hr, hn, ⟨⟨row, sc, ns, b, rfl, rfl⟩, rfl⟩, q⟩ := h
  obtain ⟨v1, rfl, r1⟩ := hr.one
  have e1 := r1.val
  subst e1
  refine q_asg (K := K) (d := .lst [.lst (sDS.map D.str), .lst (sKLM.map D.str), .lst (sKLM.map D.str)]) (ev_l (ea_cons (ev_l (ea_cons ev_c (ea_cons ev_c ea_nil))) (ea_cons (ev_l (ea_cons ev_c (ea_cons ev_c (ea_cons ev_c ea_nil)))) (ea_cons (ev_l (ea_cons ev_c (ea_cons ev_c (ea_cons ev_c ea_nil)))) ea_nil)))) sub fun v2 F1 H1 g1 r2 => ?_
  refine q_asg (K := K) (d := .lst ([.lst (sDS.map D.str), .lst (sKLM.map D.str), .lst (sKLM.map D.str)] ++ [.lst (sMS.map D.str), .lst (sRT.map D.str)])) (ev_op (ev_var rfl r2) (ev_l (ea_cons (ev_l (ea_cons ev_c (ea_cons ev_c ea_nil))) (ea_cons (ev_l (ea_cons ev_c (ea_cons ev_c ea_nil))) ea_nil))) (.lst _ _ (by decide))) g1.sub fun v3 F2 H2 g2 r3 => ?_
  refine q_asg (K := K) (d := .lst (pointsL.map D.str)) (ev_l (ea_cons ev_c (ea_cons ev_c (ea_cons ev_c (ea_cons ev_c (ea_cons ev_c ea_nil)))))) g2.sub fun v4 F3 H3 g3 r4 => ?_
  have g13 := ((g1.trans g2).trans g3).w iv
  refine q_newd fun p hp => ?_
  have wp : ¬ (rowM K row sc ns b).W p := g13.inv.nw hp
  have hp0 : H p = none := g13.fresh hp
  have n0 : F3 p = none := g3.sub.fresh hp
  have a1 := g13.put (o := .dK []) hp0 n0 wp
  have r3' := r3.mono g3.ff
  refine q_for (K := K) (it_rng1 (n := 5) (ea_cons ev_c ea_nil) (by decide) (by decide)) a1.sub
    (fun i σ F' H' => ∃ s4 kvs ws, σ = [some (.ref row), some v3, some v4, some (.ref p), s4] ∧ GrW (rowM K row sc ns b) F H F' H' ∧ Ex F3 F' ∧ F' p = none ∧ H' p = some (.dK kvs) ∧ RepK K F' kvs (ruleKs ws) ∧ ws.length = i ∧ (∀ (j : Nat) (w : Str) (o : List Str), ws[j]? = some w → optsL[j]? = some o → w ∈ o))
    (fun F4 H4 g4 => ⟨⟨_, [], [], rfl, a1.trans (g4.w a1.inv), g4.ff, (g4.own upd_same n0).2, (g4.own upd_same n0).1, .nil, rfl, fun j w o h => by simp at h⟩, fun i x v σ F5 H5 F6 H6 hx e5 ⟨s4, kvs, ws, hσ, gg, e3, n5, h5, r5, hl, ho⟩ g6 rx => ?_⟩)
    fun σ F5 H5 e5 e5' ⟨s4, kvs, ws, hσ, gg, e3, n5, h5, r5, hl, ho⟩ => ?_
  · subst hσ
    obtain ⟨hi, ex⟩ := rngD_at (n := 5) hx
    subst ex
    subst hl
    obtain ⟨y, o, k1, k2, k3, k4, k5, k6⟩ := ruleKs_next hi
    have g6w := g6.w gg.inv
    obtain ⟨h6, n6⟩ := g6w.own h5 n5 wp
    have gg6 := gg.trans g6w
    refine eg_name (P := fun σ => σ = [some (.ref row), some v3, some v4, some (.ref p), some v]) rfl _ fun σ' hσ => ?_
    subst hσ
    have e36 := e3.trans g6.ff
    have rs := r3'.mono e36
    have hopt : L2.atI ([.lst (sDS.map D.str), .lst (sKLM.map D.str), .lst (sKLM.map D.str)] ++ [.lst (sMS.map D.str), .lst (sRT.map D.str)] : List D) ((ws.length : Nat) : Int) = some (.lst (o.map D.str)) := by
      have e : ([.lst (sDS.map D.str), .lst (sKLM.map D.str), .lst (sKLM.map D.str)] ++ [.lst (sMS.map D.str), .lst (sRT.map D.str)] : List D) = optsL.map fun o => .lst (o.map D.str) := rfl
      rw [e]
      have h5 : ws.length < optsL.length := hi
      have := atI_nat h5
      rw [List.getElem?_eq_getElem h5] at k2
      rw [Option.some.inj k2] at this
      exact atI_map _ this
    have iop : EvD K (tOp (rP2 K IxD) (tVar 1) (tVar 4)) [some (.ref row), some v3, some v4, some (.ref p), some v] F6 (.lst (o.map D.str)) := ev_op (ev_var rfl rs) (ev_var rfl rx) (.lst _ _ _ hopt)
    have hpt : L2.atI (pointsL.map D.str) ((ws.length : Nat) : Int) = some (.str y) := by
      have h5 : ws.length < pointsL.length := hi
      have := atI_nat h5
      rw [List.getElem?_eq_getElem h5] at k1
      rw [Option.some.inj k1] at this
      exact atI_map _ this
    have lk : kvs.length < sizeLine := by
      have l1 := r5.length
      unfold ruleKs at l1
      rw [List.length_zipWith] at l1
      rw [sizeLine_eq]
      have : min pointsL.length ws.length ≤ ws.length := Nat.min_le_right _ _
      omega
    refine s_putW (P := fun d => ∃ w ∈ o, d = .str w) (ew_op (P2 := taken_p o.length) (ew_of iop) (ew_callD (ea_cons (ev_var rfl (.v _)) (ea_cons (ev_cb (ea_cons iop ea_nil) (.lst _)) ea_nil)) ⟨row, sc, ns, b, _, rfl, rfl, by rw [List.length_map]; omega, by rw [List.length_map]; omega, by rw [List.length_map]⟩) fun d e hd he => ?_) rfl (k := .inr y) (ev_op (ev_var rfl ((r4).mono e36)) (ev_var rfl rx) (.lst _ _ _ hpt)) g6.sub gg6.inv h6 n6 wp lk fun d z F7 H7 pd g7 r7 h7 n7 => ?_
    · subst hd
      obtain ⟨j, rfl, j0, j1⟩ := he
      obtain ⟨r, hr, hm⟩ := pick (ds := o.map D.str) j0 (by rw [List.length_map]; exact j1)
      obtain ⟨w, hw, rfl⟩ := List.mem_map.mp hm
      exact ⟨_, hr, w, hw, rfl⟩
    · obtain ⟨w, hw, rfl⟩ := pd
      have e7 : Ex F5 F7 := g6.ff.trans g7.ff
      have vn : valV kvs (.inr y) = none := r5.look_none k3
      refine ⟨F7, e5.trans e7, g7.sub.mut n7, _, kvs ++ [(.inr y, z)], ws ++ [w], rfl, (gg6.trans g7).put hp0 n7 wp, e3.trans e7, n7, ?_, ?_, by simp, fun j w' o' hw' ho' => ?_⟩
      · rw [putK_new z vn]; exact upd_same
      · rw [k4]
        exact (r5.mono e7).append (.cons r7 .nil)
      · rcases Nat.lt_or_ge j ws.length with c | c
        · rw [List.getElem?_append_left c] at hw'
          exact ho j w' o' hw' ho'
        · rw [List.getElem?_append_right c] at hw'
          have e0 : j - ws.length = 0 := by
            rcases Nat.eq_zero_or_pos (j - ws.length) with z0 | z0
            · exact z0
            · rw [List.getElem?_eq_none (by simp; omega)] at hw'; cases hw'
          rw [e0] at hw'
          have ej : j = ws.length := by omega
          subst ej
          rw [k2] at ho'
          cases ho'
          have := Option.some.inj hw'
          rw [← this]; exact hw
  · subst hσ
    have e : ws.length = 5 := hl
    obtain ⟨w1, w2, w3, w4, w5, rfl⟩ : ∃ a b c d e, ws = [a, b, c, d, e] := by
      match ws, e with
      | [a, b, c, d, e], _ => exact ⟨a, b, c, d, e, rfl⟩
    have gz := gg.freeze hp0 n5 h5 wp
    refine s_retW (F := upd F5 p (.dK kvs)) (ew_of (ev_var rfl (.dct upd_same (r5.mono (.new n5))))) gz.sub gz.inv fun d v F6 H6 hd g6 r6 => ?_
    subst hd
    exact q _ v F6 H6 ⟨⟨2, [], 1, w1, w2, w3, w4, w5, []⟩, ⟨ho 0 _ _ rfl rfl, ho 1 _ _ rfl rfl, ho 2 _ _ rfl rfl, ho 3 _ _ rfl rfl, ho 4 _ _ rfl rfl⟩, rfl⟩ (gz.trans g6) r6
/-! ### a book is drawn -/
def WSall : List (List Int) := [[1], [2], [1, 2], [1, 3], [3], [2, 3]]
/-- what a draw is -/
def Drawn (b : Bk) : Prop := b.Ok ∧ (b.n = 3 → b.words.length ≤ 1 ∧ b.ws.length = 1 ∧ b.cap ≤ 2 ∧ (b.ti = "turn" → b.cap = 1))
def law_drawn_r (K : Kw) : Mu → List D → (D → Prop) → Prop := fun m ds P => rowArg K m ds ∧ P = fun d => ∃ b : Bk, Drawn b ∧ d = drawnD b
def sp_law_drawn (A : Str → Addr) (K : Kw) : Sp := spW K 1 (law_drawn_r K)
def t_law_drawn (A : Str → Addr) (K : Kw) : TS := (tSeq (tAsg (tDisp (((tC (.str "people")), (tOp (rP2 K IxD) (tLst (tCons (tC (.int 2)) (tCons (tC (.int 2)) (tCons (tC (.int 3)) tNil)))) (tCall (sp_law_taken A K) [] E0 (tCons (tVar 0) (tCons (tC (.int 3)) tNil))))) :: (((tC (.str "rule")), (tCall (sp_law_rule A K) [] E0 (tCons (tVar 0) tNil))) :: []))) (gName 1)) (tSeq (tAsg (tLst (tCons (tTup (tCons (tC (.int 1)) tNil)) (tCons (tTup (tCons (tC (.int 2)) tNil)) (tCons (tTup (tCons (tC (.int 1)) (tCons (tC (.int 2)) tNil))) (tCons (tTup (tCons (tC (.int 1)) (tCons (tC (.int 3)) tNil))) (tCons (tTup (tCons (tC (.int 3)) tNil)) (tCons (tTup (tCons (tC (.int 2)) (tCons (tC (.int 3)) tNil))) tNil))))))) (gName 2)) (tSeq (tAsg (tOp (rP2 K IxD) (tVar 2) (tCall (sp_law_taken A K) [] E0 (tCons (tVar 0) (tCons (tOp (rP2 K IxD) (tLst (tCons (tC (.int 6)) (tCons (tC (.int 2)) tNil))) (tOp (rP2 K SubD) (tOp (rP2 K IxD) (tVar 1) (tC (.str "people"))) (tC (.int 2)))) tNil)))) (gSub (tVar 1) (tC (.str "weights")) (rSetD K))) (tSeq (tAsg (tOp (rP2 K AddD) (tC (.int 1)) (tCall (sp_law_taken A K) [] E0 (tCons (tVar 0) (tCons (tOp (rP2 K IxD) (tLst (tCons (tC (.int 4)) (tCons (tC (.int 2)) tNil))) (tOp (rP2 K SubD) (tOp (rP2 K IxD) (tVar 1) (tC (.str "people"))) (tC (.int 2)))) tNil)))) (gSub (tVar 1) (tC (.str "cap")) (rSetD K))) (tSeq (tAsg (tCB (rPn K TupleD) (tCons (tLc (iSeq K (tLst (tCons (tC (.str "away")) (tCons (tC (.str "leave")) (tCons (tC (.str "swap")) tNil))))) (gName 3) (tTest (tOp (rP2 K EqD) (tCall (sp_law_taken A K) [] E0 (tCons (tVar 0) (tCons (tC (.int 2)) tNil))) (tC (.int 0)))) (tVar 3) [3]) tNil)) (gSub (tVar 1) (tC (.str "words")) (rSetD K))) (tSeq (tIfS (tTest (tOp (rP2 K EqD) (tOp (rP2 K IxD) (tVar 1) (tC (.str "people"))) (tC (.int 3)))) (tSeq (tAsg (tSl (rSlD K) (tOp (rP2 K IxD) (tVar 1) (tC (.str "words"))) tNoPart (tPart (tC (.int 1)))) (gSub (tVar 1) (tC (.str "words")) (rSetD K))) (tIfS (tTest (tOp (rP2 K EqD) (tOp (rP2 K IxD) (tOp (rP2 K IxD) (tVar 1) (tC (.str "rule"))) (tC (.str "ties"))) (tC (.str "turn")))) (tAsg (tC (.int 1)) (gSub (tVar 1) (tC (.str "cap")) (rSetD K))) tNext)) tNext) (tRet (tVar 1))))))))
theorem some_words {rs : List D} (h : Pick (fun x o => o = none ∨ o = some x) ([D.str "away", D.str "leave", D.str "swap"]) rs) : ∃ ws : List Str, rs = ws.map D.str ∧ ws ∈ ([[], ["away"], ["leave"], ["swap"], ["away", "leave"], ["away", "swap"], ["leave", "swap"], ["away", "leave", "swap"]] : List (List Str)) := by
  obtain ⟨os, h1, h2, rfl⟩ := h
  obtain ⟨a, b, c, rfl⟩ : ∃ a b c, os = [a, b, c] := by
    match os, h1 with
    | [a, b, c], _ => exact ⟨a, b, c, rfl⟩
  have k1 := h2 0 _ _ rfl rfl
  have k2 := h2 1 _ _ rfl rfl
  have k3 := h2 2 _ _ rfl rfl
  rcases k1 with rfl | rfl <;> rcases k2 with rfl | rfl <;> rcases k3 with rfl | rfl
  · exact ⟨[], rfl, by simp⟩
  · exact ⟨["swap"], rfl, by simp⟩
  · exact ⟨["leave"], rfl, by simp⟩
  · exact ⟨["leave", "swap"], rfl, by simp⟩
  · exact ⟨["away"], rfl, by simp⟩
  · exact ⟨["away", "swap"], rfl, by simp⟩
  · exact ⟨["away", "leave"], rfl, by simp⟩
  · exact ⟨["away", "leave", "swap"], rfl, by simp⟩
theorem cut_words {ws : List Str} (h : ws ∈ ([[], ["away"], ["leave"], ["swap"], ["away", "leave"], ["away", "swap"], ["leave", "swap"], ["away", "leave", "swap"]] : List (List Str))) : ∃ us : List Str, cutD (ws.map D.str) none (some 1) = us.map D.str ∧ us.length ≤ 1 ∧ us ∈ ([[], ["away"], ["leave"], ["swap"], ["away", "leave"], ["away", "swap"], ["leave", "swap"], ["away", "leave", "swap"]] : List (List Str)) := by
  simp only [List.mem_cons, List.not_mem_nil, or_false] at h
  rcases h with rfl | rfl | rfl | rfl | rfl | rfl | rfl | rfl
  · exact ⟨[], rfl, by simp, by simp⟩
  · exact ⟨["away"], rfl, by simp, by simp⟩
  · exact ⟨["leave"], rfl, by simp, by simp⟩
  · exact ⟨["swap"], rfl, by simp, by simp⟩
  · exact ⟨["away"], rfl, by simp, by simp⟩
  · exact ⟨["away"], rfl, by simp, by simp⟩
  · exact ⟨["leave"], rfl, by simp, by simp⟩
  · exact ⟨["away"], rfl, by simp, by simp⟩
theorem m_law_drawn {A : Str → Addr} {K : Kw} (vs : List V) (H : Hp) (Q : VK) (E : XK) (h : sp_law_drawn A K vs H Q E) : t_law_drawn A K { nx := fun _ H' => Q .non H', rt := Q } (stn 4 vs) H := by
  obtain ⟨m, F, ds, P, sub, iv, hr, hn, ⟨⟨row, sc, ns, b, rfl, rfl⟩, rfl⟩, q⟩ := h
  obtain ⟨v1, rfl, r1⟩ := hr.one
  have e1 := r1.val
  subst e1
  refine q_disp (P := fun ps => ∃ n b, (n = 2 ∨ n = 3) ∧ RuleOk b ∧ ps = [(.inr "people", .int n), (.inr "rule", .dct b.rule)]) (EvPW.imp (epw_cons (k := .inr "people") (P1 := fun d => d = .int 2 ∨ d = .int 3) ev_c ?_ (epw_cons (k := .inr "rule") (P1 := fun d => ∃ b : Bk, RuleOk b ∧ d = .dct b.rule) ev_c (ew_callD (ea_cons (ev_var rfl (.v _)) ea_nil) ⟨⟨row, sc, ns, b, rfl, rfl⟩, rfl⟩) epw_nil)) fun ds pd => ?_) (fun ps hps => ?_) sub iv fun ps p kvs F1 H1 pp S1 => ?_
  · refine ew_op (ew_of (ev_l (ea_cons ev_c (ea_cons ev_c (ea_cons ev_c ea_nil))))) (ew_taken rfl (ew_of ev_c) (by decide) (by decide)) fun d e hd he => ?_
    subst hd
    obtain ⟨r, hr, hm⟩ := pick_taken (ds := [.int 2, .int 2, .int 3]) he rfl
    refine ⟨r, hr, ?_⟩
    simp only [List.mem_cons, List.not_mem_nil, or_false] at hm
    rcases hm with rfl | rfl | rfl
    · exact .inl rfl
    · exact .inl rfl
    · exact .inr rfl
  · obtain ⟨d, es, hd, ⟨d2, es2, ⟨b, hb, rfl⟩, rfl, rfl⟩, rfl⟩ := pd
    rcases hd with rfl | rfl
    · exact ⟨2, b, .inl rfl, hb, rfl⟩
    · exact ⟨3, b, .inr rfl, hb, rfl⟩
  · obtain ⟨n, b, _, _, rfl⟩ := hps
    exact ⟨by simp, (by decide +kernel : ([.inr "people", .inr "rule"] : List Key).Nodup)⟩
  obtain ⟨n, br, hn', hb, rfl⟩ := pp
  refine q_asg (K := K) (d := .lst (WSall.map intsD)) (ev_l (ea_cons (ev_t1 ev_c) (ea_cons (ev_t1 ev_c) (ea_cons (ev_t2 ev_c ev_c) (ea_cons (ev_t2 ev_c ev_c) (ea_cons (ev_t1 ev_c) (ea_cons (ev_t2 ev_c ev_c) ea_nil))))))) S1.g.sub fun v2 F2 H2 g2 r2 => ?_
  have S2 := S1.gr g2
  have rd : ∀ {F3 H3 kvs3 ps3 σ a b'}, Own K (rowM K row sc ns b) F H p F3 H3 kvs3 ps3 → σ[1]? = some (some (.ref p)) → dkGet ps3 (.inr "people") = some (.int n) → EvW K ((rowM K row sc ns b).plus p (.dK kvs3)) (tOp (rP2 K IxD) (tLst (tCons (tC (.int a)) (tCons (tC (.int b')) tNil))) (tOp (rP2 K SubD) (tOp (rP2 K IxD) (tVar 1) (tC (.str "people"))) (tC (.int 2)))) σ F3 (· = .int (if n = 2 then a else b')) := fun S hs hd =>
    ew_op (P2 := (· = .int (n - 2))) (ew_of (ev_l (ea_cons ev_c (ea_cons ev_c ea_nil)))) (ew_op (S.read (k := .inr "people") hs ev_c hd) (ew_of ev_c) fun d e hd he => by subst hd he; exact ⟨_, .int _ _, rfl⟩) fun d e hd he => by
      subst hd he
      rcases hn' with rfl | rfl
      · exact ⟨_, .lst _ 0 _ rfl, rfl⟩
      · exact ⟨_, .lst _ 1 _ rfl, rfl⟩
  refine q_putS (k := .inr "weights") (P := fun d => ∃ ws ∈ WSall, d = intsD ws ∧ (n = 3 → ws.length = 1)) S2 (ew_op (ew_of (ev_var rfl r2)) (ew_takenP rfl (rd S2 rfl rfl) (by split <;> decide) (by split <;> decide)) fun d e hd he => ?_) rfl ev_c (by simp) fun d kvs3 F3 H3 ⟨ws, hws, ed, hw3⟩ e3 S3 => ?_
  · subst hd
    rcases hn' with rfl | rfl
    · rw [if_pos rfl] at he
      obtain ⟨r, hr, hm⟩ := pick_taken (ds := WSall.map intsD) he rfl
      obtain ⟨ws, hws, rfl⟩ := List.mem_map.mp hm
      exact ⟨_, hr, ws, hws, rfl, fun h => by omega⟩
    · rw [if_neg (by decide)] at he
      obtain ⟨i, rfl, h0, h1⟩ := he
      have : i = 0 ∨ i = 1 := by omega
      rcases this with rfl | rfl
      · exact ⟨_, .lst _ 0 _ rfl, [1], by simp [WSall], rfl, fun _ => rfl⟩
      · exact ⟨_, .lst _ 1 _ rfl, [2], by simp [WSall], rfl, fun _ => rfl⟩
  subst ed
  refine q_putS (k := .inr "cap") (P := fun d => ∃ c : Int, d = .int c ∧ 1 ≤ c ∧ c ≤ 4 ∧ (n = 3 → c ≤ 2)) S3 (ew_op (ew_of ev_c) (ew_takenP rfl (rd S3 rfl rfl) (by split <;> decide) (by split <;> decide)) fun d e hd he => ?_) rfl ev_c (ltk rfl) fun d kvs4 F4 H4 ⟨c, ed, hc1, hc2, hc3⟩ e4 S4 => ?_
  · subst hd
    obtain ⟨i, rfl, h0, h1⟩ := he
    refine ⟨_, .int _ _, 1 + i, rfl, by omega, ?_, fun h => ?_⟩
    · split at h1 <;> omega
    · subst h
      rw [if_neg (by decide)] at h1
      omega
  subst ed
  refine q_putS (k := .inr "words") (P := fun d => ∃ ws : List Str, d = strsD ws ∧ ws ∈ ([[], ["away"], ["leave"], ["swap"], ["away", "leave"], ["away", "swap"], ["leave", "swap"], ["away", "leave", "swap"]] : List (List Str))) S4 (EvW.frame (ew_cb (eaw_cons (EvLW.ew (el_lcW (it_seq (ev_l (ea_cons ev_c (ea_cons ev_c (ea_cons ev_c ea_nil)))) (.lst _)) (by decide) (fun x o => o = none ∨ o = some x) fun x hx v F' H' e1 e2 rx => eg_name ⟨rfl, ?_⟩)) (eaw_of ea_nil)) fun ds ⟨d, es, ⟨rs, h1, h2⟩, h3, h4⟩ => ?_)) rfl ev_c (ltk rfl) fun d kvs5 F5 H5 ⟨us, ed, hus⟩ e5 S5 => ?_
  · refine ebw_test (ew_op (P := fun d => ∃ b, d = .bl b) (ew_taken rfl (ew_of ev_c) (by decide) (by decide)) (ew_of ev_c) fun d e hd he => ?_) fun d ⟨b, hb⟩ => ⟨b, hb, ?_⟩
    · obtain ⟨i, rfl, _, _⟩ := hd
      subst he
      exact ⟨_, .flat _ _ rfl rfl, _, rfl⟩
    · split
      · exact (ew_of (ev_var rfl rx)).imp fun d hd => .inr (by rw [hd])
      · exact .inl rfl
  · subst h1 h3 h4
    obtain ⟨ws, rfl, hw⟩ := some_words h2
    exact ⟨_, .lst _, ws, rfl, hw⟩
  subst ed
  have fin : ∀ kvs6 F6 H6 c us, 1 ≤ c → c ≤ 4 → us ∈ ([[], ["away"], ["leave"], ["swap"], ["away", "leave"], ["away", "swap"], ["leave", "swap"], ["away", "leave", "swap"]] : List (List Str)) → (n = 3 → us.length ≤ 1 ∧ c ≤ 2 ∧ (br.ti = "turn" → c = 1)) → Own K (rowM K row sc ns b) F H p F6 H6 kvs6 [(.inr "people", .int n), (.inr "rule", .dct br.rule), (.inr "weights", intsD ws), (.inr "cap", .int c), (.inr "words", strsD us)] → ∀ σ : L2.St, σ[1]? = some (some (.ref p)) → tRet (tVar 1) { nx := fun _ H' => Q .non H', rt := Q } σ H6 := fun kvs6 F6 H6 c us h1 h2 h3 h4 S6 σ hσ => by
    obtain ⟨ge, re⟩ := S6.end
    refine s_retW (ew_of (ev_var hσ re)) ge.sub ge.inv fun d v F7 H7 hd g7 r7 => ?_
    subst hd
    refine q _ v F7 H7 ⟨⟨n, ws, c, br.aw, br.bk, br.jo, br.sw, br.ti, us⟩, ⟨⟨hn', hws, h1, h2, hb.1, hb.2.1, hb.2.2.1, hb.2.2.2.1, hb.2.2.2.2, h3⟩, fun h => ⟨(h4 h).1, hw3 h, (h4 h).2⟩⟩, rfl⟩ (ge.trans g7) r7
  refine q_ifS (P := fun t => t = decide (n = 3)) S5 (ebw_test (ew_op (P := fun d => d = .bl (decide (n = 3))) (S5.read (k := .inr "people") rfl ev_c rfl) (ew_of ev_c) fun d e hd he => ?_) fun d hd => ⟨_, hd, rfl⟩) (fun ht F6 H6 e6 S6 => ?_) fun ht F6 H6 e6 S6 => ?_
  · subst hd he
    refine ⟨_, .flat _ _ rfl rfl, ?_⟩
    rw [eqD_int]
    rfl
  · have h3 : n = 3 := of_decide_eq_true ht.symm
    refine q_putS (k := .inr "words") (P := fun d => ∃ us : List Str, d = strsD us ∧ us.length ≤ 1 ∧ us ∈ ([[], ["away"], ["leave"], ["swap"], ["away", "leave"], ["away", "swap"], ["leave", "swap"], ["away", "leave", "swap"]] : List (List Str))) S6 (ew_sl (S6.read (k := .inr "words") rfl ev_c rfl) eo_none (eo_some ev_c) fun d hd => ?_) rfl ev_c (ltk rfl) fun d kvs7 F7 H7 ⟨us2, ed, hu1, hu2⟩ e7 S7 => ?_
    · subst hd
      obtain ⟨us2, h1, h2, h3⟩ := cut_words hus
      refine ⟨_, .tup _ _ _, us2, ?_, h2, h3⟩
      rw [h1]; rfl
    subst ed
    refine s_ifS (P := fun t => t = (br.ti == "turn")) S7 (ebw_test (ew_op (P := fun d => d = .bl (br.ti == "turn")) (ew_op (P := (· = .str br.ti)) (S7.read (k := .inr "rule") rfl ev_c rfl) (ew_of ev_c) fun d e hd he => ?_) (ew_of ev_c) fun d e hd he => ?_) fun d hd => ⟨_, hd, rfl⟩) (fun ht F8 H8 e8 S8 => ?_) fun ht F8 H8 e8 S8 => ?_
    · subst hd he
      exact ⟨_, .dcS _ _ _ _ (.dct _) rfl, rfl⟩
    · subst hd he
      refine ⟨_, .flat _ _ ?_ (by decide +kernel), by rw [eqD_str]⟩
      rw [flatD_str]
      exact (by decide +kernel : ∀ z ∈ sRT, PyData.strOk z = true) _ hb.2.2.2.2
    · refine s_putS (k := .inr "cap") (P := (· = .int 1)) S8 (ew_of ev_c) rfl ev_c (ltk rfl) fun d kvs9 F9 H9 hd e9 S9 => ?_
      subst hd
      exact fin kvs9 F9 H9 1 us2 (by decide) (by decide) hu2 (fun _ => ⟨hu1, by decide, fun _ => rfl⟩) S9 _ rfl
    · refine fin _ F8 H8 c us2 hc1 hc2 hu2 (fun h => ⟨hu1, hc3 h, fun e => ?_⟩) S8 _ rfl
      rw [e] at ht
      exact absurd ht (by decide +kernel)
  · have h3 : n ≠ 3 := of_decide_eq_false ht.symm
    exact fin _ F6 H6 c us hc1 hc2 hus (fun h => absurd h h3) S6 _ rfl
/-! ### all deeds -/
def deedsN_r (A : Str → Addr) : List D → List D → Prop := fun ds rs => ∃ b : Bk, b.Ok ∧ ds = [bookD A b] ∧ rs = deedsOf b
def sp_all_deeds_of (A : Str → Addr) (K : Kw) : Sp := spN K 1 (deedsN_r A)
def t_all_deeds_of (A : Str → Addr) (K : Kw) : TS := (tSeq (tAsg (tTup (tCons (tLstRg (tRg1 (tFld K.K (tVar 0) "many"))) (tCons (tLc (iRng1 (tCons (tCB (rPn K LenD) (tCons (tFld K.K (tVar 0) "loads") tNil)) tNil)) (gName 5) tYes (tTup (tCons (tC (.str "shift")) (tCons (tVar 5) tNil))) [5]) tNil))) (gTup K.K 2 (gCons (gName 1) (gCons (gName 2) gNil)))) (tSeq (tFor (iSeq K (tTup (tCons (tTup (tCons (tC (.str "away")) (tCons (tTup (tCons (tC (.str "away")) (tCons (tC (.str "back")) tNil))) tNil))) (tCons (tTup (tCons (tC (.str "leave")) (tCons (tTup (tCons (tC (.str "join")) (tCons (tC (.str "leave")) tNil))) tNil))) (tCons (tTup (tCons (tC (.str "swap")) (tCons (tTup (tCons (tC (.str "swap")) tNil)) tNil))) tNil))))) (gTup K.K 2 (gCons (gName 3) (gCons (gName 4) gNil))) (tIfS (tTest (tOp (rP2 K (InD false)) (tVar 3) (tFld K.K (tVar 0) "deed_words"))) (tDrop (tBM K.K "list" rExtend (tVar 2) (tCons (tLc2 (iSeq K (tVar 4)) (gName 6) tYes (iSeq K (tVar 1)) (gName 7) tYes (tTup (tCons (tVar 6) (tCons (tVar 7) tNil))) [6, 7] [7]) tNil))) tNext)) (tRet (tCB (rNn K SortN) (tCons (tVar 2) tNil)))))
def wordTabD : List D := wordTab.map fun p => .tup [.str p.1, strsD p.2]
theorem m_all_deeds_of {A : Str → Addr} {K : Kw} (B : TxBook A K) (vs : List V) (H : Hp) (Q : VK) (E : XK) (h : sp_all_deeds_of A K vs H Q E) : t_all_deeds_of A K { nx := fun _ H' => Q .non H', rt := Q } (stn 8 vs) H := by
  obtain ⟨F, ds, r, sub, hr, hn, ⟨b, hb, rfl, rfl⟩, q⟩ := h
  obtain ⟨v1, rfl, h1⟩ := hr.one
  have hnn : 0 ≤ b.n ∧ b.n ≤ 3 := by rcases hb.n with e | e <;> rw [e] <;> decide
  have hwl := hb.ws_len
  have lw : ((List.map D.int b.ws).length : Int) < 1000000 := by rw [List.length_map]; omega
  refine q_tupDL (el_listRg (n := b.n) (ev_many B (ev_var rfl h1)) (by omega) (by omega)).ev (el_map (it_rng1 (ea_cons (ev_cb (ea_cons (ev_loads B (ev_var rfl h1)) ea_nil) (.tup _)) ea_nil) (by omega) lw) (by rw [rngD_len, sizeLine_eq]; omega) (dd "shift") fun x hx v F' H' e1 e2 rx => eg_name ⟨rfl, ev_t2 ev_c (ev_var rfl rx)⟩) sub fun v2 p xs F3 H3 g3 r2 hp0 n3 hl3 r3 => ?_
  have e3 : (rngD 0 ((List.map D.int b.ws).length : Int).toNat).map (dd "shift") = shiftsD b := by
    rw [List.length_map]; rfl
  rw [e3] at r3
  refine q_for (it_seq (d := .tup wordTabD) (ev_tup (ea_cons (ev_tup (ea_cons ev_c (ea_cons (ev_tup (ea_cons ev_c (ea_cons ev_c ea_nil)) (by decide)) ea_nil)) (by decide)) (ea_cons (ev_tup (ea_cons ev_c (ea_cons (ev_tup (ea_cons ev_c (ea_cons ev_c ea_nil)) (by decide)) ea_nil)) (by decide)) (ea_cons (ev_tup (ea_cons ev_c (ea_cons (ev_tup (ea_cons ev_c ea_nil) (by decide)) ea_nil)) (by decide)) ea_nil))) (by decide)) (.tup _)) g3.sub
    (fun i σ F' H' => ∃ s3 s4 s5 s6 s7 xs, σ = [some v1, some v2, some (.ref p), s3, s4, s5, s6, s7] ∧ Gr F H F' H' ∧ Ex F3 F' ∧ F' p = none ∧ H' p = some (.lst xs) ∧ Reps K F' xs (shiftsD b ++ (wordTab.take i).flatMap (wordDeeds b)))
    (fun F4 H4 g4 => ⟨⟨_, _, _, _, _, xs, rfl, g3.trans g4, g4.ff, (g4.own hl3 n3).2, (g4.own hl3 n3).1, by simpa using r3.mono g4.ff⟩, fun i x v σ F5 H5 F6 H6 hx e5 ⟨s3, s4, s5, s6, s7, ys, hσ, gg, e2, n5, h5, r5⟩ g6 rx => ?_⟩)
    fun σ F5 H5 e5 e5' ⟨s3, s4, s5, s6, s7, ys, hσ, gg, e2, n5, h5, r5⟩ => ?_
  · subst hσ
    obtain ⟨h6, n6⟩ := g6.own h5 n5
    obtain ⟨pw, hpw, rfl⟩ : ∃ pw, wordTab[i]? = some pw ∧ x = .tup [.str pw.1, strsD pw.2] := by
      unfold wordTabD at hx
      rw [List.getElem?_map] at hx
      cases hw : wordTab[i]? with
      | none => rw [hw] at hx; cases hx
      | some w => rw [hw] at hx; exact ⟨w, rfl, (Option.some.inj hx).symm⟩
    have hmem := List.mem_of_getElem? hpw
    obtain ⟨ok1, ok2⟩ := wordTab_ok pw hmem
    have etake : (wordTab.take (i + 1)).flatMap (wordDeeds b) = (wordTab.take i).flatMap (wordDeeds b) ++ wordDeeds b pw := by
      rw [List.take_add_one, hpw, List.flatMap_append]; simp
    have gg6 := gg.trans g6
    refine eg_tup2 (P := fun σ => ∃ y z, σ = [some v1, some v2, some (.ref p), some y, some z, s5, s6, s7] ∧ Rep K F6 y (.str pw.1) ∧ Rep K F6 z (strsD pw.2)) g6.sub rx (fun y z ry rz => eg_name (eg_name ⟨y, z, rfl, ry, rz⟩)) _ fun σ' ⟨y, z, hσ, ry, rz⟩ => ?_
    subst hσ
    have hb1 := h1.mono gg6.ff
    refine s_when (K := K) (b := false ^^ b.words.any (· == pw.1)) (eb_test (ev_op (ev_var rfl ry) (ev_deed_words B (ev_var rfl hb1)) (inD_strs ok1 hb.words_ok))) g6.sub (fun hc F7 H7 g7 => ?_) fun hc F7 H7 g7 => ?_
    · obtain ⟨h7, n7⟩ := g7.own h6 n6
      rw [Bool.false_xor] at hc
      have l5 := r5.length
      have hlen : ys.length + (pw.2.flatMap fun w => (rngD 0 b.n.toNat).map (dd w)).length ≤ sizeLine := by
        have k1 : ∀ l : List Str, (l.flatMap fun w => (rngD 0 b.n.toNat).map (dd w)).length = l.length * b.n.toNat := by
          intro l
          induction l with
          | nil => simp
          | cons a l ih => rw [List.flatMap_cons, List.length_append, ih, List.length_map, rngD_len, List.length_cons, Nat.succ_mul]; omega
        have k2 : ∀ q ∈ wordTab, (wordDeeds b q).length ≤ 6 := by
          intro q hq
          unfold wordDeeds
          split
          · rw [k1]
            have : q.2.length ≤ 2 := (by decide : ∀ q ∈ wordTab, q.2.length ≤ 2) q hq
            calc q.2.length * b.n.toNat ≤ 2 * 3 := Nat.mul_le_mul this (by omega)
              _ = 6 := rfl
          · simp
        have k3 : ∀ l : List (Str × List Str), (∀ q ∈ l, q ∈ wordTab) → (l.flatMap (wordDeeds b)).length ≤ l.length * 6 := by
          intro l
          induction l with
          | nil => simp
          | cons a l ih =>
            intro hl
            rw [List.flatMap_cons, List.length_append, List.length_cons]
            have := k2 a (hl a List.mem_cons_self)
            have := ih fun q hq => hl q (List.mem_cons_of_mem _ hq)
            omega
        have k4 := k3 (wordTab.take i) fun q hq => List.mem_of_mem_take hq
        have k5 : (wordTab.take i).length ≤ 3 := by rw [List.length_take]; exact Nat.min_le_right _ _
        have k6 : pw.2.length ≤ 2 := (by decide : ∀ q ∈ wordTab, q.2.length ≤ 2) pw hmem
        rw [List.length_append] at l5
        have k7 : (shiftsD b).length = b.ws.length := by unfold shiftsD; rw [List.length_map, rngD_len]
        rw [k1, sizeLine_eq]
        have : pw.2.length * b.n.toNat ≤ 2 * 3 := Nat.mul_le_mul k6 (by omega)
        omega
      have r2' := r2.mono (e2.trans (g6.ff.trans g7.ff))
      refine s_ext (ev_var rfl (.v _)) (ds := pw.2.flatMap fun w => (rngD 0 b.n.toNat).map (dd w)) ?_ g7.sub h7 n7 hlen fun ws F8 H8 g8 h8 n8 r8 => ?_
      · have key := el_lc2 (K := K) (F := F7) (σ := [some v1, some v2, some (.ref p), some y, some z, s5, s6, s7]) (ds := pw.2.map D.str) (wi := iSeq K (tVar 4)) (g := gName 6) (tt := tYes) (wi1 := iSeq K (tVar 1)) (g1 := gName 7) (tt1 := tYes) (te := tTup (tCons (tVar 6) (tCons (tVar 7) tNil))) (vs := [6, 7]) (vs1 := [7])
          (it_seq (ev_var rfl (rz.mono g7.ff)) (.tup _)) (by rw [List.length_map]; have : pw.2.length ≤ 2 := (by decide : ∀ q ∈ wordTab, q.2.length ≤ 2) pw hmem; omega) (fun _ => rngD 0 b.n.toNat) (fun x d => match x with | .v (.str w) => dd w d | _ => .non) (fun x hx => by rw [rngD_len]; omega)
          fun x hx v F' H' e1 e2 rx => eg_name ⟨rfl, eb_yes, it_seq (ev_var rfl (r2'.mono e1)) (.lst _), fun d hd u F8 H8 e8 e8' ru => eg_name ⟨rfl, eb_yes, ?_⟩⟩
        · have e : (pw.2.flatMap fun w => (rngD 0 b.n.toNat).map (dd w)) = (pw.2.map D.str).flatMap fun x => (rngD 0 b.n.toNat).map (fun d => match x with | .v (.str w) => dd w d | _ => .non) := by
            rw [List.flatMap_map]
          rw [e]
          exact key
        · obtain ⟨w, hw, rfl⟩ := List.mem_map.mp hx
          exact ev_t2 (ev_var rfl (rx.mono e8)) (ev_var rfl ru)
      · have g68 := (gg6.trans g7).trans g8
        refine ⟨F8, (e5.trans g6.ff).trans (g7.ff.trans g8.ff), g8.sub.mut n8, _, _, _, _, _, ys ++ ws, rfl, g68.put hp0 n8, e2.trans (g6.ff.trans (g7.ff.trans g8.ff)), n8, upd_same, ?_⟩
        rw [etake, ← List.append_assoc]
        refine (r5.mono (g6.ff.trans (g7.ff.trans g8.ff))).append ?_
        have : wordDeeds b pw = pw.2.flatMap fun w => (rngD 0 b.n.toNat).map (dd w) := by unfold wordDeeds; rw [if_pos hc]
        rw [this]; exact r8
    · obtain ⟨h7, n7⟩ := g7.own h6 n6
      rw [Bool.false_xor] at hc
      refine ⟨F7, (e5.trans g6.ff).trans g7.ff, g7.sub, _, _, _, _, _, ys, rfl, gg6.trans g7, e2.trans (g6.ff.trans g7.ff), n7, h7, ?_⟩
      have : wordDeeds b pw = [] := by unfold wordDeeds; rw [if_neg (by rw [hc]; simp)]
      rw [etake, this, List.append_nil]
      exact r5.mono (g6.ff.trans g7.ff)
  · subst hσ
    have e : wordTab.take wordTabD.length = wordTab := rfl
    rw [e] at r5
    have gz := gg.freeze hp0 n5 h5
    refine s_retL (F := upd F5 p (.lst ys)) (el_cb (ea_cons (ev_var rfl (.lst upd_same (r5.mono (.new n5)))) ea_nil) (sort_deeds raw_like)) gz.sub fun v ws F6 H6 g6 hp6 n6 hl6 r6 => q v ws F6 H6 (gz.trans g6) ?_ n6 hl6 r6
    cases hq : H v with
    | none => rfl
    | some o => rw [gz.hh _ _ hq] at hp6; cases hp6
/-! ### all_deeds -/
def sp_all_deeds (A : Str → Addr) (K : Kw) : Sp := spN K 1 (deedsN_r A)
def t_all_deeds (A : Str → Addr) (K : Kw) : TS := (tRet (tCall (sp_all_deeds_of A K) [] E0 (tCons (tVar 0) tNil)))
theorem m_all_deeds {A : Str → Addr} {K : Kw} (vs : List V) (H : Hp) (Q : VK) (E : XK) (h : sp_all_deeds A K vs H Q E) : t_all_deeds A K { nx := fun _ H' => Q .non H', rt := Q } (stn 1 vs) H := by
  obtain ⟨F, ds, rs, sub, hr, hn, ⟨b, hb, rfl, rfl⟩, q⟩ := h
  obtain ⟨v1, rfl, h1⟩ := hr.one
  exact s_retL (el_call (ea_cons (ev_var rfl h1) ea_nil) ⟨b, hb, rfl, rfl⟩) sub q
/-! ### is_within -/
def withinD (d : D) (lo hi : Int) : Bool := match d with
  | .v (.int i) => decide (lo ≤ i) && decide (i ≤ hi)
  | _ => false
def within_r : List D → D → Prop := fun ds r => ∃ d lo hi t, tyN d = some t ∧ ds = [d, .int lo, .int hi] ∧ r = .bl (withinD d lo hi)
def sp_is_within (A : Str → Addr) (K : Kw) : Sp := spP K 3 within_r
def t_is_within (A : Str → Addr) (K : Kw) : TS := (tRet (tAndV (tCB (rPn K (IsiD K)) (tCons (tVar 0) (tCons (tC (.ty "int")) tNil))) (tAndV (tNotV (tCB (rPn K (IsiD K)) (tCons (tVar 0) (tCons (tC (.ty "bool")) tNil)))) (tChain (rP2 K LeD) (rP2 K LeD) (tVar 1) (tVar 0) (tVar 2)))))
theorem m_is_within {A : Str → Addr} {K : Kw} (vs : List V) (H : Hp) (Q : VK) (E : XK) (h : sp_is_within A K vs H Q E) : t_is_within A K { nx := fun _ H' => Q .non H', rt := Q } (stn 3 vs) H := by
  obtain ⟨F, ds, r, sub, hr, hn, ⟨d, lo, hi, t, ht, rfl, rfl⟩, q⟩ := h
  obtain ⟨v1, v2, v3, rfl, h1, h2, h3⟩ := hr.three
  cases h2; cases h3
  refine s_ret ?_ sub q
  by_cases hi' : ∃ i, d = .int i
  · obtain ⟨i, rfl⟩ := hi'
    cases h1
    refine ev_is (d := .bl (true && (!false && (decide (lo ≤ i) && decide (i ≤ hi))))) ?_ (by simp [withinD])
    walk_at "ev"
  · have hw : withinD d lo hi = false := by
      unfold withinD
      split
      · rename_i i; exact absurd ⟨i, rfl⟩ hi'
      · rfl
    rw [hw]
    by_cases hb : ∃ b, d = .bl b
    · obtain ⟨b, rfl⟩ := hb
      cases h1
      refine ev_is (d := .bl (true && (!true && false))) ?_ rfl
      refine ev_andV ?_ fun _ => ev_andV ?_ fun z => ?_
      · walk_at "ev"
      · walk_at "ev"
      · simp at z
    · refine ev_is (d := .bl (false && true)) ?_ rfl
      refine ev_andV ?_ fun z => by simp at z
      refine ev_cb (ea_cons (ev_var rfl h1) (ea_cons ev_c ea_nil)) (.ty _ _ _ _ ht ?_)
      cases d with
      | v x => cases x <;> simp [tyN] at ht <;> subst ht <;> first | decide +kernel | (exact absurd ⟨_, rfl⟩ hi') | (exact absurd ⟨_, rfl⟩ hb)
      | tup => simp [tyN] at ht; subst ht; decide +kernel
      | lst => simp [tyN] at ht; subst ht; decide +kernel
      | dct => simp [tyN] at ht; subst ht; decide +kernel
      | kdc => simp [tyN] at ht; subst ht; decide +kernel
      | ins => simp [tyN] at ht
      | scr => simp [tyN] at ht
/-! ### is_rising -/
def ltB : D → D → Bool
  | .v (.int i), .v (.int j) => decide (i < j)
  | .v (.str a), .v (.str b) => decide (a.cps.toList < b.cps.toList)
  | _, _ => false
/-- ints, or texts -/
def OneKind (ds : List D) : Prop := (∃ ns : List Int, ds = ns.map D.int) ∨ ∃ xs : List Str, ds = xs.map D.str
def riseB : List D → Bool
  | a :: b :: r => ltB a b && riseB (b :: r)
  | _ => true
def rising_r : List D → D → Prop := fun ds r => ∃ es, OneKind es ∧ es.length < 1000 ∧ ds = [.tup es] ∧ r = .bl (riseB es)
def sp_is_rising (A : Str → Addr) (K : Kw) : Sp := spP K 1 rising_r
def t_is_rising (A : Str → Addr) (K : Kw) : TS := (tRet (tCB (rPn K AllD) (tCons (tLc (RZ.iZipA K.K (tCons (tVar 0) (tCons (tSl (rSlD K) (tVar 0) (tPart (tC (.int 1))) tNoPart) tNil))) (gTup K.K 2 (gCons (gName 1) (gCons (gName 2) gNil))) tYes (tOp (rP2 K LtD) (tVar 1) (tVar 2)) [1, 2]) tNil)))
def pairB : D → Bool
  | .tup [a, b] => ltB a b
  | _ => false
theorem zip_rise : ∀ es : List D, ((zipD es (es.drop 1)).map pairB).all id = riseB es
  | [] => rfl
  | [_] => rfl
  | a :: b :: r => by
    have ih := zip_rise (b :: r)
    show ((D.tup [a, b] :: zipD (b :: r) r).map pairB).all id = _
    rw [List.map_cons, List.all_cons]
    have e : (b :: r).drop 1 = r := rfl
    rw [e] at ih
    rw [ih]; rfl
theorem cut_tail (es : List D) : cutD es (some 1) none = es.drop 1 := by
  unfold cutD
  rw [HT.sIx_none]
  have e : HT.sIx es.length 0 (some 1) = min 1 es.length := HT.sIx_nat es.length 0 1
  rw [e]
  cases es with
  | nil => rfl
  | cons a r => simp
theorem lt_kind {es : List D} (h : OneKind es) {a b : D} (ha : a ∈ es) (hb : b ∈ es) : LtD a b (.bl (ltB a b)) := by
  rcases h with ⟨ns, rfl⟩ | ⟨xs, rfl⟩
  · obtain ⟨i, _, rfl⟩ := List.mem_map.mp ha
    obtain ⟨j, _, rfl⟩ := List.mem_map.mp hb
    exact .int i j
  · obtain ⟨i, _, rfl⟩ := List.mem_map.mp ha
    obtain ⟨j, _, rfl⟩ := List.mem_map.mp hb
    exact .str i j
theorem mem_zipD {as bs : List D} {x : D} (h : x ∈ zipD as bs) : ∃ a b, a ∈ as ∧ b ∈ bs ∧ x = .tup [a, b] := by
  obtain ⟨i, hi⟩ := List.mem_iff_getElem?.mp h
  unfold zipD at hi
  rw [List.getElem?_zipWith] at hi
  cases ha : as[i]? with
  | none => rw [ha] at hi; simp at hi
  | some a =>
    cases hb : bs[i]? with
    | none => rw [ha, hb] at hi; simp at hi
    | some b =>
      rw [ha, hb] at hi
      exact ⟨a, b, List.mem_of_getElem? ha, List.mem_of_getElem? hb, (Option.some.inj hi).symm⟩
theorem m_is_rising {A : Str → Addr} {K : Kw} (vs : List V) (H : Hp) (Q : VK) (E : XK) (h : sp_is_rising A K vs H Q E) : t_is_rising A K { nx := fun _ H' => Q .non H', rt := Q } (stn 3 vs) H := by
  obtain ⟨F, ds, r, sub, hr, hn, ⟨es, hk, hl, rfl, rfl⟩, q⟩ := h
  obtain ⟨v1, rfl, h1⟩ := hr.one
  refine s_ret ?_ sub q
  rw [← zip_rise, ← cut_tail]
  refine ev_cb (ea_cons (EvL.ev (el_mapB (it_zipT (ea_cons (ev_var rfl h1) (ea_cons (ev_sl (ev_var rfl h1) (eo_some ev_c) eo_none (.tup _ _ _)) ea_nil))) ?_ pairB ?_)) ea_nil) (.lst _)
  · have : (zipD es (cutD es (some 1) none)).length ≤ es.length := by unfold zipD; rw [List.length_zipWith]; omega
    rw [sizeLine_eq]; omega
  · intro x hx v F' H' e1 e2 rx
    obtain ⟨a, b, ha, hb, rfl⟩ := mem_zipD hx
    rw [cut_tail] at hb
    refine eg_tup2 e2 rx fun y z ry rz => eg_name (eg_name ⟨rfl, ?_⟩)
    exact ev_op (ev_var rfl ry) (ev_var rfl rz) (lt_kind hk ha (List.mem_of_mem_drop hb))
/-! ### are_weights -/
def weightsB (d : D) : Bool := match d with
  | .tup es => (decide ((1 : Int) ≤ es.length) && decide ((es.length : Int) ≤ 2)) && (es.all (fun e => withinD e 1 3) && riseB es)
  | _ => false
/-- data whose type is known, and that of its items -/
def Known1 (d : D) : Prop := (∃ t, tyN d = some t) ∧ ∀ es, d = .tup es → es.length < 1000 ∧ ∀ e ∈ es, ∃ t, tyN e = some t
def weights_r : List D → D → Prop := fun ds r => ∃ d, Known1 d ∧ ds = [d] ∧ r = .bl (weightsB d)
def sp_are_weights (A : Str → Addr) (K : Kw) : Sp := spP K 1 weights_r
def t_are_weights (A : Str → Addr) (K : Kw) : TS := (tSeq (tIfS (tOr (tNot (tB (tCB (rPn K (IsiD K)) (tCons (tVar 0) (tCons (tC (.ty "tuple")) tNil))))) (tNot (tTest (tChain (rP2 K LeD) (rP2 K LeD) (tC (.int 1)) (tCB (rPn K LenD) (tCons (tVar 0) tNil)) (tC (.int 2)))))) (tRet (tC (.bl false))) tNext) (tRet (tAndV (tCB (rPn K AllD) (tCons (tLc (iSeq K (tVar 0)) (gName 1) tYes (tCall (sp_is_within A K) [] E0 (tCons (tVar 1) (tCons (tC (.int 1)) (tCons (tC (.int 3)) tNil)))) [1]) tNil)) (tCall (sp_is_rising A K) [] E0 (tCons (tVar 0) tNil)))))
theorem kit_tup {d : D} {t : String} (ht : tyN d = some t) (h : ¬ ∃ x, d = .tup x) : kitB t "tuple" = some false := by
  cases d with
  | v x => cases x <;> simp [tyN] at ht <;> subst ht <;> decide +kernel
  | tup => exact absurd ⟨_, rfl⟩ h
  | lst => simp [tyN] at ht; subst ht; decide +kernel
  | dct => simp [tyN] at ht; subst ht; decide +kernel
  | kdc => simp [tyN] at ht; subst ht; decide +kernel
  | ins => simp [tyN] at ht
  | scr => simp [tyN] at ht
theorem within_int {d : D} {lo hi : Int} (h : withinD d lo hi = true) : ∃ i, d = .int i := by
  unfold withinD at h
  split at h
  · exact ⟨_, rfl⟩
  · cases h
theorem all_ints {es : List D} (h : ∀ e ∈ es, ∃ i, e = .int i) : ∃ ns : List Int, es = ns.map D.int := by
  induction es with
  | nil => exact ⟨[], rfl⟩
  | cons e es ih =>
    obtain ⟨i, rfl⟩ := h e List.mem_cons_self
    obtain ⟨ns, rfl⟩ := ih fun e he => h e (List.mem_cons_of_mem _ he)
    exact ⟨i :: ns, rfl⟩
theorem m_are_weights {A : Str → Addr} {K : Kw} (vs : List V) (H : Hp) (Q : VK) (E : XK) (h : sp_are_weights A K vs H Q E) : t_are_weights A K { nx := fun _ H' => Q .non H', rt := Q } (stn 2 vs) H := by
  obtain ⟨F, ds, r, sub, hr, hn, ⟨d, ⟨⟨t, ht⟩, hk⟩, rfl, rfl⟩, q⟩ := h
  obtain ⟨v1, rfl, h1⟩ := hr.one
  by_cases hi' : ∃ x, d = .tup x
  · obtain ⟨es, rfl⟩ := hi'
    obtain ⟨hlen, hty⟩ := hk es rfl
    refine q_when (K := K) (b := (!true) || !(decide ((1 : Int) ≤ es.length) && decide ((es.length : Int) ≤ 2))) (eb_or (eb_not (eb_B (ev_cb (ea_cons (ev_var rfl h1) (ea_cons ev_c ea_nil)) (.ty _ "tuple" "tuple" _ rfl (by decide +kernel))))) fun _ =>
      eb_not (eb_test (ev_chain ev_c (ev_cb (ea_cons (ev_var rfl h1) ea_nil) (.tup _)) (.int _ _) (fun _ => ev_c) fun _ => .int _ _))) sub (fun hb F1 H1 g1 => ?_) (fun hb F1 H1 g1 => ?_)
    · have e : weightsB (.tup es) = false := by
        simp only [weightsB]
        simp at hb ⊢
        intro h1 h2
        omega
      rw [e] at q
      exact s_ret ev_c g1.sub fun v F2 H2 g2 r2 => q v F2 H2 (g1.trans g2) r2
    · have e : weightsB (.tup es) = (((es.map fun e => withinD e 1 3).all id) && riseB es) := by
        simp only [weightsB]
        simp at hb
        simp [hb]
      refine s_ret ?_ g1.sub fun v F2 H2 g2 r2 => q v F2 H2 (g1.trans g2) r2
      rw [e]
      have h1' := h1.mono g1.ff
      refine ev_andV (ev_cb (ea_cons (EvL.ev (el_mapB (it_seq (ev_var rfl h1') (.tup _)) (by rw [sizeLine_eq]; omega) _ fun x hx v F' H' e1 e2 rx => eg_name ⟨rfl, ?_⟩)) ea_nil) (.lst _)) fun hall => ev_call (ea_cons (ev_var rfl h1') ea_nil) ⟨es, .inl ?_, hlen, rfl, rfl⟩
      · obtain ⟨t, ht⟩ := hty x hx
        exact ev_call (ea_cons (ev_var rfl rx) (ea_cons ev_c (ea_cons ev_c ea_nil))) ⟨x, 1, 3, t, ht, rfl, rfl⟩
      · refine all_ints fun e he => within_int (lo := 1) (hi := 3) ?_
        rw [List.all_map, List.all_eq_true] at hall
        exact hall e he
  · have e : weightsB d = false := by
      unfold weightsB
      split
      · exact absurd ⟨_, rfl⟩ hi'
      · rfl
    rw [e] at q
    refine q_when (K := K) (b := (!false) || false) (eb_or (eb_not (eb_B (ev_cb (ea_cons (ev_var rfl h1) (ea_cons ev_c ea_nil)) (.ty _ _ _ _ ht (kit_tup ht hi'))))) fun z => by simp at z) sub (fun hb F1 H1 g1 => ?_) (fun hb F1 H1 g1 => by simp at hb)
    exact s_ret ev_c g1.sub fun v F2 H2 g2 r2 => q v F2 H2 (g1.trans g2) r2
/-! ### is_one_of -/
def oneOfD (d : D) (xs : List Str) : Bool := match d with
  | .v (.str x) => xs.any (· == x)
  | _ => false
def oneOf_r : List D → D → Prop := fun ds r => ∃ d ws xs t, tyN d = some t ∧ (∀ x, d = .str x → PyData.strOk x = true) ∧ (∀ x ∈ xs, PyData.strOk x = true) ∧ (ws = .tup (xs.map D.str) ∨ ws = .lst (xs.map D.str)) ∧ ds = [d, ws] ∧ r = .bl (oneOfD d xs)
def sp_is_one_of (A : Str → Addr) (K : Kw) : Sp := spP K 2 oneOf_r
def t_is_one_of (A : Str → Addr) (K : Kw) : TS := (tRet (tAndV (tCB (rPn K (IsiD K)) (tCons (tVar 0) (tCons (tC (.ty "str")) tNil))) (tOp (rP2 K (InD false)) (tVar 0) (tVar 1))))
theorem kit_str {d : D} {t : String} (ht : tyN d = some t) (h : ¬ ∃ x, d = .str x) : kitB t "str" = some false := by
  cases d with
  | v x => cases x <;> simp [tyN] at ht <;> subst ht <;> first | decide +kernel | (exact absurd ⟨_, rfl⟩ h)
  | tup => simp [tyN] at ht; subst ht; decide +kernel
  | lst => simp [tyN] at ht; subst ht; decide +kernel
  | dct => simp [tyN] at ht; subst ht; decide +kernel
  | kdc => simp [tyN] at ht; subst ht; decide +kernel
  | ins => simp [tyN] at ht
  | scr => simp [tyN] at ht
theorem m_is_one_of {A : Str → Addr} {K : Kw} (vs : List V) (H : Hp) (Q : VK) (E : XK) (h : sp_is_one_of A K vs H Q E) : t_is_one_of A K { nx := fun _ H' => Q .non H', rt := Q } (stn 2 vs) H := by
  obtain ⟨F, ds, r, sub, hr, hn, ⟨d, ws, xs, t, ht, hd, hx, hw, rfl, rfl⟩, q⟩ := h
  obtain ⟨v1, v2, rfl, h1, h2⟩ := hr.two
  refine s_ret ?_ sub q
  by_cases hi' : ∃ x, d = .str x
  · obtain ⟨x, rfl⟩ := hi'
    have e : oneOfD (.str x) xs = (true && (false ^^ memD (.str x) (xs.map D.str))) := by rw [memD_strs]; simp [oneOfD]
    rw [e]
    refine ev_andV (ev_cb (ea_cons (ev_var rfl h1) (ea_cons ev_c ea_nil)) (.ty _ "str" "str" _ rfl (by decide +kernel))) fun _ => ev_op (ev_var rfl h1) (ev_var rfl h2) ?_
    rcases hw with rfl | rfl
    · have := InD.tup (neg := false) (.str x) (xs.map V.str) (hd x rfl) (flat_strs hx)
      rw [List.map_map] at this
      exact this
    · exact .lst _ _ (by rw [flatD]; exact hd x rfl) (flatDs_strs hx)
  · have e : oneOfD d xs = (false && true) := by
      unfold oneOfD
      split
      · exact absurd ⟨_, rfl⟩ hi'
      · rfl
    rw [e]
    exact ev_andV (ev_cb (ea_cons (ev_var rfl h1) (ea_cons ev_c ea_nil)) (.ty _ _ _ _ ht (kit_str ht hi'))) fun z => by simp at z
/-! ### check_rule -/
def rule_r : List D → D → Prop := fun ds r => ∃ b : Bk, b.Ok ∧ ds = [.dct b.rule] ∧ r = .non
def sp_check_rule (A : Str → Addr) (K : Kw) : Sp := spP K 1 rule_r
def t_check_rule (A : Str → Addr) (K : Kw) : TS := (tSeq (tAsg (tCB (rNn K ListN) (tCons (tC (.ref (A "POINTS"))) tNil)) (gName 1)) (tSeq (tIfS (tOr (tNot (tB (tCB (rPn K (IsiD K)) (tCons (tVar 0) (tCons (tC (.ty "dict")) tNil))))) (tOr (tTest (tOp (rP2 K NeD) (tCB (rPn K LenD) (tCons (tVar 0) tNil)) (tCB (rPn K LenD) (tCons (tVar 1) tNil)))) (tNot (tB (tCB (rPn K AllD) (tCons (tLockE (tLc (iKeys (tVar 0)) (gName 3) tYes (tCall (sp_is_one_of A K) [] E0 (tCons (tVar 3) (tCons (tVar 1) tNil))) [3])) tNil)))))) tNever tNext) (tFor (iSeq K (tVar 1)) (gName 2) (tIfS (tNot (tB (tCall (sp_is_one_of A K) [] E0 (tCons (tOp (rP2 K IxD) (tVar 0) (tVar 2)) (tCons (tOp (rP2 K IxD) (tC (.ref (A "POINTS"))) (tVar 2)) tNil))))) tNever tNext))))
theorem points_ok : ∀ x ∈ pointsL, PyData.strOk x = true := by decide +kernel
theorem keys_rule (b : Bk) : (b.rule.map fun p => kD p.1) = pointsL.map D.str := rfl
theorem keys_POINTS : (POINTSd.map fun p => kD p.1) = pointsL.map D.str := rfl
theorem oneOf_mem {x : Str} {xs : List Str} (h : x ∈ xs) : oneOfD (.str x) xs = true := by
  unfold oneOfD
  simpa using h
theorem rule_point {b : Bk} (h : b.Ok) {y : Str} (hy : y ∈ pointsL) : ∃ w ws, dkGet b.rule (.inr y) = some (.str w) ∧ dkGet POINTSd (.inr y) = some (strsD ws) ∧ w ∈ ws ∧ PyData.strOk w = true ∧ ∀ z ∈ ws, PyData.strOk z = true := by
  have k1 : ∀ z ∈ sDS, PyData.strOk z = true := by decide +kernel
  have k2 : ∀ z ∈ sKLM, PyData.strOk z = true := by decide +kernel
  have k3 : ∀ z ∈ sMS, PyData.strOk z = true := by decide +kernel
  have k4 : ∀ z ∈ sRT, PyData.strOk z = true := by decide +kernel
  unfold pointsL at hy
  simp only [List.mem_cons, List.not_mem_nil, or_false] at hy
  rcases hy with rfl | rfl | rfl | rfl | rfl
  · exact ⟨_, _, rfl, rfl, h.aw, k1 _ h.aw, k1⟩
  · exact ⟨_, _, rfl, rfl, h.bk, k2 _ h.bk, k2⟩
  · exact ⟨_, _, rfl, rfl, h.jo, k2 _ h.jo, k2⟩
  · exact ⟨_, _, rfl, rfl, h.sw, k3 _ h.sw, k3⟩
  · exact ⟨_, _, rfl, rfl, h.ti, k4 _ h.ti, k4⟩
theorem all_points : (pointsL.map fun x => oneOfD (.str x) pointsL).all id = true := by
  rw [List.all_map, List.all_eq_true]
  exact fun x hx => oneOf_mem hx
theorem m_check_rule {A : Str → Addr} {K : Kw} (T : TxPoints A K) (vs : List V) (H : Hp) (Q : VK) (E : XK) (h : sp_check_rule A K vs H Q E) : t_check_rule A K { nx := fun _ H' => Q .non H', rt := Q } (stn 4 vs) H := by
  obtain ⟨F, ds, r, sub, hr, hn, ⟨b, hb, rfl, rfl⟩, q⟩ := h
  obtain ⟨v1, rfl, h1⟩ := hr.one
  obtain ⟨pk, hpk, hpr⟩ := T.p
  have hP : ∀ F, Rep K F (.ref (A "POINTS")) (.kdc POINTSd) := fun F => .kd hpk (hpr F)
  refine q_asg (el_cb (ea_cons (ev_cD (hP _)) ea_nil) (.dct _ _ (.kd _))).ev sub fun v2 F1 H1 g1 r2 => ?_
  have h1' := h1.mono g1.ff
  rw [keys_POINTS] at r2
  cases h1' with | @dct a kvs _ ha hk =>
  refine q_when (K := K) (b := (!true) || ((!eqD (.int 5) (.int 5)) || !(List.all (pointsL.map fun x => oneOfD (.str x) pointsL) id))) (eb_or (eb_not (eb_B (ev_cb (ea_cons (ev_var rfl (.dct ha hk)) (ea_cons ev_c ea_nil)) (.ty _ "dict" "dict" _ rfl (by decide +kernel))))) fun _ =>
    eb_or (eb_test (ev_op (ev_cb (ea_cons (ev_var rfl (.dct ha hk)) ea_nil) (.dct _ _ (.dct _))) (ev_cb (ea_cons (ev_var rfl r2) ea_nil) (.lst _)) (.flat _ _ rfl rfl))) fun _ =>
      eb_not (eb_B (ev_cb (ea_cons (EvL.ev ?_) ea_nil) (.lst (pointsL.map fun x => oneOfD (.str x) pointsL))))) g1.sub (fun hc F2 H2 g2 => ?_) (fun hc F2 H2 g2 => ?_)
  · refine lock_el ha fun od => ?_
    have e : (pointsL.map fun x => oneOfD (.str x) pointsL).map D.bl = ((b.rule.map fun p => kD p.1).map fun d => oneOfD d pointsL).map D.bl := by
      rw [keys_rule, List.map_map]; rfl
    rw [e]
    refine el_mapB (it_keys (ev_var rfl (.v _)) upd_same (hk.relockN (lk_on ha) rfl)) (by rw [keys_rule, List.length_map]; decide) _ fun x hx v F' H' e1 e2 rx => eg_name ⟨rfl, ?_⟩
    rw [keys_rule] at hx
    obtain ⟨y, hy, rfl⟩ := List.mem_map.mp hx
    exact ev_call (ea_cons (ev_var rfl rx) (ea_cons (ev_var rfl ((r2.relockN (lk_on ha) rfl).mono e1)) ea_nil)) ⟨_, _, pointsL, "str", rfl, fun z hz => by cases hz; exact points_ok y hy, points_ok, .inr rfl, rfl, rfl⟩
  · rw [all_points] at hc
    exact absurd hc (by decide)
  · refine s_for (it_seq (ev_var rfl (r2.mono g2.ff)) (.lst _)) g2.sub (fun i σ F' H' => σ[0]? = some (some (.ref a)) ∧ σ.length = 4 ∧ Gr F H F' H') (fun F3 H3 g3 => ⟨⟨rfl, rfl, (g1.trans g2).trans g3⟩, fun i x v σ F4 H4 F5 H5 hx e4 ⟨hs, hl, p⟩ g5 rx => ?_⟩) fun σ F3 H3 e1 e2 ⟨hs, hl, p⟩ => q .non F3 H3 p (.v _)
    obtain ⟨y, hy, rfl⟩ := List.mem_map.mp (List.mem_of_getElem? hx)
    obtain ⟨w, ws, k1, k2, k3, k4, k5⟩ := rule_point hb hy
    have e15 : Ex F1 F5 := g2.ff.trans (g3.ff.trans (e4.trans g5.ff))
    obtain ⟨s0, s1, s2, s3, rfl⟩ : ∃ a b c d, σ = [a, b, c, d] := by
      match σ, hl with
      | [a, b, c, d], _ => exact ⟨a, b, c, d, rfl⟩
    have hs : s0 = some (.ref a) := Option.some.inj hs
    subst hs
    have ra : Rep K F5 (.ref a) (.dct b.rule) := (Rep.dct ha hk).mono e15
    refine eg_name (P := fun σ => σ = [some (.ref a), s1, some v, s3]) rfl _ fun σ' hσ => ?_
    subst hσ
    refine s_when (K := K) (b := !oneOfD (.str w) ws) (eb_not (eb_B (ev_call (ea_cons (ev_op (ev_var rfl ra) (ev_var rfl rx) (.dcS _ _ _ _ (.dct _) k1)) (ea_cons (ev_op (ev_cD (hP _)) (ev_var rfl rx) (.dcS _ _ _ _ (.kd _) k2)) ea_nil)) ⟨_, _, ws, "str", rfl, fun z hz => by cases hz; exact k4, k5, .inl rfl, rfl, rfl⟩))) g5.sub (fun hc F6 H6 g6 => ?_) fun hc F6 H6 g6 => ⟨F6, (e4.trans g5.ff).trans g6.ff, g6.sub, rfl, rfl, (p.trans g5).trans g6⟩
    rw [oneOf_mem k3] at hc
    exact absurd hc (by decide)
/-! ### are_words -/
def WORDSs : List Str := ["away", "leave", "swap"]
theorem WORDS_ok : ∀ x ∈ WORDSs, PyData.strOk x = true := by decide +kernel
structure TxWords (A : Str → Addr) (K : Kw) : Prop where
  w : ∀ F, Rep K F (.ref (A "WORDS")) (.tup (WORDSs.map D.str))
def wordsB (d : D) : Bool := match d with
  | .tup es => es.all (fun e => oneOfD e WORDSs) && riseB es
  | _ => false
/-- the same, and its texts are texts -/
def Known2 (d : D) : Prop := Known1 d ∧ ∀ es, d = .tup es → ∀ x, .str x ∈ es → PyData.strOk x = true
def words_r : List D → D → Prop := fun ds r => ∃ d, Known2 d ∧ ds = [d] ∧ r = .bl (wordsB d)
def sp_are_words (A : Str → Addr) (K : Kw) : Sp := spP K 1 words_r
def t_are_words (A : Str → Addr) (K : Kw) : TS := (tRet (tAndV (tCB (rPn K (IsiD K)) (tCons (tVar 0) (tCons (tC (.ty "tuple")) tNil))) (tAndV (tCB (rPn K AllD) (tCons (tLc (iSeq K (tVar 0)) (gName 1) tYes (tCall (sp_is_one_of A K) [] E0 (tCons (tVar 1) (tCons (tC (.ref (A "WORDS"))) tNil))) [1]) tNil)) (tCall (sp_is_rising A K) [] E0 (tCons (tVar 0) tNil)))))
theorem oneOf_str {d : D} {xs : List Str} (h : oneOfD d xs = true) : ∃ i, d = .str i := by
  unfold oneOfD at h
  split at h
  · exact ⟨_, rfl⟩
  · cases h
theorem all_strs {es : List D} (h : ∀ e ∈ es, ∃ i, e = .str i) : ∃ ns : List Str, es = ns.map D.str := by
  induction es with
  | nil => exact ⟨[], rfl⟩
  | cons e es ih =>
    obtain ⟨i, rfl⟩ := h e List.mem_cons_self
    obtain ⟨ns, rfl⟩ := ih fun e he => h e (List.mem_cons_of_mem _ he)
    exact ⟨i :: ns, rfl⟩
theorem m_are_words {A : Str → Addr} {K : Kw} (T : TxWords A K) (vs : List V) (H : Hp) (Q : VK) (E : XK) (h : sp_are_words A K vs H Q E) : t_are_words A K { nx := fun _ H' => Q .non H', rt := Q } (stn 2 vs) H := by
  obtain ⟨F, ds, r, sub, hr, hn, ⟨d, ⟨⟨⟨t, ht⟩, hk⟩, hs⟩, rfl, rfl⟩, q⟩ := h
  obtain ⟨v1, rfl, h1⟩ := hr.one
  refine s_ret ?_ sub q
  by_cases hi' : ∃ x, d = .tup x
  · obtain ⟨es, rfl⟩ := hi'
    obtain ⟨hlen, hty⟩ := hk es rfl
    have e : wordsB (.tup es) = (true && (((es.map fun e => oneOfD e WORDSs).all id) && riseB es)) := by simp [wordsB]
    rw [e]
    refine ev_andV (ev_cb (ea_cons (ev_var rfl h1) (ea_cons ev_c ea_nil)) (.ty _ "tuple" "tuple" _ rfl (by decide +kernel))) fun _ =>
      ev_andV (ev_cb (ea_cons (EvL.ev (el_mapB (it_seq (ev_var rfl h1) (.tup _)) (by rw [sizeLine_eq]; omega) _ fun x hx v F' H' e1 e2 rx => eg_name ⟨rfl, ?_⟩)) ea_nil) (.lst _)) fun hall => ev_call (ea_cons (ev_var rfl h1) ea_nil) ⟨es, .inr ?_, hlen, rfl, rfl⟩
    · obtain ⟨t, ht⟩ := hty x hx
      exact ev_call (ea_cons (ev_var rfl rx) (ea_cons (ev_cD (T.w _)) ea_nil)) ⟨x, _, WORDSs, t, ht, fun y hy => hs es rfl y (hy ▸ hx), WORDS_ok, .inl rfl, rfl, rfl⟩
    · refine all_strs fun e he => oneOf_str (xs := WORDSs) ?_
      rw [List.all_map, List.all_eq_true] at hall
      exact hall e he
  · have e : wordsB d = (false && true) := by
      unfold wordsB
      split
      · exact absurd ⟨_, rfl⟩ hi'
      · rfl
    rw [e]
    exact ev_andV (ev_cb (ea_cons (ev_var rfl h1) (ea_cons ev_c ea_nil)) (.ty _ _ _ _ ht (kit_tup ht hi'))) fun z => by simp at z
/-! ### Book -/
def book_r : List D → List (Str × D) → Prop := fun ds fs => ∃ b : Bk, b.Ok ∧ ds = b.args ∧ fs = b.fs
def sp_Book_init (A : Str → Addr) (K : Kw) : Sp := spInit K (A "Book") 5 book_r
def t_Book_init (A : Str → Addr) (K : Kw) : TS := (tSeq (tIfS (tNot (tB (tCall (sp_is_within A K) [] E0 (tCons (tVar 1) (tCons (tC (.int 2)) (tCons (tC (.int 3)) tNil)))))) tNever tNext) (tSeq (tIfS (tNot (tB (tCall (sp_are_weights A K) [] E0 (tCons (tVar 2) tNil)))) tNever tNext) (tSeq (tIfS (tNot (tB (tCall (sp_is_within A K) [] E0 (tCons (tVar 3) (tCons (tC (.int 1)) (tCons (tC (.int 4)) tNil)))))) tNever tNext) (tSeq (tDrop (tCall (sp_check_rule A K) [] E0 (tCons (tVar 4) tNil))) (tSeq (tIfS (tNot (tB (tCall (sp_are_words A K) [] E0 (tCons (tVar 5) tNil)))) tNever tNext) (tSeq (sFld K.K (tVar 0) (tVar 1) "many") (tSeq (sFld K.K (tVar 0) (tVar 2) "loads") (tSeq (sFld K.K (tVar 0) (tVar 3) "most") (tSeq (sFld K.K (tVar 0) (tDc (iKd K (tC (.ref (A "POINTS")))) (gName 6) tYes (tVar 6) (tOp (rP2 K IxD) (tVar 4) (tVar 6)) [6]) "manner") (sFld K.K (tVar 0) (tVar 5) "deed_words"))))))))))
theorem known_ints {ns : List Int} (h : ns.length < 1000) : Known1 (intsD ns) := ⟨⟨_, rfl⟩, fun es e => by
  cases e
  refine ⟨by rw [List.length_map]; exact h, fun d hd => ?_⟩
  obtain ⟨i, _, rfl⟩ := List.mem_map.mp hd
  exact ⟨_, rfl⟩⟩
theorem known_strs {xs : List Str} (h : xs.length < 1000) (hx : ∀ x ∈ xs, PyData.strOk x = true) : Known2 (strsD xs) := ⟨⟨⟨_, rfl⟩, fun es e => by
  cases e
  refine ⟨by rw [List.length_map]; exact h, fun d hd => ?_⟩
  obtain ⟨i, _, rfl⟩ := List.mem_map.mp hd
  exact ⟨_, rfl⟩⟩, fun es e x hm => by
  cases e
  obtain ⟨y, hy, e⟩ := List.mem_map.mp hm
  cases e
  exact hx _ hy⟩
theorem ok_weights {b : Bk} (h : b.Ok) : Known1 (intsD b.ws) ∧ weightsB (intsD b.ws) = true := by
  have h := h.ws
  simp only [List.mem_cons, List.not_mem_nil, or_false] at h
  rcases h with h | h | h | h | h | h <;> rw [h] <;> exact ⟨known_ints (by decide), by decide +kernel⟩
theorem ok_words {b : Bk} (h : b.Ok) : Known2 (strsD b.words) ∧ wordsB (strsD b.words) = true := by
  have h := h.words
  simp only [List.mem_cons, List.not_mem_nil, or_false] at h
  rcases h with h | h | h | h | h | h | h | h <;> rw [h] <;> exact ⟨known_strs (by decide) (by decide +kernel), by decide +kernel⟩
theorem ok_n {b : Bk} (h : b.Ok) : withinD (.int b.n) 2 3 = true := by
  rcases h.n with e | e <;> rw [e] <;> decide +kernel
theorem ok_cap {b : Bk} (h : b.Ok) : withinD (.int b.cap) 1 4 = true := by
  have h1 := h.c1
  have h2 := h.c2
  simp only [withinD]
  simp [h1, h2]
theorem m_Book_init {A : Str → Addr} {K : Kw} (T : TxPoints A K) (B : TxBook A K) (vs : List V) (H : Hp) (Q : VK) (E : XK) (h : sp_Book_init A K vs H Q E) : t_Book_init A K { nx := fun _ H' => Q .non H', rt := Q } (stn 7 vs) H := by
  obtain ⟨x, dx, vs, F, ds, fs, rfl, sub, n, hx, hr, hn, ⟨b, hb, rfl, rfl⟩, q⟩ := h
  obtain ⟨v1, v2, v3, v4, v5, rfl, r1, r2, r3, r4, r5⟩ := hr.five
  obtain ⟨pk, hpk, hpr⟩ := T.p
  have hP : ∀ F, Rep K F (.ref (A "POINTS")) (.kdc POINTSd) := fun F => .kd hpk (hpr F)
  have iv := objM.i n hx
  refine q_when (K := K) (b := !withinD (.int b.n) 2 3) (eb_not (eb_B (ev_call (ea_cons (ev_var rfl r1) (ea_cons ev_c (ea_cons ev_c ea_nil))) ⟨_, _, _, "int", rfl, rfl, rfl⟩))) sub (fun hc => by rw [ok_n hb] at hc; exact absurd hc (by decide)) (fun _ F1 H1 g1 => ?_)
  refine q_when (K := K) (b := !weightsB (intsD b.ws)) (eb_not (eb_B (ev_call (ea_cons (ev_var rfl (r2.mono g1.ff)) ea_nil) ⟨_, (ok_weights hb).1, rfl, rfl⟩))) g1.sub (fun hc => by rw [(ok_weights hb).2] at hc; exact absurd hc (by decide)) (fun _ F2 H2 g2 => ?_)
  refine q_when (K := K) (b := !withinD (.int b.cap) 1 4) (eb_not (eb_B (ev_call (ea_cons (ev_var rfl ((r3.mono g1.ff).mono g2.ff)) (ea_cons ev_c (ea_cons ev_c ea_nil))) ⟨_, _, _, "int", rfl, rfl, rfl⟩))) g2.sub (fun hc => by rw [ok_cap hb] at hc; exact absurd hc (by decide)) (fun _ F3 H3 g3 => ?_)
  have g13 := (g1.trans g2).trans g3
  refine q_drop (ev_call (ea_cons (ev_var rfl (r4.mono g13.ff)) ea_nil) ⟨b, hb, rfl, rfl⟩) g3.sub fun F4 H4 g4 => ?_
  have g14 := g13.trans g4
  refine q_when (K := K) (b := !wordsB (strsD b.words)) (eb_not (eb_B (ev_call (ea_cons (ev_var rfl (r5.mono g14.ff)) ea_nil) ⟨_, (ok_words hb).1, rfl, rfl⟩))) g4.sub (fun hc => by rw [(ok_words hb).2] at hc; exact absurd hc (by decide)) (fun _ F5 H5 g5 => ?_)
  have g15 := g14.trans g5
  obtain ⟨h5, n5⟩ := g15.own hx n
  refine qs_fld (ev_var rfl (r1.mono g15.ff)) rfl g5.sub h5 n5 B.c (B.a _ (by decide)) .nil rfl (by simp) fun w1 F6 H6 g6 h6 n6 q6 => ?_
  have a6 := ((g15.trans g6).w iv).put1 (o := .ins (A "Book") dx (([] : List (Str × V)) ++ [(("many" : Str), w1)]))
  refine qs_fld (ev_var rfl (r2.mono a6.ff)) rfl a6.sub upd_same n6 B.c (B.a _ (by decide)) q6 rfl (by simp) fun w2 F7 H7 g7 h7 n7 q7 => ?_
  have a7 := (a6.trans (g7.w a6.inv)).put1 (o := .ins (A "Book") dx ((([] : List (Str × V)) ++ [(("many" : Str), w1)]) ++ [(("loads" : Str), w2)]))
  refine qs_fld (ev_var rfl (r3.mono a7.ff)) rfl a7.sub upd_same n7 B.c (B.a _ (by decide)) q7 rfl (by simp) fun w3 F8 H8 g8 h8 n8 q8 => ?_
  have a8 := (a7.trans (g8.w a7.inv)).put1 (o := .ins (A "Book") dx (((([] : List (Str × V)) ++ [(("many" : Str), w1)]) ++ [(("loads" : Str), w2)]) ++ [(("most" : Str), w3)]))
  refine qs_fld (d := .dct b.rule) (ev_of_new ?_) rfl a8.sub upd_same n8 B.c (B.a _ (by decide)) q8 rfl (by simp) fun w4 F9 H9 g9 h9 n9 q9 => ?_
  · have e : (pointsL.map D.str).length < sizeLine := by rw [List.length_map]; decide
    refine ev_dc (ds := pointsL.map D.str) (it_kd (kds := POINTSd) (ev_cD (.v _)) hpk hpr) e (fun d => match d with | .v (.str y) => .inr y | _ => .inl 0) (fun d => match d with | .v (.str y) => (dkGet b.rule (.inr y)).getD .non | _ => .non) (by decide +kernel) fun d hd v F' H' e1 e2 rx => eg_name ⟨rfl, eb_yes, ?_, ?_⟩
    · obtain ⟨y, hy, rfl⟩ := List.mem_map.mp hd
      exact ev_var rfl rx
    · obtain ⟨y, hy, rfl⟩ := List.mem_map.mp hd
      obtain ⟨w, ws, k1, _⟩ := rule_point hb hy
      refine ev_op (ev_var rfl ((r4.mono a8.ff).mono e1)) (ev_var rfl rx) (.dcS _ _ _ _ (.dct _) ?_)
      show _ = some ((dkGet b.rule (.inr y)).getD .non)
      rw [k1]; rfl
  have a9 := (a8.trans (g9.w a8.inv)).put1 (o := .ins (A "Book") dx ((((([] : List (Str × V)) ++ [(("many" : Str), w1)]) ++ [(("loads" : Str), w2)]) ++ [(("most" : Str), w3)]) ++ [(("manner" : Str), w4)]))
  refine q_fld (ev_var rfl (r5.mono a9.ff)) rfl a9.sub upd_same n9 B.c (B.a _ (by decide)) q9 rfl (by simp) fun w5 F10 H10 g10 h10 n10 q10 => ?_
  exact q _ _ _ _ (a9.trans (g10.w a9.inv)).put1 upd_same q10
/-! ### the book of a draw -/
def law_made_r (A : Str → Addr) : List D → D → Prop := fun ds r => ∃ b : Bk, b.Ok ∧ ds = [drawnD b] ∧ r = bookD A b
def sp_law_made (A : Str → Addr) (K : Kw) : Sp := spP K 1 (law_made_r A)
def t_law_made (A : Str → Addr) (K : Kw) : TS := (tRet (tMake (A "Book") (sp_Book_init A K) [] E0 (tCons (tOp (rP2 K IxD) (tVar 0) (tC (.str "people"))) (tCons (tOp (rP2 K IxD) (tVar 0) (tC (.str "weights"))) (tCons (tOp (rP2 K IxD) (tVar 0) (tC (.str "cap"))) (tCons (tOp (rP2 K IxD) (tVar 0) (tC (.str "rule"))) (tCons (tOp (rP2 K IxD) (tVar 0) (tC (.str "words"))) tNil)))))))
section
variable {K : Kw} {σ : L2.St} {F : Hp} {te : TE} {b : Bk}
theorem ev_dpeople (h : EvD K te σ F (drawnD b)) : EvD K (tOp (rP2 K IxD) te (tC (.str "people"))) σ F (.int b.n) := ev_op h ev_c (.dcS _ _ _ _ (.dct _) rfl)
theorem ev_dweights (h : EvD K te σ F (drawnD b)) : EvD K (tOp (rP2 K IxD) te (tC (.str "weights"))) σ F (intsD b.ws) := ev_op h ev_c (.dcS _ _ _ _ (.dct _) rfl)
theorem ev_dcap (h : EvD K te σ F (drawnD b)) : EvD K (tOp (rP2 K IxD) te (tC (.str "cap"))) σ F (.int b.cap) := ev_op h ev_c (.dcS _ _ _ _ (.dct _) rfl)
theorem ev_drule (h : EvD K te σ F (drawnD b)) : EvD K (tOp (rP2 K IxD) te (tC (.str "rule"))) σ F (.dct b.rule) := ev_op h ev_c (.dcS _ _ _ _ (.dct _) rfl)
theorem ev_dwords (h : EvD K te σ F (drawnD b)) : EvD K (tOp (rP2 K IxD) te (tC (.str "words"))) σ F (strsD b.words) := ev_op h ev_c (.dcS _ _ _ _ (.dct _) rfl)
end
theorem m_law_made {A : Str → Addr} {K : Kw} (vs : List V) (H : Hp) (Q : VK) (E : XK) (h : sp_law_made A K vs H Q E) : t_law_made A K { nx := fun _ H' => Q .non H', rt := Q } (stn 1 vs) H := by
  obtain ⟨F, ds, r, sub, hr, hn, ⟨b, hb, rfl, rfl⟩, q⟩ := h
  obtain ⟨v1, rfl, h1⟩ := hr.one
  have e := ev_var (K := K) (σ := stn 1 [v1]) (i := 0) rfl h1
  exact s_ret (ev_make (ea_cons (ev_dpeople e) (ea_cons (ev_dweights e) (ea_cons (ev_dcap e) (ea_cons (ev_drule e) (ea_cons (ev_dwords e) ea_nil))))) ⟨b, hb, rfl, rfl⟩) sub q
/-! ### the law's deeds -/
def law_deeds_r : List D → List D → Prop := fun ds rs => ∃ b : Bk, b.Ok ∧ ds = [drawnD b] ∧ rs = deedsOf b
def sp_law_deeds (A : Str → Addr) (K : Kw) : Sp := spN K 1 law_deeds_r
def t_law_deeds (A : Str → Addr) (K : Kw) : TS := (tSeq (tAsg (tLc (iRng1 (tCons (tCB (rPn K LenD) (tCons (tOp (rP2 K IxD) (tVar 0) (tC (.str "weights"))) tNil)) tNil)) (gName 4) tYes (tTup (tCons (tC (.str "shift")) (tCons (tVar 4) tNil))) [4]) (gName 1)) (tSeq (tFor (iSeq K (tLst (tCons (tC (.str "away")) (tCons (tC (.str "back")) (tCons (tC (.str "join")) (tCons (tC (.str "leave")) (tCons (tC (.str "swap")) tNil))))))) (gName 2) (tSeq (tAsg (tOp (rP2 K IxD) (tDisp (((tC (.str "away")), (tC (.str "away"))) :: (((tC (.str "back")), (tC (.str "away"))) :: (((tC (.str "join")), (tC (.str "leave"))) :: (((tC (.str "leave")), (tC (.str "leave"))) :: (((tC (.str "swap")), (tC (.str "swap"))) :: [])))))) (tVar 2)) (gName 3)) (tIfS (tTest (tOp (rP2 K (InD false)) (tVar 3) (tOp (rP2 K IxD) (tVar 0) (tC (.str "words"))))) (tAsg (tOp (rP2 K AddD) (tVar 1) (tLc (iRng1 (tCons (tOp (rP2 K IxD) (tVar 0) (tC (.str "people"))) tNil)) (gName 5) tYes (tTup (tCons (tVar 2) (tCons (tVar 5) tNil))) [5])) (gName 1)) tNext))) (tRet (tCB (rNn K SortN) (tCons (tVar 1) tNil)))))
def lawTab : List (Str × Str) := [("away", "away"), ("back", "away"), ("join", "leave"), ("leave", "leave"), ("swap", "swap")]
def lawDeeds (b : Bk) (p : Str × Str) : List D := if b.words.any (· == p.2) = true then (rngD 0 b.n.toNat).map (dd p.1) else []
theorem law_raw (b : Bk) : shiftsD b ++ lawTab.flatMap (lawDeeds b) = deedsRaw b := by
  unfold deedsRaw
  congr 1
  simp only [lawTab, wordTab, List.flatMap_cons, List.flatMap_nil, lawDeeds, wordDeeds, List.append_nil]
  cases b.words.any (· == "away") <;> cases b.words.any (· == "leave") <;> cases b.words.any (· == "swap") <;> simp
def givenK : List (Key × D) := [(.inr "away", .str "away"), (.inr "back", .str "away"), (.inr "join", .str "leave"), (.inr "leave", .str "leave"), (.inr "swap", .str "swap")]
theorem lawTab_ok : ∀ p ∈ lawTab, dkGet givenK (.inr p.1) = some (.str p.2) ∧ PyData.strOk p.1 = true ∧ PyData.strOk p.2 = true := by
  intro p hp
  simp only [lawTab, List.mem_cons, List.not_mem_nil, or_false] at hp
  rcases hp with rfl | rfl | rfl | rfl | rfl <;> exact ⟨rfl, by decide +kernel, by decide +kernel⟩
theorem lawDeeds_len {b : Bk} (hb : b.Ok) (p : Str × Str) : (lawDeeds b p).length ≤ 3 := by
  unfold lawDeeds
  split
  · rw [List.length_map, rngD_len]
    rcases hb.n with e | e <;> rw [e] <;> decide
  · simp
theorem lawTab_len {b : Bk} (hb : b.Ok) : ∀ l : List (Str × Str), (l.flatMap (lawDeeds b)).length ≤ l.length * 3
  | [] => by simp
  | p :: l => by
    rw [List.flatMap_cons, List.length_append, List.length_cons]
    have := lawDeeds_len hb p
    have := lawTab_len hb l
    omega
theorem m_law_deeds {A : Str → Addr} {K : Kw} (vs : List V) (H : Hp) (Q : VK) (E : XK) (h : sp_law_deeds A K vs H Q E) : t_law_deeds A K { nx := fun _ H' => Q .non H', rt := Q } (stn 6 vs) H := by
  obtain ⟨F, ds, r, sub, hr, hn, ⟨b, hb, rfl, rfl⟩, q⟩ := h
  obtain ⟨v1, rfl, h1⟩ := hr.one
  have hwl := hb.ws_len
  have hnn : 0 ≤ b.n ∧ b.n ≤ 3 := by rcases hb.n with e | e <;> rw [e] <;> decide
  have lw : ((List.map D.int b.ws).length : Int) < 1000000 := by rw [List.length_map]; omega
  refine q_asg (el_map (it_rng1 (ea_cons (ev_cb (ea_cons (ev_dweights (ev_var rfl h1)) ea_nil) (.tup _)) ea_nil) (by omega) lw) (by rw [rngD_len, sizeLine_eq]; omega) (dd "shift") fun x hx v F' H' e1 e2 rx => eg_name ⟨rfl, ev_t2 ev_c (ev_var rfl rx)⟩).ev sub fun v2 F1 H1 g1 r2 => ?_
  have e3 : (rngD 0 ((List.map D.int b.ws).length : Int).toNat).map (dd "shift") = shiftsD b := by
    rw [List.length_map]; rfl
  rw [e3] at r2
  refine q_for (K := K) (it_seq (d := .lst (lawTab.map fun p => .str p.1)) (ev_l (ea_cons ev_c (ea_cons ev_c (ea_cons ev_c (ea_cons ev_c (ea_cons ev_c ea_nil)))))) (.lst _)) g1.sub
    (fun i σ F' H' => ∃ vf s2 s3 s4 s5, σ = [some v1, some vf, s2, s3, s4, s5] ∧ Gr F H F' H' ∧ Rep K F' vf (.lst (shiftsD b ++ (lawTab.take i).flatMap (lawDeeds b))))
    (fun F4 H4 g4 => ⟨⟨v2, _, _, _, _, rfl, g1.trans g4, by simpa using r2.mono g4.ff⟩, fun i x v σ F5 H5 F6 H6 hx e5 ⟨vf, s2, s3, s4, s5, hσ, gg, rf⟩ g6 rx => ?_⟩)
    fun σ F5 H5 e5 e5' ⟨vf, s2, s3, s4, s5, hσ, gg, rf⟩ => ?_
  · subst hσ
    obtain ⟨pw, hpw, rfl⟩ : ∃ pw, lawTab[i]? = some pw ∧ x = .str pw.1 := by
      rw [List.getElem?_map] at hx
      cases hw : lawTab[i]? with
      | none => rw [hw] at hx; cases hx
      | some w => rw [hw] at hx; exact ⟨w, rfl, (Option.some.inj hx).symm⟩
    have hmem := List.mem_of_getElem? hpw
    obtain ⟨k1, k2, k3⟩ := lawTab_ok pw hmem
    have etake : (lawTab.take (i + 1)).flatMap (lawDeeds b) = (lawTab.take i).flatMap (lawDeeds b) ++ lawDeeds b pw := by
      rw [List.take_add_one, hpw, List.flatMap_append]; simp
    have gg6 := gg.trans g6
    refine eg_name (P := fun σ => σ = [some v1, some vf, some v, s3, s4, s5]) rfl _ fun σ' hσ => ?_
    subst hσ
    refine q_asg (d := .str pw.2) (ev_op (ev_of_new (ps := givenK) (ev_disp (ep_cons (k := .inr "away") ev_c ev_c (ep_cons (k := .inr "back") ev_c ev_c (ep_cons (k := .inr "join") ev_c ev_c (ep_cons (k := .inr "leave") ev_c ev_c (ep_cons (k := .inr "swap") ev_c ev_c ep_nil))))) (by decide) (by decide +kernel))) (ev_var rfl rx) (.dcS _ _ _ _ (.dct _) k1)) g6.sub fun v3 F7 H7 g7 r7 => ?_
    have h17 := h1.mono (gg6.trans g7).ff
    refine s_when (K := K) (b := false ^^ b.words.any (· == pw.2)) (eb_test (ev_op (ev_var rfl r7) (ev_dwords (ev_var rfl h17)) (inD_strs k3 hb.words_ok))) g7.sub (fun hc F8 H8 g8 => ?_) fun hc F8 H8 g8 => ?_
    · rw [Bool.false_xor] at hc
      have g68 := (g6.trans g7).trans g8
      have e : lawDeeds b pw = (rngD 0 b.n.toNat).map (dd pw.1) := by unfold lawDeeds; rw [if_pos hc]
      refine s_asg (d := .lst ((shiftsD b ++ (lawTab.take i).flatMap (lawDeeds b)) ++ (rngD 0 b.n.toNat).map (dd pw.1))) (ev_op (ev_var rfl (rf.mono g68.ff)) (el_map (it_rng1 (ea_cons (ev_dpeople (ev_var rfl (h17.mono g8.ff))) ea_nil) hnn.1 (by omega)) (by rw [rngD_len, sizeLine_eq]; omega) (dd pw.1) fun x hx v F' H' e1 e2 rx' => eg_name ⟨rfl, ev_t2 (ev_var rfl ((rx.mono (g7.trans g8).ff).mono e1)) (ev_var rfl rx')⟩).ev (.lst _ _ ?_)) g8.sub fun v4 F9 H9 g9 r9 => ?_
      · have l1 := lawTab_len hb (lawTab.take i)
        have l2 : (lawTab.take i).length ≤ 5 := by rw [List.length_take]; exact Nat.min_le_right _ _
        have l3 : (shiftsD b).length = b.ws.length := by unfold shiftsD; rw [List.length_map, rngD_len]
        rw [List.length_append, List.length_map, rngD_len, sizeLine_eq]
        omega
      · refine ⟨F9, (e5.trans g68.ff).trans g9.ff, g9.sub, v4, _, _, _, _, rfl, (gg.trans g68).trans g9, ?_⟩
        rw [etake, e, ← List.append_assoc]
        exact r9
    · rw [Bool.false_xor] at hc
      have g68 := (g6.trans g7).trans g8
      refine ⟨F8, e5.trans g68.ff, g8.sub, vf, _, _, _, _, rfl, gg.trans g68, ?_⟩
      have : lawDeeds b pw = [] := by unfold lawDeeds; rw [if_neg (by rw [hc]; simp)]
      rw [etake, this, List.append_nil]
      exact rf.mono g68.ff
  · subst hσ
    have e : lawTab.take (lawTab.map fun p => D.str p.1).length = lawTab := rfl
    rw [e, law_raw] at rf
    exact s_retL (el_cb (ea_cons (ev_var rfl rf) ea_nil) (sort_deeds raw_like)) e5' fun p ws F6 H6 g6 hp n hl r => q p ws F6 H6 (gg.trans g6) (gg.hh.fresh hp) n hl r
/-! ### the law -/
def sp_law (A : Str → Addr) (K : Kw) : Sp := fun vs H Q _ => ∃ (a : Addr) (ns : List Int), vs = [.ref a] ∧ Only H ∧ SqL K.K H a (ns.map V.int) ∧ ∀ H', Q (.bl true) H'
def t_law (A : Str → Addr) (K : Kw) : TS := (tSeq (tAsg (tLst (tCons (tVar 0) (tCons (tC (.int 0)) (tCons (tC (.int 73)) (tCons (tC (.int 0)) tNil))))) (gName 1)) (tSeq (tFor (iRng1 (tCons (tC (.int 3)) tNil)) (gName 2) (tSeq (tAsg (tCall (sp_law_drawn A K) [] E0 (tCons (tVar 1) tNil)) (gName 3)) (tSeq (tAsg (tCall (sp_all_deeds A K) [] E0 (tCons (tCall (sp_law_made A K) [] E0 (tCons (tVar 3) tNil)) tNil)) (gName 4)) (tSeq (tIfS (tTest (tOp (rP2 K NeD) (tVar 4) (tCall (sp_law_deeds A K) [] E0 (tCons (tVar 3) tNil)))) (tRet (tC (.bl false))) tNext) (tDrop (tBM K.K "list" rAppend (tVar 4) (tCons (tTup (tCons (tC (.str "shift")) (tCons (tC (.int 2)) tNil))) tNil))))))) (tRet (tOp (rP2 K EqD) (tCall (sp_all_deeds A K) [] E0 (tCons (tCall (sp_law_made A K) [] E0 (tCons (tVar 3) tNil)) tNil)) (tCall (sp_law_deeds A K) [] E0 (tCons (tVar 3) tNil))))))
theorem flat_deeds (b : Bk) : flatD 8 (.lst (deedsOf b)) = true := by
  rw [flatD, flatDs_all, List.all_eq_true]
  intro d hd
  exact flat_deed (n := 6) (raw_like d ((List.mergeSort_perm _ _).mem_iff.mp hd))
theorem script_at {K : Kw} {H : Hp} {a : Addr} {ns : List Int} (ho : Only H) (h : SqL K.K H a (ns.map V.int)) : ∃ b, scrAt K a ns b H := by
  rcases h with (h | ⟨o, h⟩) | h
  · rcases ho a with z | ⟨o, xs, z⟩ <;> rw [z] at h <;> cases h
  · exact ⟨true, .inl ⟨rfl, o, h⟩⟩
  · exact ⟨false, .inr ⟨rfl, .inr h⟩⟩
/-- the row is laid -/
theorem row_laid {K : Kw} {F H F' H' : Hp} {a row : Addr} {ns : List Int} {b : Bool} {seed : Int} (hF : ∀ p, F p = none) (hs : scrAt K a ns b H) (g : Gr F H F' H') (n : F' row = none) (hr : rowAt row a 0 seed 0 H') : (rowM K row a ns b).I F' H' := by
  refine ⟨fun p w => ?_, ⟨0, seed, 0, hr, Int.le_refl _⟩, ?_⟩
  · rcases w with rfl | ⟨rfl, hb⟩
    · exact n
    · rcases hs with ⟨_, o, h⟩ | ⟨h, _⟩
      · exact (g.own h (hF p)).2
      · rw [hb] at h; cases h
  · rcases hs with ⟨hb, o, h⟩ | h
    · exact .inl ⟨hb, o, g.hh _ _ h⟩
    · exact .inr h
theorem m_law {A : Str → Addr} {K : Kw} (vs : List V) (H : Hp) (Q : VK) (E : XK) (h : sp_law A K vs H Q E) : t_law A K { nx := fun _ H' => Q .non H', rt := Q } (stn 5 vs) H := by
  obtain ⟨a, ns, rfl, ho, hs, q⟩ := h
  obtain ⟨b, hsc⟩ := script_at ho hs
  refine q_asgL (K := K) (F := fun _ => none) (el_lst (ea_cons (ev_var rfl (.v _)) (ea_cons ev_c (ea_cons ev_c (ea_cons ev_c ea_nil)))) (by rw [sizeLine_eq]; simp)) (fun _ _ h => nomatch h) fun row xs F1 H1 g1 hp n1 h1 r1 => ?_
  have ex : xs = [.ref a, .int 0, .int 73, .int 0] := Reps.of_vals (xs := [.ref a, .int 0, .int 73, .int 0]) r1
  subst ex
  have iv := row_laid (K := K) (seed := 73) (fun _ => rfl) hsc g1 n1 h1
  refine q_for (K := K) (it_rng1 (n := 3) (ea_cons ev_c ea_nil) (by decide) (by decide)) g1.sub
    (fun i σ F' H' => ∃ s2 s3 s4, σ = [some (.ref a), some (.ref row), s2, s3, s4] ∧ (rowM K row a ns b).I F' H' ∧ (i = 0 ∨ ∃ v bk, s3 = some v ∧ Drawn bk ∧ Rep K F' v (drawnD bk)))
    (fun F4 H4 g4 => ⟨⟨_, _, _, rfl, (g4.w iv).inv, .inl rfl⟩, fun i x v σ F5 H5 F6 H6 hx e5 ⟨s2, s3, s4, hσ, iv5, _⟩ g6 rx => ?_⟩)
    fun σ F5 H5 e5 e5' ⟨s2, s3, s4, hσ, iv5, hd⟩ => ?_
  · subst hσ
    refine eg_name (P := fun σ => σ = [some (.ref a), some (.ref row), some v, s3, s4]) rfl _ fun σ' hσ => ?_
    subst hσ
    have iv6 := (g6.w iv5).inv
    refine q_asgW (ew_callD (ea_cons (ev_var rfl (.v _)) ea_nil) ⟨⟨row, a, ns, b, rfl, rfl⟩, rfl⟩) g6.sub iv6 fun d w F7 H7 ⟨bk, hbk, ed⟩ g7 r7 => ?_
    subst ed
    refine q_asgL (el_call (ea_cons (ev_call (ea_cons (ev_var rfl r7) ea_nil) ⟨bk, hbk.1, rfl, rfl⟩) ea_nil) ⟨bk, hbk.1, rfl, rfl⟩) g7.sub fun p xs F8 H8 g8 hp n8 h8 r8 => ?_
    have iv8 := (g8.w g7.inv).inv
    have wp : ¬ (rowM K row a ns b).W p := g7.inv.nw hp
    have sub8 : Ex (upd F8 p (.lst xs)) H8 := fun c o e => by
      by_cases z : c = p
      · subst z; rw [upd_same] at e; rw [h8]; exact e
      · rw [upd_ne z] at e; exact g8.sub _ _ e
    have iv8' : (rowM K row a ns b).I (upd F8 p (.lst xs)) H8 := ⟨fun c w => by
      have : c ≠ p := fun z => wp (z ▸ w)
      rw [upd_ne this]; exact iv8.out c w, iv8.st⟩
    have n8' : Ex F8 (upd F8 p (.lst xs)) := .new n8
    refine q_when (K := K) (F := upd F8 p (.lst xs)) (b := !eqD (.lst (deedsOf bk)) (.lst (deedsOf bk))) (eb_test (ev_op (ev_var rfl (.lst upd_same (r8.mono n8'))) (EvL.ev (el_call (ea_cons (ev_var rfl ((r7.mono g8.ff).mono n8')) ea_nil) ⟨bk, hbk.1, rfl, rfl⟩)) (.flat _ _ (flat_deeds bk) (flat_deeds bk)))) sub8 (fun hc => by rw [eqD_self] at hc; exact absurd hc (by decide)) fun hc F9 H9 g9 => ?_
    have iv9 := ((g9.w iv8').inv).anti (n8'.trans g9.ff)
    have sub9 : Ex F8 H9 := (n8'.trans g9.ff).trans g9.sub
    have h9 : H9 p = some (.lst xs) := g9.hh _ _ h8
    refine s_app (F := F8) (ev_var rfl (.v _)) (ev_t2 ev_c ev_c) sub9 h9 ?_ fun z F10 H10 g10 r10 => ?_
    · have l1 := r8.length
      have l2 : (deedsOf bk).length = (deedsRaw bk).length := List.length_mergeSort _
      have l3 : (deedsRaw bk).length ≤ 100 := by
        rw [← law_raw, List.length_append]
        have := lawTab_len hbk.1 lawTab
        have h3 : lawTab.length = 5 := rfl
        have : (shiftsD bk).length = bk.ws.length := by unfold shiftsD; rw [List.length_map, rngD_len]
        have := hbk.1.ws_len
        omega
      rw [sizeLine_eq]; omega
    · obtain ⟨h10, n10⟩ := g10.own h9 n8
      exact ⟨F10, e5.trans (g6.ff.trans (g7.ff.trans (g8.ff.trans g10.ff))), g10.sub.mut n10, _, _, _, rfl, (g10.w iv9).inv.put wp, .inr ⟨w, bk, rfl, hbk, r7.mono (g8.ff.trans g10.ff)⟩⟩
  · subst hσ
    rcases hd with hd | ⟨w, bk, rfl, hbk, r7⟩
    · exact absurd hd (by decide)
    refine s_ret (ev_op (EvL.ev (el_call (ea_cons (ev_call (ea_cons (ev_var rfl r7) ea_nil) ⟨bk, hbk.1, rfl, rfl⟩) ea_nil) ⟨bk, hbk.1, rfl, rfl⟩)) (EvL.ev (el_call (ea_cons (ev_var rfl r7) ea_nil) ⟨bk, hbk.1, rfl, rfl⟩)) (.flat _ _ (flat_deeds bk) (flat_deeds bk))) e5' fun v F6 H6 g6 r6 => ?_
    have e := r6.val
    subst e
    rw [eqD_self]
    exact q H6
/-! ### the text -/
def top (i : Nat) : Stmt := PySem.Challenge.pw_debtroster_k03_deeds_listed.main.body.getD i (.Pass ⟨0, 0, 0, 0⟩)
def s_law_taken : Stmt := top 23
theorem sc_law_taken : FnScope ["_law_row", "_law_many", "_law_found", "_law_cell"] ["_law_row", "_law_many"] (defScope s_law_taken) := ⟨rfl, rfl, rfl, by decide +kernel, rfl, by decide +kernel, by decide +kernel⟩
def s_law_rule : Stmt := top 24
theorem sc_law_rule : FnScope ["_law_row", "_law_some", "_law_points", "_law_found", "_law_k"] ["_law_row"] (defScope s_law_rule) := ⟨rfl, rfl, rfl, by decide +kernel, rfl, by decide +kernel, by decide +kernel⟩
def s_law_drawn : Stmt := top 25
theorem sc_law_drawn : FnScope ["_law_row", "_law_d", "_law_weights", "_law_word"] ["_law_row"] (defScope s_law_drawn) := ⟨rfl, rfl, rfl, by decide +kernel, rfl, by decide +kernel, by decide +kernel⟩
def s_all_deeds_of : Stmt := top 7
theorem sc_all_deeds_of : FnScope ["book", "people", "found", "word", "deeds", "kind", "deed", "person"] ["book"] (defScope s_all_deeds_of) := ⟨rfl, rfl, rfl, by decide +kernel, rfl, by decide +kernel, by decide +kernel⟩
def s_all_deeds : Stmt := top 9
theorem sc_all_deeds : FnScope ["book"] ["book"] (defScope s_all_deeds) := ⟨rfl, rfl, rfl, by decide +kernel, rfl, by decide +kernel, by decide +kernel⟩
def s_is_within : Stmt := top 15
theorem sc_is_within : FnScope ["value", "low", "high"] ["value", "low", "high"] (defScope s_is_within) := ⟨rfl, rfl, rfl, by decide +kernel, rfl, by decide +kernel, by decide +kernel⟩
def s_is_rising : Stmt := top 17
theorem sc_is_rising : FnScope ["things", "one", "other"] ["things"] (defScope s_is_rising) := ⟨rfl, rfl, rfl, by decide +kernel, rfl, by decide +kernel, by decide +kernel⟩
def s_are_weights : Stmt := top 18
theorem sc_are_weights : FnScope ["value", "weight"] ["value"] (defScope s_are_weights) := ⟨rfl, rfl, rfl, by decide +kernel, rfl, by decide +kernel, by decide +kernel⟩
def s_is_one_of : Stmt := top 16
theorem sc_is_one_of : FnScope ["value", "words"] ["value", "words"] (defScope s_is_one_of) := ⟨rfl, rfl, rfl, by decide +kernel, rfl, by decide +kernel, by decide +kernel⟩
def s_check_rule : Stmt := top 20
theorem sc_check_rule : FnScope ["value", "points", "point", "one"] ["value"] (defScope s_check_rule) := ⟨rfl, rfl, rfl, by decide +kernel, rfl, by decide +kernel, by decide +kernel⟩
def s_are_words : Stmt := top 19
theorem sc_are_words : FnScope ["value", "word"] ["value"] (defScope s_are_words) := ⟨rfl, rfl, rfl, by decide +kernel, rfl, by decide +kernel, by decide +kernel⟩
def s_Book_init : Stmt := inClass (top 21) 0
theorem sc_Book_init : FnScope ["self", "people", "weights", "cap", "rule", "words", "point"] ["self", "people", "weights", "cap", "rule", "words"] (defScope s_Book_init) := ⟨rfl, rfl, rfl, by decide +kernel, rfl, by decide +kernel, by decide +kernel⟩
def s_law_made : Stmt := top 28
theorem sc_law_made : FnScope ["_law_d"] ["_law_d"] (defScope s_law_made) := ⟨rfl, rfl, rfl, by decide +kernel, rfl, by decide +kernel, by decide +kernel⟩
def s_law_deeds : Stmt := top 29
theorem sc_law_deeds : FnScope ["_law_d", "_law_found", "_law_word", "_law_given", "_law_kind", "_law_person"] ["_law_d"] (defScope s_law_deeds) := ⟨rfl, rfl, rfl, by decide +kernel, rfl, by decide +kernel, by decide +kernel⟩
def s_law : Stmt := top 30
theorem sc_law : FnScope ["_law_script", "_law_row", "_law_turn", "_law_d", "_law_found"] ["_law_script"] (defScope s_law) := ⟨rfl, rfl, rfl, by decide +kernel, rfl, by decide +kernel, by decide +kernel⟩
structure Fx (w : World) (K : PySem.W.Frag) (mg : Str → Option Value) : Prop where
  d_law_taken : ∃ fd, FunD K "_law_taken" "_law_taken" (defArgs s_law_taken) (defBody s_law_taken) (defScope s_law_taken) [] [] (He.fAd K ("_law_taken", none)) fd
  d_law_rule : ∃ fd, FunD K "_law_rule" "_law_rule" (defArgs s_law_rule) (defBody s_law_rule) (defScope s_law_rule) [] [] (He.fAd K ("_law_rule", none)) fd
  d_law_drawn : ∃ fd, FunD K "_law_drawn" "_law_drawn" (defArgs s_law_drawn) (defBody s_law_drawn) (defScope s_law_drawn) [] [] (He.fAd K ("_law_drawn", none)) fd
  d_all_deeds_of : ∃ fd, FunD K "all_deeds_of" "all_deeds_of" (defArgs s_all_deeds_of) (defBody s_all_deeds_of) (defScope s_all_deeds_of) [] [] (He.fAd K ("all_deeds_of", none)) fd
  d_all_deeds : ∃ fd, FunD K "all_deeds" "all_deeds" (defArgs s_all_deeds) (defBody s_all_deeds) (defScope s_all_deeds) [] [] (He.fAd K ("all_deeds", none)) fd
  d_is_within : ∃ fd, FunD K "is_within" "is_within" (defArgs s_is_within) (defBody s_is_within) (defScope s_is_within) [] [] (He.fAd K ("is_within", none)) fd
  d_is_rising : ∃ fd, FunD K "is_rising" "is_rising" (defArgs s_is_rising) (defBody s_is_rising) (defScope s_is_rising) [] [] (He.fAd K ("is_rising", none)) fd
  d_are_weights : ∃ fd, FunD K "are_weights" "are_weights" (defArgs s_are_weights) (defBody s_are_weights) (defScope s_are_weights) [] [] (He.fAd K ("are_weights", none)) fd
  d_is_one_of : ∃ fd, FunD K "is_one_of" "is_one_of" (defArgs s_is_one_of) (defBody s_is_one_of) (defScope s_is_one_of) [] [] (He.fAd K ("is_one_of", none)) fd
  d_check_rule : ∃ fd, FunD K "check_rule" "check_rule" (defArgs s_check_rule) (defBody s_check_rule) (defScope s_check_rule) [] [] (He.fAd K ("check_rule", none)) fd
  d_are_words : ∃ fd, FunD K "are_words" "are_words" (defArgs s_are_words) (defBody s_are_words) (defScope s_are_words) [] [] (He.fAd K ("are_words", none)) fd
  d_Book_init : ∃ fd, FunD K "__init__" "Book.__init__" (defArgs s_Book_init) (defBody s_Book_init) (defScope s_Book_init) [] [] (He.fAd K ("Book", some "__init__")) fd
  d_law_made : ∃ fd, FunD K "_law_made" "_law_made" (defArgs s_law_made) (defBody s_law_made) (defScope s_law_made) [] [] (He.fAd K ("_law_made", none)) fd
  d_law_deeds : ∃ fd, FunD K "_law_deeds" "_law_deeds" (defArgs s_law_deeds) (defBody s_law_deeds) (defScope s_law_deeds) [] [] (He.fAd K ("_law_deeds", none)) fd
  d_law : ∃ fd, FunD K "law" "law" (defArgs s_law) (defBody s_law) (defScope s_law) [] [] (He.fAd K ("law", none)) fd
  m_law_taken : mg "_law_taken" = some (.ref (He.ga K "_law_taken"))
  m_law_rule : mg "_law_rule" = some (.ref (He.ga K "_law_rule"))
  m_law_drawn : mg "_law_drawn" = some (.ref (He.ga K "_law_drawn"))
  m_all_deeds_of : mg "all_deeds_of" = some (.ref (He.ga K "all_deeds_of"))
  m_all_deeds : mg "all_deeds" = some (.ref (He.ga K "all_deeds"))
  m_is_within : mg "is_within" = some (.ref (He.ga K "is_within"))
  m_is_rising : mg "is_rising" = some (.ref (He.ga K "is_rising"))
  m_are_weights : mg "are_weights" = some (.ref (He.ga K "are_weights"))
  m_is_one_of : mg "is_one_of" = some (.ref (He.ga K "is_one_of"))
  m_check_rule : mg "check_rule" = some (.ref (He.ga K "check_rule"))
  m_are_words : mg "are_words" = some (.ref (He.ga K "are_words"))
  m_law_made : mg "_law_made" = some (.ref (He.ga K "_law_made"))
  m_law_deeds : mg "_law_deeds" = some (.ref (He.ga K "_law_deeds"))
  m_law : mg "law" = some (.ref (He.ga K "law"))
  m_Book_init : mg "Book" = some (.ref (He.ga K "Book"))
  k_Book : Mk K (He.ga K "Book") (He.ma K (He.ga K "Book") "__init__")
  g_int : mg "int" = none
  g_len : mg "len" = none
  g_range : mg "range" = none
  g_tuple : mg "tuple" = none
  g_list : mg "list" = none
  g_sorted : mg "sorted" = none
  g_isinstance : mg "isinstance" = none
  g_bool : mg "bool" = none
  g_all : mg "all" = none
  g_zip : mg "zip" = none
  g_str : mg "str" = none
  g_dict : mg "dict" = none
  g_MOST_WEIGHT : ∃ t, mg "MOST_WEIGHT" = some (.int 3 t)
  g_POINTS : mg "POINTS" = some (.ref (He.ga K "POINTS"))
  g_WORDS : mg "WORDS" = some (.ref (He.ga K "WORDS"))
  g_MOST_CAP : ∃ t, mg "MOST_CAP" = some (.int 4 t)
  tBook : TxBook (He.ga K) ⟨K, w⟩
  tPoints : TxPoints (He.ga K) ⟨K, w⟩
  tWords : TxWords (He.ga K) ⟨K, w⟩
section
variable {P : Program} {w : World} {K : PySem.W.Frag} {mg : Str → Option Value} {base : Heap}
theorem d_law_taken (X : Fx w K mg) : Df CX0 P w K mg base 1 ("_law_taken", none) ["_law_row", "_law_many"] (sp_law_taken (He.ga K) ⟨K, w⟩) := by
  obtain ⟨fd, F⟩ := X.d_law_taken
  have g_int := X.g_int
  have g_len := X.g_len
  exact ⟨⟨fd, F.ok sc_law_taken (fun vs H Q E h => by first | exact spP_len vs H Q E h | exact spN_len vs H Q E h | exact spW_len vs H Q E h | exact spInit_len vs H Q E h) (fun cdv A outer s H vs Q E hr h => ⟨t_law_taken (He.ga K) ⟨K, w⟩, PSs.nox (pss_cons (ps_if (pt_cmpR op_gtD (pe_ix ix_D (pv 0) pe_int (fun _ _ => rfl)) pe_int (nomark _)) (pss_cons (ps_set (i := 2) sc_law_taken.nd rfl (Or.inl rfl) (pe_op op_modD (pe_callTy call_intD rfl g_int (by decide +kernel) (pa_cons (pe_ix ix_D (pv 0) pe_int (fun _ _ => rfl)) pa_nil)) (pv 1))) (pss_cons (ps_asg (pe_op op_fdivD (pe_ix ix_D (pv 0) pe_int (fun _ _ => rfl)) (pv 1)) (pg_sub (pv 0) pe_int (set_D hr.units))) (pss_one (ps_ret (pv 2))))) pss_nil) (pss_cons (ps_asg (pe_op op_addD (pe_ix ix_D (pv 0) pe_int (fun _ _ => rfl)) pe_int) (pg_sub (pv 0) pe_int (set_D hr.units))) (pss_cons (ps_if (pt_cmpR op_gtD (pe_ix ix_D (pv 0) pe_int (fun _ _ => rfl)) (pe_callB call_lenP rfl g_len PySem.boot_len (pa_cons (pe_ix ix_D (pv 0) pe_int (fun _ _ => rfl)) pa_nil)) (nomark _)) (pss_cons (ps_asg (pe_op op_modD (pe_callTy call_intD rfl g_int (by decide +kernel) (pa_cons (pe_op op_addD (pe_op op_mulD (pe_ix ix_D (pv 0) pe_int (fun _ _ => rfl)) pe_int) pe_int) pa_nil)) pe_int) (pg_sub (pv 0) pe_int (set_D hr.units))) (pss_one (ps_ret (pe_op op_modD (pe_callTy call_intD rfl g_int (by decide +kernel) (pa_cons (pe_op op_fdivD (pe_ix ix_D (pv 0) pe_int (fun _ _ => rfl)) pe_int) pa_nil)) (pv 1))))) pss_nil) (pss_cons (ps_set (i := 3) sc_law_taken.nd rfl (Or.inl rfl) (pe_ix ix_D (pe_ix ix_D (pv 0) pe_int (fun _ _ => rfl)) (pe_op op_subD (pe_ix ix_D (pv 0) pe_int (fun _ _ => rfl)) pe_int) (fun _ _ => rfl))) (pss_cons (ps_asg (pe_op op_modD (pe_callTy call_intD rfl g_int (by decide +kernel) (pa_cons (pe_op op_addD (pe_op op_addD (pe_op op_mulD (pe_ix ix_D (pv 0) pe_int (fun _ _ => rfl)) pe_int) (pv 3)) pe_int) pa_nil)) pe_int) (pg_sub (pv 0) pe_int (set_D hr.units))) (pss_cons (ps_if (pt_cmpR op_geD (pv 3) (pe_op op_powD pe_int pe_int) (nomark _)) (pss_one (ps_asg (pe_op op_fdivD (pv 3) (pv 1)) (pg_sub (pv 0) pe_int (set_D hr.units)))) pss_nil) (pss_one (ps_ret (pe_op op_modD (pe_callTy call_intD rfl g_int (by decide +kernel) (pa_cons (pv 3) pa_nil)) (pv 1)))))))))), m_law_taken  vs H Q E h⟩), F.bindsN fun _ _ _ _ _ _ us hl => match us, hl with | [_, _], _ => rfl⟩, F.kp⟩
theorem d_law_rule (X : Fx w K mg) : Df CX0 P w K mg base 2 ("_law_rule", none) ["_law_row"] (sp_law_rule (He.ga K) ⟨K, w⟩) := by
  obtain ⟨fd, F⟩ := X.d_law_rule
  have f_law_taken := And.intro (d_law_taken (P := P) (base := base) X) X.m_law_taken
  have g_range := X.g_range
  have g_len := X.g_len
  exact ⟨⟨fd, F.ok sc_law_rule (fun vs H Q E h => by first | exact spP_len vs H Q E h | exact spN_len vs H Q E h | exact spW_len vs H Q E h | exact spInit_len vs H Q E h) (fun cdv A outer s H vs Q E hr h => ⟨t_law_rule (He.ga K) ⟨K, w⟩, PSs.nox (pss_cons (ps_set (i := 1) sc_law_rule.nd rfl (Or.inl rfl) (pe_lst (pa_cons (pe_lst (pa_cons pe_str (pa_cons pe_str pa_nil))) (pa_cons (pe_lst (pa_cons pe_str (pa_cons pe_str (pa_cons pe_str pa_nil)))) (pa_cons (pe_lst (pa_cons pe_str (pa_cons pe_str (pa_cons pe_str pa_nil)))) pa_nil))))) (pss_cons (ps_set (i := 1) sc_law_rule.nd rfl (Or.inl rfl) (pe_op op_addD (pv 1) (pe_lst (pa_cons (pe_lst (pa_cons pe_str (pa_cons pe_str pa_nil))) (pa_cons (pe_lst (pa_cons pe_str (pa_cons pe_str pa_nil))) pa_nil))))) (pss_cons (ps_set (i := 2) sc_law_rule.nd rfl (Or.inl rfl) (pe_lst (pa_cons pe_str (pa_cons pe_str (pa_cons pe_str (pa_cons pe_str (pa_cons pe_str pa_nil))))))) (pss_cons (ps_set (i := 3) sc_law_rule.nd rfl (Or.inl rfl) pe_dnewK) (pss_cons (ps_for PassesOwn.never rfl (pi_range1 rfl g_range (pa_cons pe_int pa_nil)) (pg_name (i := 4) sc_law_rule.nd rfl (Or.inl rfl)) (pss_one (ps_asg (pe_ix ix_D (pe_ix ix_D (pv 1) (pv 4) (fun _ _ => rfl)) (pe_callF f_law_taken.1 f_law_taken.2 hr pass0 (pa_cons (pv 0) (pa_cons (pe_callB call_lenP rfl g_len PySem.boot_len (pa_cons (pe_ix ix_D (pv 1) (pv 4) (fun _ _ => rfl)) pa_nil)) pa_nil))) (fun _ _ => rfl)) (pg_sub (pv 3) (pe_ix ix_D (pv 2) (pv 4) (fun _ _ => rfl)) (set_D hr.units))))) (pss_one (ps_ret (pv 3)))))))), m_law_rule  vs H Q E h⟩), F.bindsN fun _ _ _ _ _ _ us hl => match us, hl with | [_], _ => rfl⟩, F.kp⟩
theorem d_law_drawn (X : Fx w K mg) : Df CX0 P w K mg base 3 ("_law_drawn", none) ["_law_row"] (sp_law_drawn (He.ga K) ⟨K, w⟩) := by
  obtain ⟨fd, F⟩ := X.d_law_drawn
  have f_law_rule := And.intro (d_law_rule (P := P) (base := base) X) X.m_law_rule
  have f_law_taken := And.intro (d_law_taken (P := P) (base := base) X) X.m_law_taken
  have g_tuple := X.g_tuple
  exact ⟨⟨fd, F.ok sc_law_drawn (fun vs H Q E h => by first | exact spP_len vs H Q E h | exact spN_len vs H Q E h | exact spW_len vs H Q E h | exact spInit_len vs H Q E h) (fun cdv A outer s H vs Q E hr h => ⟨t_law_drawn (He.ga K) ⟨K, w⟩, PSs.nox (pss_cons (ps_set (i := 1) sc_law_drawn.nd rfl (Or.inl rfl) (pe_disp (pps_cons pe_str (pe_ix ix_D (pe_lst (pa_cons pe_int (pa_cons pe_int (pa_cons pe_int pa_nil)))) (pe_callF f_law_taken.1 f_law_taken.2 hr pass0 (pa_cons (pv 0) (pa_cons pe_int pa_nil))) (fun _ _ => rfl)) (pps_cons pe_str (pe_callF f_law_rule.1 f_law_rule.2 hr pass0 (pa_cons (pv 0) pa_nil)) pps_nil)) (by rfl) (by rfl) (fun z => by cases z) (by decide))) (pss_cons (ps_set (i := 2) sc_law_drawn.nd rfl (Or.inl rfl) (pe_lst (pa_cons (pe_tup (pa_cons pe_int pa_nil)) (pa_cons (pe_tup (pa_cons pe_int pa_nil)) (pa_cons (pe_tup (pa_cons pe_int (pa_cons pe_int pa_nil))) (pa_cons (pe_tup (pa_cons pe_int (pa_cons pe_int pa_nil))) (pa_cons (pe_tup (pa_cons pe_int pa_nil)) (pa_cons (pe_tup (pa_cons pe_int (pa_cons pe_int pa_nil))) pa_nil)))))))) (pss_cons (ps_asg (pe_ix ix_D (pv 2) (pe_callF f_law_taken.1 f_law_taken.2 hr pass0 (pa_cons (pv 0) (pa_cons (pe_ix ix_D (pe_lst (pa_cons pe_int (pa_cons pe_int pa_nil))) (pe_op op_subD (pe_ix ix_D (pv 1) pe_str (fun _ _ => rfl)) pe_int) (fun _ _ => rfl)) pa_nil))) (fun _ _ => rfl)) (pg_sub (pv 1) pe_str (set_D hr.units))) (pss_cons (ps_asg (pe_op op_addD pe_int (pe_callF f_law_taken.1 f_law_taken.2 hr pass0 (pa_cons (pv 0) (pa_cons (pe_ix ix_D (pe_lst (pa_cons pe_int (pa_cons pe_int pa_nil))) (pe_op op_subD (pe_ix ix_D (pv 1) pe_str (fun _ _ => rfl)) pe_int) (fun _ _ => rfl)) pa_nil)))) (pg_sub (pv 1) pe_str (set_D hr.units))) (pss_cons (ps_asg (pe_callTy call_tupleD rfl g_tuple (by decide +kernel) (pa_cons (pe_lc (own := [("_law_word", 3)]) rfl sc_law_drawn.nd (pi_seq (pe_lst (pa_cons pe_str (pa_cons pe_str (pa_cons pe_str pa_nil))))) (blkOk_by (own := [("_law_word", 3)]) (N := ["_law_row", "_law_d", "_law_weights", "_law_word"]) (sc := defScope s_law_drawn) (by decide +kernel)) (fun _ _ _ _ _ => (pg_name (i := 3) sc_law_drawn.nd rfl (Or.inl rfl))) (fun _ _ _ _ _ => (pts_one (pt_cmpR (op_eqP hr.units) (pe_callF f_law_taken.1 f_law_taken.2 hr pass0 (pa_cons (pv 0) (pa_cons pe_int pa_nil))) pe_int (nomark _)))) (fun _ _ _ _ _ => (pv 3))) pa_nil)) (pg_sub (pv 1) pe_str (set_D hr.units))) (pss_cons (ps_if (pt_cmpR (op_eqP hr.units) (pe_ix ix_D (pv 1) pe_str (fun _ _ => rfl)) pe_int (nomark _)) (pss_cons (ps_asg (pe_slice sl_D (pe_ix ix_D (pv 1) pe_str (fun _ _ => rfl)) po_none (po_some pe_int)) (pg_sub (pv 1) pe_str (set_D hr.units))) (pss_one (ps_if (pt_cmpR (op_eqP hr.units) (pe_ix ix_D (pe_ix ix_D (pv 1) pe_str (fun _ _ => rfl)) pe_str (fun _ _ => rfl)) pe_str (nomark _)) (pss_one (ps_asg pe_int (pg_sub (pv 1) pe_str (set_D hr.units)))) pss_nil))) pss_nil) (pss_one (ps_ret (pv 1))))))))), m_law_drawn  vs H Q E h⟩), F.bindsN fun _ _ _ _ _ _ us hl => match us, hl with | [_], _ => rfl⟩, F.kp⟩
theorem d_all_deeds_of (X : Fx w K mg) : Df CX0 P w K mg base 1 ("all_deeds_of", none) ["book"] (sp_all_deeds_of (He.ga K) ⟨K, w⟩) := by
  obtain ⟨fd, F⟩ := X.d_all_deeds_of
  have g_range := X.g_range
  have g_len := X.g_len
  have g_list := X.g_list
  have g_sorted := X.g_sorted
  exact ⟨⟨fd, F.ok sc_all_deeds_of (fun vs H Q E h => by first | exact spP_len vs H Q E h | exact spN_len vs H Q E h | exact spW_len vs H Q E h | exact spInit_len vs H Q E h) (fun cdv A outer s H vs Q E hr h => ⟨t_all_deeds_of (He.ga K) ⟨K, w⟩, PSs.nox (pss_cons (ps_asg (pe_tup (pa_cons (pe_listRg rfl rfl g_list (prg_1 rfl g_range (pe_fld (pv 0) rfl))) (pa_cons (pe_lc (own := [("kind", 5)]) rfl sc_all_deeds_of.nd (pi_range1 rfl g_range (pa_cons (pe_callB call_lenP rfl g_len PySem.boot_len (pa_cons (pe_fld (pv 0) rfl) pa_nil)) pa_nil)) (blkOk_by (own := [("kind", 5)]) (N := ["book", "people", "found", "word", "deeds", "kind", "deed", "person"]) (sc := defScope s_all_deeds_of) (by decide +kernel)) (fun _ _ _ _ _ => (pg_name (i := 5) sc_all_deeds_of.nd rfl (Or.inl rfl))) (fun _ _ _ _ _ => pts_nil) (fun _ _ _ _ _ => (pe_tup (pa_cons pe_str (pa_cons (pv 5) pa_nil))))) pa_nil))) (pg_tup rfl (pgs_cons (pg_name (i := 1) sc_all_deeds_of.nd rfl (Or.inr rfl)) (pgs_cons (pg_name (i := 2) sc_all_deeds_of.nd rfl (Or.inl rfl)) pgs_nil)))) (pss_cons (ps_for PassesOwn.never rfl (pi_seq (pe_tup (pa_cons (pe_tup (pa_cons pe_str (pa_cons (pe_tup (pa_cons pe_str (pa_cons pe_str pa_nil))) pa_nil))) (pa_cons (pe_tup (pa_cons pe_str (pa_cons (pe_tup (pa_cons pe_str (pa_cons pe_str pa_nil))) pa_nil))) (pa_cons (pe_tup (pa_cons pe_str (pa_cons (pe_tup (pa_cons pe_str pa_nil)) pa_nil))) pa_nil))))) (pg_tup rfl (pgs_cons (pg_name (i := 3) sc_all_deeds_of.nd rfl (Or.inl rfl)) (pgs_cons (pg_name (i := 4) sc_all_deeds_of.nd rfl (Or.inl rfl)) pgs_nil))) (pss_one (ps_if (pt_cmpR (op_inP (room65 hr)) (pv 3) (pe_fld (pv 0) rfl) rfl) (pss_one (ps_expr (pe_bm PySem.F.plainAttrs_list PySem.F.slot_list_extend PySem.F.type_list_extend mt_extend (pv 2) (pa_cons (pe_lc2 (own := [("deed", 6), ("person", 7)]) (vs1 := [7]) rfl sc_all_deeds_of.nd (pi_seq (pv 4)) (blkOk_by (own := [("deed", 6), ("person", 7)]) (N := ["book", "people", "found", "word", "deeds", "kind", "deed", "person"]) (sc := defScope s_all_deeds_of) (by decide +kernel)) (by decide) (fun _ _ _ _ _ => (pg_name (i := 6) sc_all_deeds_of.nd rfl (Or.inl rfl))) (fun _ _ _ _ _ => pts_nil) (fun _ _ _ _ _ => (pi_seq (pv 1))) (fun _ _ _ _ _ => (pg_name (i := 7) sc_all_deeds_of.nd rfl (Or.inl rfl))) (fun _ _ _ _ _ => pts_nil) (fun _ _ _ _ _ => (pe_tup (pa_cons (pv 6) (pa_cons (pv 7) pa_nil))))) pa_nil)))) pss_nil))) (pss_one (ps_ret (pe_callB (call_sortedN hr.units) rfl g_sorted (by decide +kernel) (pa_cons (pv 2) pa_nil)))))), m_all_deeds_of X.tBook vs H Q E h⟩), F.bindsN fun _ _ _ _ _ _ us hl => match us, hl with | [_], _ => rfl⟩, F.kp⟩
theorem d_all_deeds (X : Fx w K mg) : Df CX0 P w K mg base 2 ("all_deeds", none) ["book"] (sp_all_deeds (He.ga K) ⟨K, w⟩) := by
  obtain ⟨fd, F⟩ := X.d_all_deeds
  have f_all_deeds_of := And.intro (d_all_deeds_of (P := P) (base := base) X) X.m_all_deeds_of
  exact ⟨⟨fd, F.ok sc_all_deeds (fun vs H Q E h => by first | exact spP_len vs H Q E h | exact spN_len vs H Q E h | exact spW_len vs H Q E h | exact spInit_len vs H Q E h) (fun cdv A outer s H vs Q E hr h => ⟨t_all_deeds (He.ga K) ⟨K, w⟩, PSs.nox (pss_one (ps_ret (pe_callF f_all_deeds_of.1 f_all_deeds_of.2 hr pass0 (pa_cons (pv 0) pa_nil)))), m_all_deeds  vs H Q E h⟩), F.bindsN fun _ _ _ _ _ _ us hl => match us, hl with | [_], _ => rfl⟩, F.kp⟩
theorem d_is_within (X : Fx w K mg) : Df CX0 P w K mg base 1 ("is_within", none) ["value", "low", "high"] (sp_is_within (He.ga K) ⟨K, w⟩) := by
  obtain ⟨fd, F⟩ := X.d_is_within
  have g_isinstance := X.g_isinstance
  have g_int := X.g_int
  have g_bool := X.g_bool
  exact ⟨⟨fd, F.ok sc_is_within (fun vs H Q E h => by first | exact spP_len vs H Q E h | exact spN_len vs H Q E h | exact spW_len vs H Q E h | exact spInit_len vs H Q E h) (fun cdv A outer s H vs Q E hr h => ⟨t_is_within (He.ga K) ⟨K, w⟩, PSs.nox (pss_one (ps_ret (pe_and (pe_callB call_isiD rfl g_isinstance (by decide +kernel) (pa_cons (pv 0) (pa_cons (pe_bltn rfl g_int (by decide +kernel) rfl) pa_nil))) (pe_and (pe_not (pe_callB call_isiD rfl g_isinstance (by decide +kernel) (pa_cons (pv 0) (pa_cons (pe_bltn rfl g_bool (by decide +kernel) rfl) pa_nil)))) (pe_one (pe_chain op_leD op_leD (pv 1) (pv 0) (pv 2))))))), m_is_within  vs H Q E h⟩), F.bindsN fun _ _ _ _ _ _ us hl => match us, hl with | [_, _, _], _ => rfl⟩, F.kp⟩
theorem d_is_rising (X : Fx w K mg) : Df CX0 P w K mg base 1 ("is_rising", none) ["things"] (sp_is_rising (He.ga K) ⟨K, w⟩) := by
  obtain ⟨fd, F⟩ := X.d_is_rising
  have g_all := X.g_all
  have g_zip := X.g_zip
  exact ⟨⟨fd, F.ok sc_is_rising (fun vs H Q E h => by first | exact spP_len vs H Q E h | exact spN_len vs H Q E h | exact spW_len vs H Q E h | exact spInit_len vs H Q E h) (fun cdv A outer s H vs Q E hr h => ⟨t_is_rising (He.ga K) ⟨K, w⟩, PSs.nox (pss_one (ps_ret (pe_callB (call_allD rfl) rfl g_all (by decide +kernel) (pa_cons (pe_lc (own := [("one", 1), ("other", 2)]) rfl sc_is_rising.nd (RZ.pi_zipA rfl g_zip (pa_cons (pv 0) (pa_cons (pe_slice sl_D (pv 0) (po_some pe_int) po_none) pa_nil))) (blkOk_by (own := [("one", 1), ("other", 2)]) (N := ["things", "one", "other"]) (sc := defScope s_is_rising) (by decide +kernel)) (fun _ _ _ _ _ => (pg_tup rfl (pgs_cons (pg_name (i := 1) sc_is_rising.nd rfl (Or.inl rfl)) (pgs_cons (pg_name (i := 2) sc_is_rising.nd rfl (Or.inl rfl)) pgs_nil)))) (fun _ _ _ _ _ => pts_nil) (fun _ _ _ _ _ => (pe_cmpR op_ltD (pv 1) (pv 2) (nomark _)))) pa_nil)))), m_is_rising  vs H Q E h⟩), F.bindsN fun _ _ _ _ _ _ us hl => match us, hl with | [_], _ => rfl⟩, F.kp⟩
theorem d_are_weights (X : Fx w K mg) : Df CX0 P w K mg base 2 ("are_weights", none) ["value"] (sp_are_weights (He.ga K) ⟨K, w⟩) := by
  obtain ⟨fd, F⟩ := X.d_are_weights
  have f_is_within := And.intro (d_is_within (P := P) (base := base) X) X.m_is_within
  have f_is_rising := And.intro (d_is_rising (P := P) (base := base) X) X.m_is_rising
  have g_isinstance := X.g_isinstance
  have g_tuple := X.g_tuple
  have g_len := X.g_len
  have g_all := X.g_all
  obtain ⟨_, g_MOST_WEIGHT⟩ := X.g_MOST_WEIGHT
  exact ⟨⟨fd, F.ok sc_are_weights (fun vs H Q E h => by first | exact spP_len vs H Q E h | exact spN_len vs H Q E h | exact spW_len vs H Q E h | exact spInit_len vs H Q E h) (fun cdv A outer s H vs Q E hr h => ⟨t_are_weights (He.ga K) ⟨K, w⟩, PSs.nox (pss_cons (ps_if (PW.pt (pw_or (pt_not (pt_val (pe_callB call_isiD rfl g_isinstance (by decide +kernel) (pa_cons (pv 0) (pa_cons (pe_bltn rfl g_tuple (by decide +kernel) rfl) pa_nil))))) (pw_or1 (pt_not (pt_chain op_leD op_leD pe_int (pe_callB call_lenP rfl g_len PySem.boot_len (pa_cons (pv 0) pa_nil)) pe_int))))) (pss_one (ps_ret pe_bl)) pss_nil) (pss_one (ps_ret (pe_and (pe_callB (call_allD rfl) rfl g_all (by decide +kernel) (pa_cons (pe_lc (own := [("weight", 1)]) rfl sc_are_weights.nd (pi_seq (pv 0)) (blkOk_by (own := [("weight", 1)]) (N := ["value", "weight"]) (sc := defScope s_are_weights) (by decide +kernel)) (fun _ _ _ _ _ => (pg_name (i := 1) sc_are_weights.nd rfl (Or.inl rfl))) (fun _ _ _ _ _ => pts_nil) (fun _ _ _ _ _ => (pe_callF f_is_within.1 f_is_within.2 hr pass0 (pa_cons (pv 1) (pa_cons pe_int (pa_cons (pe_glob rfl g_MOST_WEIGHT ⟨_, rfl⟩) pa_nil)))))) pa_nil)) (pe_one (pe_callF f_is_rising.1 f_is_rising.2 hr pass0 (pa_cons (pv 0) pa_nil))))))), m_are_weights  vs H Q E h⟩), F.bindsN fun _ _ _ _ _ _ us hl => match us, hl with | [_], _ => rfl⟩, F.kp⟩
theorem d_is_one_of (X : Fx w K mg) : Df CX0 P w K mg base 1 ("is_one_of", none) ["value", "words"] (sp_is_one_of (He.ga K) ⟨K, w⟩) := by
  obtain ⟨fd, F⟩ := X.d_is_one_of
  have g_isinstance := X.g_isinstance
  have g_str := X.g_str
  exact ⟨⟨fd, F.ok sc_is_one_of (fun vs H Q E h => by first | exact spP_len vs H Q E h | exact spN_len vs H Q E h | exact spW_len vs H Q E h | exact spInit_len vs H Q E h) (fun cdv A outer s H vs Q E hr h => ⟨t_is_one_of (He.ga K) ⟨K, w⟩, PSs.nox (pss_one (ps_ret (pe_and (pe_callB call_isiD rfl g_isinstance (by decide +kernel) (pa_cons (pv 0) (pa_cons (pe_bltn rfl g_str (by decide +kernel) rfl) pa_nil))) (pe_one (pe_cmpR (op_inP (room65 hr)) (pv 0) (pv 1) rfl))))), m_is_one_of  vs H Q E h⟩), F.bindsN fun _ _ _ _ _ _ us hl => match us, hl with | [_, _], _ => rfl⟩, F.kp⟩
theorem d_check_rule (X : Fx w K mg) : Df CX0 P w K mg base 2 ("check_rule", none) ["value"] (sp_check_rule (He.ga K) ⟨K, w⟩) := by
  obtain ⟨fd, F⟩ := X.d_check_rule
  have f_is_one_of := And.intro (d_is_one_of (P := P) (base := base) X) X.m_is_one_of
  have g_list := X.g_list
  have g_isinstance := X.g_isinstance
  have g_dict := X.g_dict
  have g_len := X.g_len
  have g_all := X.g_all
  have g_POINTS := X.g_POINTS
  exact ⟨⟨fd, F.ok sc_check_rule (fun vs H Q E h => by first | exact spP_len vs H Q E h | exact spN_len vs H Q E h | exact spW_len vs H Q E h | exact spInit_len vs H Q E h) (fun cdv A outer s H vs Q E hr h => ⟨t_check_rule (He.ga K) ⟨K, w⟩, PSs.nox (pss_cons (ps_set (i := 1) sc_check_rule.nd rfl (Or.inr rfl) (pe_callTy (call_listN rfl) rfl g_list (by decide +kernel) (pa_cons (pe_glob rfl g_POINTS rfl) pa_nil))) (pss_cons (ps_if (PW.pt (pw_or (pt_not (pt_val (pe_callB call_isiD rfl g_isinstance (by decide +kernel) (pa_cons (pv 0) (pa_cons (pe_bltn rfl g_dict (by decide +kernel) rfl) pa_nil))))) (pw_or (pt_cmpR (op_neP hr.units) (pe_callB call_lenP rfl g_len PySem.boot_len (pa_cons (pv 0) pa_nil)) (pe_callB call_lenP rfl g_len PySem.boot_len (pa_cons (pv 1) pa_nil)) (nomark _)) (pw_or1 (pt_not (pt_val (pe_callB (call_allD rfl) rfl g_all (by decide +kernel) (pa_cons (pe_lock (pe_lc (own := [("one", 3)]) rfl sc_check_rule.nd (pi_keys (pv 0)) (blkOk_by (own := [("one", 3)]) (N := ["value", "points", "point", "one"]) (sc := defScope s_check_rule) (by decide +kernel)) (fun _ _ _ _ _ => (pg_name (i := 3) sc_check_rule.nd rfl (Or.inl rfl))) (fun _ _ _ _ _ => pts_nil) (fun _ _ _ _ _ => (pe_callF f_is_one_of.1 f_is_one_of.2 hr pass0 (pa_cons (pv 3) (pa_cons (pv 1) pa_nil)))))) pa_nil)))))))) (pss_one ps_never) pss_nil) (pss_one (ps_for PassesOwn.never rfl (pi_seq (pv 1)) (pg_name (i := 2) sc_check_rule.nd rfl (Or.inl rfl)) (pss_one (ps_if (pt_not (pt_val (pe_callF f_is_one_of.1 f_is_one_of.2 hr pass0 (pa_cons (pe_ix ix_D (pv 0) (pv 2) (fun _ _ => rfl)) (pa_cons (pe_ix ix_D (pe_glob rfl g_POINTS rfl) (pv 2) (fun _ _ => rfl)) pa_nil))))) (pss_one ps_never) pss_nil)))))), m_check_rule X.tPoints vs H Q E h⟩), F.bindsN fun _ _ _ _ _ _ us hl => match us, hl with | [_], _ => rfl⟩, F.kp⟩
theorem d_are_words (X : Fx w K mg) : Df CX0 P w K mg base 2 ("are_words", none) ["value"] (sp_are_words (He.ga K) ⟨K, w⟩) := by
  obtain ⟨fd, F⟩ := X.d_are_words
  have f_is_one_of := And.intro (d_is_one_of (P := P) (base := base) X) X.m_is_one_of
  have f_is_rising := And.intro (d_is_rising (P := P) (base := base) X) X.m_is_rising
  have g_isinstance := X.g_isinstance
  have g_tuple := X.g_tuple
  have g_all := X.g_all
  have g_WORDS := X.g_WORDS
  exact ⟨⟨fd, F.ok sc_are_words (fun vs H Q E h => by first | exact spP_len vs H Q E h | exact spN_len vs H Q E h | exact spW_len vs H Q E h | exact spInit_len vs H Q E h) (fun cdv A outer s H vs Q E hr h => ⟨t_are_words (He.ga K) ⟨K, w⟩, PSs.nox (pss_one (ps_ret (pe_and (pe_callB call_isiD rfl g_isinstance (by decide +kernel) (pa_cons (pv 0) (pa_cons (pe_bltn rfl g_tuple (by decide +kernel) rfl) pa_nil))) (pe_and (pe_callB (call_allD rfl) rfl g_all (by decide +kernel) (pa_cons (pe_lc (own := [("word", 1)]) rfl sc_are_words.nd (pi_seq (pv 0)) (blkOk_by (own := [("word", 1)]) (N := ["value", "word"]) (sc := defScope s_are_words) (by decide +kernel)) (fun _ _ _ _ _ => (pg_name (i := 1) sc_are_words.nd rfl (Or.inl rfl))) (fun _ _ _ _ _ => pts_nil) (fun _ _ _ _ _ => (pe_callF f_is_one_of.1 f_is_one_of.2 hr pass0 (pa_cons (pv 1) (pa_cons (pe_glob rfl g_WORDS rfl) pa_nil))))) pa_nil)) (pe_one (pe_callF f_is_rising.1 f_is_rising.2 hr pass0 (pa_cons (pv 0) pa_nil))))))), m_are_words X.tWords vs H Q E h⟩), F.bindsN fun _ _ _ _ _ _ us hl => match us, hl with | [_], _ => rfl⟩, F.kp⟩
theorem d_Book_init (X : Fx w K mg) : DfM CX0 P w K mg base 3 "Book" ["self", "people", "weights", "cap", "rule", "words"] (sp_Book_init (He.ga K) ⟨K, w⟩) := by
  obtain ⟨fd, F⟩ := X.d_Book_init
  have f_is_within := And.intro (d_is_within (P := P) (base := base) X) X.m_is_within
  have f_are_weights := And.intro (d_are_weights (P := P) (base := base) X) X.m_are_weights
  have f_check_rule := And.intro (d_check_rule (P := P) (base := base) X) X.m_check_rule
  have f_are_words := And.intro (d_are_words (P := P) (base := base) X) X.m_are_words
  obtain ⟨_, g_MOST_CAP⟩ := X.g_MOST_CAP
  have g_POINTS := X.g_POINTS
  exact ⟨⟨⟨fd, F.ok sc_Book_init (fun vs H Q E h => by first | exact spP_len vs H Q E h | exact spN_len vs H Q E h | exact spW_len vs H Q E h | exact spInit_len vs H Q E h) (fun cdv A outer s H vs Q E hr h => ⟨t_Book_init (He.ga K) ⟨K, w⟩, PSs.nox (pss_cons (ps_if (pt_not (pt_val (pe_callF f_is_within.1 f_is_within.2 hr pass0 (pa_cons (pv 1) (pa_cons pe_int (pa_cons pe_int pa_nil)))))) (pss_one ps_never) pss_nil) (pss_cons (ps_if (pt_not (pt_val (pe_callF f_are_weights.1 f_are_weights.2 hr pass0 (pa_cons (pv 2) pa_nil)))) (pss_one ps_never) pss_nil) (pss_cons (ps_if (pt_not (pt_val (pe_callF f_is_within.1 f_is_within.2 hr pass0 (pa_cons (pv 3) (pa_cons pe_int (pa_cons (pe_glob rfl g_MOST_CAP ⟨_, rfl⟩) pa_nil)))))) (pss_one ps_never) pss_nil) (pss_cons (ps_expr (pe_callF f_check_rule.1 f_check_rule.2 hr pass0 (pa_cons (pv 4) pa_nil))) (pss_cons (ps_if (pt_not (pt_val (pe_callF f_are_words.1 f_are_words.2 hr pass0 (pa_cons (pv 5) pa_nil)))) (pss_one ps_never) pss_nil) (pss_cons (ps_fld (pv 0) (pv 1) rfl) (pss_cons (ps_fld (pv 0) (pv 2) rfl) (pss_cons (ps_fld (pv 0) (pv 3) rfl) (pss_cons (ps_fld (pv 0) (pe_dc (own := [("point", 6)]) rfl sc_Book_init.nd (pi_kd (pe_glob rfl g_POINTS rfl)) (blkOk_by (own := [("point", 6)]) (N := ["self", "people", "weights", "cap", "rule", "words", "point"]) (sc := defScope s_Book_init) (by decide +kernel)) (fun _ _ _ _ _ => (pg_name (i := 6) sc_Book_init.nd rfl (Or.inl rfl))) (fun _ _ _ _ _ => pts_nil) (fun _ _ _ _ _ => (pv 6)) (fun _ _ _ _ _ => (pe_ix ix_D (pv 4) (pv 6) (fun _ _ => rfl)))) rfl) (pss_one (ps_fld (pv 0) (pv 5) rfl))))))))))), m_Book_init X.tPoints X.tBook vs H Q E h⟩), F.bindsN fun _ _ _ _ _ _ us hl => match us, hl with | [_, _, _, _, _, _], _ => rfl⟩, F.kp⟩, X.k_Book⟩
theorem d_law_made (X : Fx w K mg) : Df CX0 P w K mg base 5 ("_law_made", none) ["_law_d"] (sp_law_made (He.ga K) ⟨K, w⟩) := by
  obtain ⟨fd, F⟩ := X.d_law_made
  have f_Book_init := And.intro (d_Book_init (P := P) (base := base) X) X.m_Book_init
  exact ⟨⟨fd, F.ok sc_law_made (fun vs H Q E h => by first | exact spP_len vs H Q E h | exact spN_len vs H Q E h | exact spW_len vs H Q E h | exact spInit_len vs H Q E h) (fun cdv A outer s H vs Q E hr h => ⟨t_law_made (He.ga K) ⟨K, w⟩, PSs.nox (pss_one (ps_ret (pe_makeF f_Book_init.1 f_Book_init.2 hr pass0 (pa_cons (pe_ix ix_D (pv 0) pe_str (fun _ _ => rfl)) (pa_cons (pe_ix ix_D (pv 0) pe_str (fun _ _ => rfl)) (pa_cons (pe_ix ix_D (pv 0) pe_str (fun _ _ => rfl)) (pa_cons (pe_ix ix_D (pv 0) pe_str (fun _ _ => rfl)) (pa_cons (pe_ix ix_D (pv 0) pe_str (fun _ _ => rfl)) pa_nil)))))))), m_law_made  vs H Q E h⟩), F.bindsN fun _ _ _ _ _ _ us hl => match us, hl with | [_], _ => rfl⟩, F.kp⟩
theorem d_law_deeds (X : Fx w K mg) : Df CX0 P w K mg base 1 ("_law_deeds", none) ["_law_d"] (sp_law_deeds (He.ga K) ⟨K, w⟩) := by
  obtain ⟨fd, F⟩ := X.d_law_deeds
  have g_range := X.g_range
  have g_len := X.g_len
  have g_sorted := X.g_sorted
  exact ⟨⟨fd, F.ok sc_law_deeds (fun vs H Q E h => by first | exact spP_len vs H Q E h | exact spN_len vs H Q E h | exact spW_len vs H Q E h | exact spInit_len vs H Q E h) (fun cdv A outer s H vs Q E hr h => ⟨t_law_deeds (He.ga K) ⟨K, w⟩, PSs.nox (pss_cons (ps_setLc (i := 1) (own := [("_law_kind", 4)]) rfl sc_law_deeds.nd rfl rfl (sw_true rfl rfl rfl (by decide +kernel)) (pi_range1 rfl g_range (pa_cons (pe_callB call_lenP rfl g_len PySem.boot_len (pa_cons (pe_ix ix_D (pv 0) pe_str (fun _ _ => rfl)) pa_nil)) pa_nil)) (blkOk_by (own := [("_law_kind", 4)]) (N := ["_law_d", "_law_found", "_law_word", "_law_given", "_law_kind", "_law_person"]) (sc := defScope s_law_deeds) (by decide +kernel)) (fun _ _ _ _ _ => (pg_name (i := 4) sc_law_deeds.nd rfl (Or.inl rfl))) (fun _ _ _ _ _ => pts_nil) (fun _ _ _ _ _ => (pe_tup (pa_cons pe_str (pa_cons (pv 4) pa_nil))))) (pss_cons (ps_for PassesOwn.never rfl (pi_seq (pe_lst (pa_cons pe_str (pa_cons pe_str (pa_cons pe_str (pa_cons pe_str (pa_cons pe_str pa_nil))))))) (pg_name (i := 2) sc_law_deeds.nd rfl (Or.inr rfl)) (pss_cons (ps_set (i := 3) sc_law_deeds.nd rfl (Or.inl rfl) (pe_ix ix_D (pe_disp (pps_cons pe_str pe_str (pps_cons pe_str pe_str (pps_cons pe_str pe_str (pps_cons pe_str pe_str (pps_cons pe_str pe_str pps_nil))))) (by rfl) (by rfl) (fun z => by cases z) (by decide)) (pv 2) (fun _ _ => rfl))) (pss_one (ps_if (pt_cmpR (op_inP (room65 hr)) (pv 3) (pe_ix ix_D (pv 0) pe_str (fun _ _ => rfl)) rfl) (pss_one (ps_set (i := 1) sc_law_deeds.nd rfl (Or.inl rfl) (pe_op op_addD (pv 1) (pe_lc (own := [("_law_person", 5)]) rfl sc_law_deeds.nd (pi_range1 rfl g_range (pa_cons (pe_ix ix_D (pv 0) pe_str (fun _ _ => rfl)) pa_nil)) (blkOk_by (own := [("_law_person", 5)]) (N := ["_law_d", "_law_found", "_law_word", "_law_given", "_law_kind", "_law_person"]) (sc := defScope s_law_deeds) (by decide +kernel)) (fun _ _ _ _ _ => (pg_name (i := 5) sc_law_deeds.nd rfl (Or.inl rfl))) (fun _ _ _ _ _ => pts_nil) (fun _ _ _ _ _ => (pe_tup (pa_cons (pv 2) (pa_cons (pv 5) pa_nil)))))))) pss_nil)))) (pss_one (ps_ret (pe_callB (call_sortedN hr.units) rfl g_sorted (by decide +kernel) (pa_cons (pv 1) pa_nil)))))), m_law_deeds  vs H Q E h⟩), F.bindsN fun _ _ _ _ _ _ us hl => match us, hl with | [_], _ => rfl⟩, F.kp⟩
theorem ok_law (X : Fx w K mg) {fd : FuncData} (F : FunD K "law" "law" (defArgs s_law) (defBody s_law) (defScope s_law) [] [] (He.fAd K ("law", none)) fd) : FnOk P w K mg base CX0 6 (He.fAd K ("law", none)) fd ["_law_script"] (sp_law (He.ga K) ⟨K, w⟩) := by
  have f_law_drawn := And.intro (d_law_drawn (P := P) (base := base) X) X.m_law_drawn
  have f_all_deeds := And.intro (d_all_deeds (P := P) (base := base) X) X.m_all_deeds
  have f_law_made := And.intro (d_law_made (P := P) (base := base) X) X.m_law_made
  have f_law_deeds := And.intro (d_law_deeds (P := P) (base := base) X) X.m_law_deeds
  have g_range := X.g_range
  exact F.ok sc_law (fun vs H Q E h => by obtain ⟨a, ns, rfl, _⟩ := h; rfl) (fun cdv A outer s H vs Q E hr h => ⟨t_law (He.ga K) ⟨K, w⟩, PSs.nox (pss_cons (ps_set (i := 1) sc_law.nd rfl (Or.inl rfl) (pe_lst (pa_cons (pv 0) (pa_cons pe_int (pa_cons pe_int (pa_cons pe_int pa_nil)))))) (pss_cons (ps_for PassesOwn.never rfl (pi_range1 rfl g_range (pa_cons pe_int pa_nil)) (pg_name (i := 2) sc_law.nd rfl (Or.inl rfl)) (pss_cons (ps_set (i := 3) sc_law.nd rfl (Or.inl rfl) (pe_callF f_law_drawn.1 f_law_drawn.2 hr pass0 (pa_cons (pv 1) pa_nil))) (pss_cons (ps_set (i := 4) sc_law.nd rfl (Or.inl rfl) (pe_callF f_all_deeds.1 f_all_deeds.2 hr pass0 (pa_cons (pe_callF f_law_made.1 f_law_made.2 hr pass0 (pa_cons (pv 3) pa_nil)) pa_nil))) (pss_cons (ps_if (pt_cmpR (op_neP hr.units) (pv 4) (pe_callF f_law_deeds.1 f_law_deeds.2 hr pass0 (pa_cons (pv 3) pa_nil)) (nomark _)) (pss_one (ps_ret pe_bl)) pss_nil) (pss_one (ps_expr (pe_bm PySem.F.plainAttrs_list PySem.F.slot_list_append PySem.F.type_list_append mt_append (pv 4) (pa_cons (pe_tup (pa_cons pe_str (pa_cons pe_int pa_nil))) pa_nil)))))))) (pss_one (ps_ret (pe_cmpR (op_eqP hr.units) (pe_callF f_all_deeds.1 f_all_deeds.2 hr pass0 (pa_cons (pe_callF f_law_made.1 f_law_made.2 hr pass0 (pa_cons (pv 3) pa_nil)) pa_nil)) (pe_callF f_law_deeds.1 f_law_deeds.2 hr pass0 (pa_cons (pv 3) pa_nil)) (nomark _)))))), m_law  vs H Q E h⟩)
end
/-! ### the head -/
def mkD (a : Str × Option Str) (n q : Str) (st : Stmt) : He.DefD := ⟨a, n, q, defArgs st, defBody st, defScope st, [], []⟩
def dlaw_taken : He.DefD := mkD ("_law_taken", none) "_law_taken" "_law_taken" s_law_taken
def dlaw_rule : He.DefD := mkD ("_law_rule", none) "_law_rule" "_law_rule" s_law_rule
def dlaw_drawn : He.DefD := mkD ("_law_drawn", none) "_law_drawn" "_law_drawn" s_law_drawn
def dall_deeds_of : He.DefD := mkD ("all_deeds_of", none) "all_deeds_of" "all_deeds_of" s_all_deeds_of
def dall_deeds : He.DefD := mkD ("all_deeds", none) "all_deeds" "all_deeds" s_all_deeds
def dis_within : He.DefD := mkD ("is_within", none) "is_within" "is_within" s_is_within
def dis_rising : He.DefD := mkD ("is_rising", none) "is_rising" "is_rising" s_is_rising
def dare_weights : He.DefD := mkD ("are_weights", none) "are_weights" "are_weights" s_are_weights
def dis_one_of : He.DefD := mkD ("is_one_of", none) "is_one_of" "is_one_of" s_is_one_of
def dcheck_rule : He.DefD := mkD ("check_rule", none) "check_rule" "check_rule" s_check_rule
def dare_words : He.DefD := mkD ("are_words", none) "are_words" "are_words" s_are_words
def dBook_init : He.DefD := mkD ("Book", some "__init__") "__init__" "Book.__init__" s_Book_init
def dlaw_made : He.DefD := mkD ("_law_made", none) "_law_made" "_law_made" s_law_made
def dlaw_deeds : He.DefD := mkD ("_law_deeds", none) "_law_deeds" "_law_deeds" s_law_deeds
def dlaw : He.DefD := mkD ("law", none) "law" "law" s_law
def fn : List He.DefD := [dlaw_taken, dlaw_rule, dlaw_drawn, dall_deeds_of, dall_deeds, dis_within, dis_rising, dare_weights, dis_one_of, dcheck_rule, dare_words, dBook_init, dlaw_made, dlaw_deeds, dlaw]
def fa : List He.Fa := [.glo "_law_taken", .glo "_law_rule", .glo "_law_drawn", .glo "all_deeds_of", .glo "all_deeds", .glo "is_within", .glo "is_rising", .glo "are_weights", .glo "is_one_of", .glo "check_rule", .glo "are_words", .glo "_law_made", .glo "_law_deeds", .glo "law", .glo "Book", .mkr "Book", .free "int", .free "len", .free "range", .free "tuple", .free "list", .free "sorted", .free "isinstance", .free "bool", .free "all", .free "zip", .free "str", .free "dict", .int "MOST_WEIGHT" 3, .glo "POINTS", .glo "WORDS", .int "MOST_CAP" 4, .cls "Book", .noat "Book" "many", .noat "Book" "loads", .noat "Book" "most", .noat "Book" "manner", .noat "Book" "deed_words"]
def ts : List He.Tab := [((fun K => He.ga K "POINTS"), ["away", "back", "join", "swap", "ties"])]
def exB (K : PySem.W.Frag) : Bool := wordsB1 K && (pointsB1 K)
abbrev RR : PySem.W.OpenRow := PySem.W.OpenLaw.row PySem.Challenge.rw_debtroster_k03_deeds_listed
def loose : List Str := ["_wall", "RosterError", "InvalidNumber", "InvalidRule", "InvalidWords", "all_deeds_of", "all_deeds", "POINTS", "WORDS", "MOST_WEIGHT", "MOST_CAP", "is_within", "is_one_of", "is_rising", "are_weights", "are_words", "check_rule", "Book", "_law_taken", "_law_rule", "_law_drawn", "_law_with", "_law_ruled", "_law_made", "_law_deeds"]
abbrev hk : PySem.W.Hook := He.hookX 5 fa fn ts [] exB
def ob (s : PySem.W.SharedT) : He.AlX := He.obsX 5 fa fn ts [] exB (HandSHeadRun.getT s)
theorem ob_eq (s : PySem.W.SharedT) : ob s = hk.obs s.abs := He.obsX_eq (HandSHeadRun.getT_eq s)
theorem runs (b : Bool) (w : World) : HandSHeadRun.RunEq RR (PySem.W.view RR.prog [30]) hk ob 4000 loose (w.withFollow "special-get-raises" b) := by
  intro os
  cases b <;> kernel_rfl
theorem run (w : World) : HandSHeadRun.RunEq RR (PySem.W.view RR.prog [30]) hk ob 4000 loose w :=
  PySem.W.byRow2 "special-get-raises" (P := fun w => HandSHeadRun.RunEq RR (PySem.W.view RR.prog [30]) hk ob 4000 loose w) (fun w => runs false w) (fun w => runs true w) w
theorem fx_of {w : World} {K : PySem.W.Frag} {h : Heap} {mg : Str → Option Value} (X : K.In h) (G : h.Ns mainGlobals mg) (c : He.SaysX fa fn ts [] exB w h K) : Fx w K mg := by
  have hx : wordsB1 K = true ∧ (pointsB1 K = true) := by
    have z : exB K = true := c.more
    unfold exB at z
    simpa only [Bool.and_eq_true] using z
  refine {
    d_law_taken := c.t.d.def_ 0 (d := dlaw_taken) rfl
    d_law_rule := c.t.d.def_ 1 (d := dlaw_rule) rfl
    d_law_drawn := c.t.d.def_ 2 (d := dlaw_drawn) rfl
    d_all_deeds_of := c.t.d.def_ 3 (d := dall_deeds_of) rfl
    d_all_deeds := c.t.d.def_ 4 (d := dall_deeds) rfl
    d_is_within := c.t.d.def_ 5 (d := dis_within) rfl
    d_is_rising := c.t.d.def_ 6 (d := dis_rising) rfl
    d_are_weights := c.t.d.def_ 7 (d := dare_weights) rfl
    d_is_one_of := c.t.d.def_ 8 (d := dis_one_of) rfl
    d_check_rule := c.t.d.def_ 9 (d := dcheck_rule) rfl
    d_are_words := c.t.d.def_ 10 (d := dare_words) rfl
    d_Book_init := c.t.d.def_ 11 (d := dBook_init) rfl
    d_law_made := c.t.d.def_ 12 (d := dlaw_made) rfl
    d_law_deeds := c.t.d.def_ 13 (d := dlaw_deeds) rfl
    d_law := c.t.d.def_ 14 (d := dlaw) rfl
    m_law_taken := He.glo_ok X G (c.t.d.fact 0 rfl)
    m_law_rule := He.glo_ok X G (c.t.d.fact 1 rfl)
    m_law_drawn := He.glo_ok X G (c.t.d.fact 2 rfl)
    m_all_deeds_of := He.glo_ok X G (c.t.d.fact 3 rfl)
    m_all_deeds := He.glo_ok X G (c.t.d.fact 4 rfl)
    m_is_within := He.glo_ok X G (c.t.d.fact 5 rfl)
    m_is_rising := He.glo_ok X G (c.t.d.fact 6 rfl)
    m_are_weights := He.glo_ok X G (c.t.d.fact 7 rfl)
    m_is_one_of := He.glo_ok X G (c.t.d.fact 8 rfl)
    m_check_rule := He.glo_ok X G (c.t.d.fact 9 rfl)
    m_are_words := He.glo_ok X G (c.t.d.fact 10 rfl)
    m_law_made := He.glo_ok X G (c.t.d.fact 11 rfl)
    m_law_deeds := He.glo_ok X G (c.t.d.fact 12 rfl)
    m_law := He.glo_ok X G (c.t.d.fact 13 rfl)
    m_Book_init := He.glo_ok X G (c.t.d.fact 14 rfl)
    k_Book := He.mkr_ok (c.t.d.fact 15 rfl)
    g_int := He.free_ok X G (c.t.d.fact 16 rfl)
    g_len := He.free_ok X G (c.t.d.fact 17 rfl)
    g_range := He.free_ok X G (c.t.d.fact 18 rfl)
    g_tuple := He.free_ok X G (c.t.d.fact 19 rfl)
    g_list := He.free_ok X G (c.t.d.fact 20 rfl)
    g_sorted := He.free_ok X G (c.t.d.fact 21 rfl)
    g_isinstance := He.free_ok X G (c.t.d.fact 22 rfl)
    g_bool := He.free_ok X G (c.t.d.fact 23 rfl)
    g_all := He.free_ok X G (c.t.d.fact 24 rfl)
    g_zip := He.free_ok X G (c.t.d.fact 25 rfl)
    g_str := He.free_ok X G (c.t.d.fact 26 rfl)
    g_dict := He.free_ok X G (c.t.d.fact 27 rfl)
    g_MOST_WEIGHT := He.int_ok X G (c.t.d.fact 28 rfl)
    g_POINTS := He.glo_ok X G (c.t.d.fact 29 rfl)
    g_WORDS := He.glo_ok X G (c.t.d.fact 30 rfl)
    g_MOST_CAP := He.int_ok X G (c.t.d.fact 31 rfl)
    tBook := ⟨He.cls_ok (c.t.d.fact 32 rfl), fun f hf => ?_⟩
    tWords := ⟨fun F => words_sq hx.1 F⟩
    tPoints := txPoints_of (congrArg (fun z : He.AlT => z.2.headD none) c.t) hx.2 }
  simp only [List.mem_cons, List.not_mem_nil, or_false] at hf
  rcases hf with rfl | rfl | rfl | rfl | rfl
  · exact He.noat_ok (c.t.d.fact 33 rfl)
  · exact He.noat_ok (c.t.d.fact 34 rfl)
  · exact He.noat_ok (c.t.d.fact 35 rfl)
  · exact He.noat_ok (c.t.d.fact 36 rfl)
  · exact He.noat_ok (c.t.d.fact 37 rfl)
theorem facts {P : Program} {w : World} {K : PySem.W.Frag} {h : Heap} {mg : Str → Option Value} {f : Addr} (X : K.In h) (G : h.Ns mainGlobals mg) (hfa : mg ("law" : Str) = some (.ref f)) (c : He.SaysX fa fn ts [] exB w h K) :
    ∃ fd : FuncData, (∀ (s : Shared) (v : Value), BindsTo s fd ⟨[v], []⟩ [("_law_script", v)]) ∧ ∀ base : Heap, K.In base → base.Ns mainGlobals mg → FnOk P w K mg base CX0 6 f fd ["_law_script"] (sp_law (He.ga K) ⟨K, w⟩) := by
  have FX := fx_of X G c
  obtain ⟨fd, F⟩ := FX.d_law
  have e := hfa.symm.trans (He.glo_ok X G (c.t.d.fact 13 (f := .glo "law") rfl))
  cases e
  have b := FunD.bindsA (ps := ["_law_script"]) F fun _ _ _ _ _ _ us hl => match us, hl with | [_], _ => rfl
  exact ⟨fd, fun s v => b s [v] rfl, fun base _ _ => ok_law FX F⟩
end Dr
open PySem PySem.W PySem.Calls PyProof.Rows
theorem PySem.Challenge.cw_debtroster_k03_deeds_listed_holds : PySem.Challenge.rw_debtroster_k03_deeds_listed.Holds := by
  w_on; o_law
  refine HandSHeadRun.head_any (r := OpenLaw.row PySem.Challenge.rw_debtroster_k03_deeds_listed) (q := view (OpenLaw.row PySem.Challenge.rw_debtroster_k03_deeds_listed).prog [30]) (H := Dr.hk) (ob := Dr.ob) (M := 4000) (loose := Dr.loose) (d := HandSHeadRun.topDef (OpenLaw.row PySem.Challenge.rw_debtroster_k03_deeds_listed).prog 30) (kwd := []) Dr.ob_eq
    (by kernel_rfl) (fun s => by kernel_rfl) Dr.run (by kernel_rfl) (by kernel_rfl) (by kernel_rfl) (by rfl) (by first | assumption | decide +kernel) (by decide +kernel) ⟨rfl, rfl, rfl, rfl, rfl, by decide +kernel⟩ ?hw ?hc
  case hw => w_witness2
  case hc =>
    refine L2.walk_ofE (l := PySem.Challenge.rw_debtroster_k03_deeds_listed) (n := 63) (k := 6) (x := "_law_script") (CX := L2.CX0) rfl (by decide) (by kernel_rfl) ⟨rfl, by decide, by decide⟩ ?F (fun _ _ _ _ z => z)
    intro w mg fa h Y G hmg0
    obtain ⟨K, KX, c⟩ := Y
    have hmg : mg ("law" : PySem.Str) = some (.ref fa) := by
      have e : (HandSHeadRun.topDef (OpenLaw.row PySem.Challenge.rw_debtroster_k03_deeds_listed).prog 30).name = ("law" : PySem.Str) := by kernel_rfl
      rw [← e]
      exact hmg0
    obtain ⟨fd, hb, hF⟩ := Dr.facts (P := (PySem.Challenge.rw_debtroster_k03_deeds_listed).prog) (w := w) KX G hmg c
    exact ⟨K, fd, Dr.sp_law (He.ga K) ⟨K, w⟩, KX, hb, fun H a ns hl ho hS => ⟨a, ns, rfl, ho, hS, fun _ => rfl⟩, hF⟩
