import PyProof.Rows.All
import Wide.All
import OpenK.AllK
import Wide.FinOn
import HandS.ForMost
import HandS.Deep
import HandS.Conv
import HandS.Star
import HandS.TupAny
import HandS.Defaults
import HandS.IsInst
import HandS.Style
import HandS.Flow
import HandS.TupMul
import HandS.Strs
import KE.DataCmp
import KE.DataMinMax
import KE.SortData
import KE.DataAny
import KE.KTupSum
import HandS.Zip
import HandS.Rev
import KE.GoesEnum
import HandS.SetFor
import HandS.Head0
import HandS.Head1
import HandS.Head2
import HandS.HeadEnd
import HandS.HeadHook1
import HandS.HeadHook2
import KE.DataFind
import HandS.Gcd
import KE.GoesZip
import KE.GoesMore
import HandS.Text
import KE.KMathGC
import KE.KStateDown
import HandS.ForExc
import HandS.More
import HandS.Head3
import PySem.Challenge.RW_playground_k25_swings_together_or_never
/-! part: Q1 -/
section
set_option Elab.async false
set_option linter.all false
set_option maxRecDepth 100000
set_option maxHeartbeats 4000000
namespace Q
open PySem PySem.Spec PyProof.Rows L2
abbrev D := PyData

/-! ### representation -/
/-- a tuple whose object is known, or of the written part -/
def TupAt (K : PySem.W.Frag) (F : Hp) (a : Addr) (xs : List V) : Prop :=
  (∃ o, F a = some (.frz o (.tup xs)) ∧ o.cls = .type "tuple" ∧ o.dict = none) ∨
    ∃ (o : Obj) (its : Array Value) (n : Nat), K.lookup a = some o ∧ o.cls = .type "tuple" ∧ o.dict = none ∧ o.data = .seq its n ∧ its.size ≤ sizeLine ∧ Vals xs its.toList
theorem TupAt.sq {K : PySem.W.Frag} {F : Hp} {a : Addr} {xs : List V} (h : TupAt K F a xs) : SqT K F a xs := by
  rcases h with ⟨o, h, _⟩ | ⟨o, its, n, h1, h2, _, h4, h5, h6⟩
  · exact .inl (.inr ⟨o, h⟩)
  · exact .inr ⟨o, its, n, h1, h2, h4, h5, h6⟩
mutual
inductive Rep (K : PySem.W.Frag) (F : Hp) : V → D → Prop
  | non : Rep K F .non .none
  | bl (b : Bool) : Rep K F (.bl b) (.bool b)
  | int (i : Int) : Rep K F (.int i) (.int i)
  | str (x : Str) : Rep K F (.str x) (.str x)
  | lst {a : Addr} {xs : List V} {ds : List D} : SqL K F a xs → RepA K F xs ds → Rep K F (.ref a) (.list ds)
  | tup {a : Addr} {xs : List V} {ds : List D} : TupAt K F a xs → RepA K F xs ds → Rep K F (.ref a) (.tuple ds)
inductive RepA (K : PySem.W.Frag) (F : Hp) : List V → List D → Prop
  | nil : RepA K F [] []
  | cons {v : V} {vs : List V} {d : D} {ds : List D} : Rep K F v d → RepA K F vs ds → RepA K F (v :: vs) (d :: ds)
end
theorem _root_.L2.Same.sqT {K : PySem.W.Frag} {H H' : Hp} {a : Addr} {xs : List V} (e : Same H H') (h : SqT K H a xs) : SqT K H' a xs := by
  rcases h with (h | ⟨o, h⟩) | h
  · exact .inl (.inl (e _ _ h))
  · exact .inl (.inr ⟨o, e _ _ h⟩)
  · exact .inr h
theorem TupAt.mono {K : PySem.W.Frag} {H H' : Hp} {a : Addr} {xs : List V} (e : Same H H') (h : TupAt K H a xs) : TupAt K H' a xs := by
  rcases h with ⟨o, h, r⟩ | h
  · exact .inl ⟨o, e _ _ h, r⟩
  · exact .inr h
section
variable {K : PySem.W.Frag} {F F' : Hp}
mutual
theorem Rep.mono (e : Same F F') : ∀ {v : V} {d : D}, Rep K F v d → Rep K F' v d
  | _, _, .non => .non
  | _, _, .bl b => .bl b
  | _, _, .int i => .int i
  | _, _, .str x => .str x
  | _, _, .lst h r => .lst (e.seq h) (RepA.mono e r)
  | _, _, .tup h r => .tup (h.mono e) (RepA.mono e r)
theorem RepA.mono (e : Same F F') : ∀ {vs : List V} {ds : List D}, RepA K F vs ds → RepA K F' vs ds
  | _, _, .nil => .nil
  | _, _, .cons h r => .cons (Rep.mono e h) (RepA.mono e r)
end
mutual
theorem Rep.dp : ∀ {v : V} {d : D}, Rep K F v d → Dp K F v d
  | _, _, .non => .non
  | _, _, .bl b => .bl b
  | _, _, .int i => .int i
  | _, _, .str x => .str x
  | _, _, .lst h r => .lst h (RepA.dp r)
  | _, _, .tup h r => .tup h.sq (RepA.dp r)
theorem RepA.dp : ∀ {vs : List V} {ds : List D}, RepA K F vs ds → DpAll K F vs ds
  | _, _, .nil => .nil
  | _, _, .cons h r => .cons (Rep.dp h) (RepA.dp r)
end
theorem RepA.length : ∀ {vs : List V} {ds : List D}, RepA K F vs ds → vs.length = ds.length
  | _, _, .nil => rfl
  | _, _, .cons _ r => congrArg Nat.succ (RepA.length r)
theorem RepA.get : ∀ {vs : List V} {ds : List D} {i : Nat} {d : D}, RepA K F vs ds → ds[i]? = some d → ∃ v, vs[i]? = some v ∧ Rep K F v d
  | _, _, _, _, .nil, e => by simp at e
  | _, _, 0, _, .cons h _, e => by simp at e; subst e; exact ⟨_, rfl, h⟩
  | _, _, i + 1, _, .cons _ r, e => by
    obtain ⟨v, h1, h2⟩ := RepA.get (i := i) r (by simpa using e)
    exact ⟨v, by simpa using h1, h2⟩
theorem RepA.getV : ∀ {vs : List V} {ds : List D} {i : Nat} {v : V}, RepA K F vs ds → vs[i]? = some v → ∃ d, ds[i]? = some d ∧ Rep K F v d
  | _, _, _, _, .nil, e => by simp at e
  | _, _, 0, _, .cons h _, e => by simp at e; subst e; exact ⟨_, rfl, h⟩
  | _, _, i + 1, _, .cons _ r, e => by
    obtain ⟨v, h1, h2⟩ := RepA.getV (i := i) r (by simpa using e)
    exact ⟨v, by simpa using h1, h2⟩
theorem RepA.append : ∀ {vs ws : List V} {ds es : List D}, RepA K F vs ds → RepA K F ws es → RepA K F (vs ++ ws) (ds ++ es)
  | _, _, _, _, .nil, s => s
  | _, _, _, _, .cons h r, s => .cons h (RepA.append r s)
theorem RepA.take : ∀ {vs : List V} {ds : List D} (n : Nat), RepA K F vs ds → RepA K F (vs.take n) (ds.take n)
  | _, _, 0, _ => by simp only [List.take_zero]; exact .nil
  | _, _, _ + 1, .nil => .nil
  | _, _, n + 1, .cons h r => .cons h (RepA.take n r)
theorem RepA.drop : ∀ {vs : List V} {ds : List D} (n : Nat), RepA K F vs ds → RepA K F (vs.drop n) (ds.drop n)
  | _, _, 0, r => by simpa using r
  | _, _, _ + 1, .nil => .nil
  | _, _, n + 1, .cons _ r => RepA.drop n r
theorem RepA.set : ∀ {vs : List V} {ds : List D} {v : V} {d : D} (i : Nat), RepA K F vs ds → Rep K F v d → RepA K F (vs.set i v) (ds.set i d)
  | _, _, _, _, _, .nil, _ => .nil
  | _, _, _, _, 0, .cons _ r, q => .cons q r
  | _, _, _, _, i + 1, .cons h r, q => .cons h (RepA.set i r q)
theorem RepA.eraseIdx : ∀ {vs : List V} {ds : List D} (i : Nat), RepA K F vs ds → RepA K F (vs.eraseIdx i) (ds.eraseIdx i)
  | _, _, _, .nil => .nil
  | _, _, 0, .cons _ r => r
  | _, _, i + 1, .cons h r => .cons h (RepA.eraseIdx i r)
theorem RepA.dropLast : ∀ {vs : List V} {ds : List D}, RepA K F vs ds → RepA K F vs.dropLast ds.dropLast
  | _, _, .nil => .nil
  | _, _, .cons _ .nil => .nil
  | _, _, .cons h (.cons h' r) => .cons h (RepA.dropLast (.cons h' r))
theorem RepA.reverse {vs : List V} {ds : List D} (h : RepA K F vs ds) : RepA K F vs.reverse ds.reverse := by
  match h with
  | .nil => exact .nil
  | .cons q r => rw [List.reverse_cons, List.reverse_cons]; exact RepA.append (RepA.reverse r) (.cons q .nil)
end
section
variable {K : PySem.W.Frag} {F F' : Hp}
theorem Rep.int_of {v : V} {i : Int} (h : Rep K F v (.int i)) : v = .int i := by cases h; rfl
theorem Rep.bl_of {v : V} {b : Bool} (h : Rep K F v (.bool b)) : v = .bl b := by cases h; rfl
theorem Rep.str_of {v : V} {x : Str} (h : Rep K F v (.str x)) : v = .str x := by cases h; rfl
theorem Rep.non_of {v : V} (h : Rep K F v .none) : v = .non := by cases h; rfl
theorem RepA.ints : ∀ {vs : List V} {ns : List Int}, RepA K F vs (ns.map .int) → vs = ns.map V.int
  | _, [], h => by cases h; rfl
  | _, n :: ns, h => by
    cases h with
    | cons h r => rw [Rep.int_of h, RepA.ints r]; rfl
theorem RepA.of_ints : ∀ (ns : List Int), RepA K F (ns.map V.int) (ns.map .int)
  | [] => .nil
  | n :: ns => .cons (.int n) (RepA.of_ints ns)
theorem RepA.bls : ∀ {vs : List V} {ns : List Bool}, RepA K F vs (ns.map .bool) → vs = ns.map V.bl
  | _, [], h => by cases h; rfl
  | _, n :: ns, h => by
    cases h with
    | cons h r => rw [Rep.bl_of h, RepA.bls r]; rfl
theorem RepA.strs : ∀ {vs : List V} {ns : List Str}, RepA K F vs (ns.map .str) → vs = ns.map V.str
  | _, [], h => by cases h; rfl
  | _, n :: ns, h => by
    cases h with
    | cons h r => rw [Rep.str_of h, RepA.strs r]; rfl
end

/-! ### slots, modes -/
inductive Sl where
  | un
  | im (d : D)
  | ow (d : D)
abbrev Rho := List Sl
inductive Md where
  | pk | fz | fr
/-- a changing object at a, its parts frozen -/
def Own (K : PySem.W.Frag) (F H : Hp) (a : Addr) : D → Prop
  | .list ds => ∃ vs, H a = some (.lst vs) ∧ RepA K F vs ds
  | _ => False
structure Bs where
  F0 : Hp
  G : Hp
/-- F' adds to F only what H does not have -/
def New (F F' H : Hp) : Prop := ∀ a, F' a ≠ none → F a ≠ none ∨ H a = none
structure Ext (F H F' H' : Hp) : Prop where
  f : Same F F'
  h : Same H H'
  n : New F F' H
  s : Same F' H'
theorem New.refl {F H : Hp} : New F F H := fun _ h => .inl h
theorem Ext.refl {F H : Hp} (h : Same F H) : Ext F H F H := ⟨.refl _, .refl _, .refl, h⟩
theorem Ext.trans {F H F1 H1 F2 H2 : Hp} (a : Ext F H F1 H1) (b : Ext F1 H1 F2 H2) : Ext F H F2 H2 :=
  ⟨a.f.trans b.f, a.h.trans b.h, fun c q => (b.n c q).elim (a.n c) fun z => .inr (a.h.free z), b.s⟩
/-- what is known of one value -/
def Res (K : PySem.W.Frag) (m : Md) (H0 F H : Hp) (v : V) (d : D) : Prop := match m with
  | .pk => Rep K F v d ∨ ∃ a, v = .ref a ∧ F a = none ∧ Own K F H a d
  | .fz => Rep K F v d
  | .fr => ∃ a, v = .ref a ∧ H0 a = none ∧ F a = none ∧ Own K F H a d
theorem Own.there {K : PySem.W.Frag} {F H : Hp} {a : Addr} {d : D} (h : Own K F H a d) : H a ≠ none := by
  cases d with
  | list ds => obtain ⟨vs, e, _⟩ := h; rw [e]; exact fun z => nomatch z
  | _ => exact h.elim
theorem Own.mono {K : PySem.W.Frag} {F H F' H' : Hp} {a : Addr} {d : D} (e : Same F F') (e2 : Same H H') (h : Own K F H a d) : Own K F' H' a d := by
  cases d with
  | list ds => obtain ⟨vs, q, r⟩ := h; exact ⟨vs, e2 _ _ q, r.mono e⟩
  | _ => exact h.elim
theorem Ext.keepNone {F H F' H' : Hp} (x : Ext F H F' H') {a : Addr} (h1 : F a = none) (h2 : H a ≠ none) : F' a = none := by
  cases q : F' a with
  | none => rfl
  | some o => exact ((x.n a (by rw [q]; exact fun z => nomatch z)).elim (fun z => z h1) fun z => h2 z).elim
theorem Res.mono {K : PySem.W.Frag} {m : Md} {H0 F H F' H' : Hp} {v : V} {d : D} (h : Res K m H0 F H v d) (x : Ext F H F' H') : Res K m H0 F' H' v d := by
  cases m with
  | pk =>
    rcases h with h | ⟨a, e, f, o⟩
    · exact .inl (h.mono x.f)
    · exact .inr ⟨a, e, x.keepNone f o.there, o.mono x.f x.h⟩
  | fz => exact Rep.mono x.f h
  | fr =>
    obtain ⟨a, e, h0, f, o⟩ := h
    exact ⟨a, e, h0, x.keepNone f o.there, o.mono x.f x.h⟩
def SlOk (K : PySem.W.Frag) (F H G : Hp) (o : Option V) : Sl → Prop
  | .un => True
  | .im d => ∃ v, o = some v ∧ Rep K F v d
  | .ow d => ∃ a, o = some (.ref a) ∧ F a = none ∧ G a = none ∧ Own K F H a d
/-- the state of a def's names -/
structure Rel (K : PySem.W.Frag) (B : Bs) (F H : Hp) (σ : L2.St) (ρ : Rho) : Prop where
  len : σ.length = ρ.length
  f0 : Same B.F0 F
  g : Same B.G H
  fh : Same F H
  nw : New B.F0 F B.G
  sl : ∀ (i : Nat) (o : Option V) (s : Sl), σ[i]? = some o → ρ[i]? = some s → SlOk K F H B.G o s
  sep : ∀ (i j : Nat) (d e : D) (a : Addr), i ≠ j → ρ[i]? = some (.ow d) → ρ[j]? = some (.ow e) → σ[i]? = some (some (.ref a)) → σ[j]? ≠ some (some (.ref a))
theorem SlOk.mono {K : PySem.W.Frag} {F H F' H' G : Hp} {o : Option V} {s : Sl} (h : SlOk K F H G o s) (x : Ext F H F' H') : SlOk K F' H' G o s := by
  cases s with
  | un => trivial
  | im d => obtain ⟨v, e, r⟩ := h; exact ⟨v, e, r.mono x.f⟩
  | ow d => obtain ⟨a, e, f, g, o⟩ := h; exact ⟨a, e, x.keepNone f o.there, g, o.mono x.f x.h⟩
theorem Rel.ext {K : PySem.W.Frag} {B : Bs} {F H F' H' : Hp} {σ : L2.St} {ρ : Rho} (r : Rel K B F H σ ρ) (x : Ext F H F' H') : Rel K B F' H' σ ρ :=
  ⟨r.len, r.f0.trans x.f, r.g.trans x.h, x.s, fun a q => (x.n a q).elim (r.nw a) fun z => .inr (r.g.free z), fun i o s h1 h2 => (r.sl i o s h1 h2).mono x, r.sep⟩

/-! ### readings and what they give -/
def SemE (K : PySem.W.Frag) (m : Md) (t : TE) (f : Rho → Option D) : Prop :=
  ∀ (B : Bs) (F H : Hp) (σ : L2.St) (ρ : Rho) (d : D) (Q : VK), Rel K B F H σ ρ → f ρ = some d → (∀ v F' H', Ext F H F' H' → Res K m H F' H' v d → Q v H') → t σ H Q
def SemT (K : PySem.W.Frag) (t : TT) (f : Rho → Option Bool) : Prop :=
  ∀ (B : Bs) (F H : Hp) (σ : L2.St) (ρ : Rho) (b : Bool) (Q : Bool → Hp → Prop), Rel K B F H σ ρ → f ρ = some b → (∀ F' H', Ext F H F' H' → Q b H') → t σ H Q
inductive ResA (K : PySem.W.Frag) (m : Md) (H0 F H : Hp) : List V → List D → Prop
  | nil : ResA K m H0 F H [] []
  | cons {v vs d ds} : Res K m H0 F H v d → ResA K m H0 F H vs ds → ResA K m H0 F H (v :: vs) (d :: ds)
theorem ResA.mono {K : PySem.W.Frag} {m : Md} {H0 F H F' H' : Hp} (x : Ext F H F' H') : ∀ {vs : List V} {ds : List D}, ResA K m H0 F H vs ds → ResA K m H0 F' H' vs ds
  | _, _, .nil => .nil
  | _, _, .cons h r => .cons (h.mono x) (ResA.mono x r)
theorem ResA.rep {K : PySem.W.Frag} {H0 F H : Hp} : ∀ {vs : List V} {ds : List D}, ResA K .fz H0 F H vs ds → RepA K F vs ds
  | _, _, .nil => .nil
  | _, _, .cons h r => .cons h (ResA.rep r)
theorem ResA.length {K : PySem.W.Frag} {m : Md} {H0 F H : Hp} : ∀ {vs : List V} {ds : List D}, ResA K m H0 F H vs ds → vs.length = ds.length
  | _, _, .nil => rfl
  | _, _, .cons _ r => congrArg Nat.succ (ResA.length r)
def SemA (K : PySem.W.Frag) (m : Md) (t : TA) (f : Rho → Option (List D)) : Prop :=
  ∀ (B : Bs) (F H : Hp) (σ : L2.St) (ρ : Rho) (ds : List D) (Q : List V → Hp → Prop), Rel K B F H σ ρ → f ρ = some ds → (∀ vs F' H', Ext F H F' H' → ResA K m H F' H' vs ds → Q vs H') → t σ H Q
structure DE (X : Cx) (m : Md) (e : Expr) (t : TE) (f : Rho → Option D) : Prop where
  p : PE X e t
  s : SemE X.K m t f
structure DT (X : Cx) (e : Expr) (t : TT) (f : Rho → Option Bool) : Prop where
  p : PT X e t
  s : SemT X.K t f
structure DA (X : Cx) (m : Md) (es : List Expr) (t : TA) (f : Rho → Option (List D)) : Prop where
  p : PA X es t
  s : SemA X.K m t f
  n : ∀ ρ ds, f ρ = some ds → ds.length = es.length
/-! ### modes -/
theorem fr_pk {K : PySem.W.Frag} {H0 F H : Hp} {v : V} {d : D} (h : Res K .fr H0 F H v d) : Res K .pk H0 F H v d := by
  obtain ⟨a, e, _, f, o⟩ := h
  exact .inr ⟨a, e, f, o⟩
theorem fz_pk {K : PySem.W.Frag} {H0 F H : Hp} {v : V} {d : D} (h : Res K .fz H0 F H v d) : Res K .pk H0 F H v d := .inl h
theorem same_upd {F : Hp} {a : Addr} {o : HO} (h : F a = none) : Same F (upd F a o) := fun b u q => by rw [upd_ne (ne_of_none q h)]; exact q
theorem new_upd {F H : Hp} {a : Addr} {o : HO} (h : H a = none) : New F (upd F a o) H := fun b q => by
  by_cases e : b = a
  · subst e; exact .inr h
  · rw [upd_ne e] at q; exact .inl q
theorem same_upd2 {F H : Hp} {a : Addr} {o : HO} (h : Same F H) (e : H a = some o) (f : F a = none) : Same (upd F a o) H := fun b u q => by
  by_cases z : b = a
  · subst z; rw [upd_same] at q; cases q; exact e
  · rw [upd_ne z] at q; exact h _ _ q
/-- a new object is frozen -/
theorem fr_fz {K : PySem.W.Frag} {F H F' H' : Hp} {v : V} {d : D} (x : Ext F H F' H') (h : Res K .fr H F' H' v d) : ∃ F2, Ext F H F2 H' ∧ Res K .fz H F2 H' v d := by
  obtain ⟨a, rfl, h0, f, o⟩ := h
  cases d with
  | list ds =>
    obtain ⟨vs, e, r⟩ := o
    have s1 : Same F' (upd F' a (.lst vs)) := same_upd f
    refine ⟨upd F' a (.lst vs), ⟨x.f.trans s1, x.h, fun c q => ?_, same_upd2 x.s e f⟩, .lst (.of upd_same) (r.mono s1)⟩
    by_cases z : c = a
    · subst z; exact .inr h0
    · rw [upd_ne z] at q; exact x.n c q
  | _ => exact o.elim
theorem DE.frz {X : Cx} {e : Expr} {t : TE} {f : Rho → Option D} (h : DE X .fr e t f) : DE X .fz e t f := ⟨h.p, fun B F H σ ρ d Q r hf q => h.s B F H σ ρ d Q r hf fun v F' H' x rs => by
  obtain ⟨F2, x2, r2⟩ := fr_fz x rs
  exact q v F2 H' x2 r2⟩
theorem DE.frp {X : Cx} {e : Expr} {t : TE} {f : Rho → Option D} (h : DE X .fr e t f) : DE X .pk e t f := ⟨h.p, fun B F H σ ρ d Q r hf q => h.s B F H σ ρ d Q r hf fun v F' H' x rs => q v F' H' x (fr_pk rs)⟩
theorem DE.fzp {X : Cx} {e : Expr} {t : TE} {f : Rho → Option D} (h : DE X .fz e t f) : DE X .pk e t f := ⟨h.p, fun B F H σ ρ d Q r hf q => h.s B F H σ ρ d Q r hf fun v F' H' x rs => q v F' H' x (fz_pk rs)⟩
/-! ### names, constants -/
def vF (i : Nat) : Rho → Option D := fun ρ => match ρ[i]? with
  | some (.im d) => some d
  | _ => none
def vP (i : Nat) : Rho → Option D := fun ρ => match ρ[i]? with
  | some (.im d) => some d
  | some (.ow d) => some d
  | _ => none
def cD (d : D) : Rho → Option D := fun _ => some d
theorem Rel.at {K : PySem.W.Frag} {B : Bs} {F H : Hp} {σ : L2.St} {ρ : Rho} (r : Rel K B F H σ ρ) {i : Nat} {s : Sl} (h : ρ[i]? = some s) : ∃ o, σ[i]? = some o ∧ SlOk K F H B.G o s := by
  have hi : i < σ.length := by rw [r.len]; exact (List.getElem?_eq_some_iff.mp h).1
  exact ⟨σ[i], List.getElem?_eq_getElem hi, r.sl i _ s (List.getElem?_eq_getElem hi) h⟩
section
variable {X : Cx} {pos : Pos}
theorem sem_varF {K : PySem.W.Frag} {i : Nat} : SemE K .fz (tVar i) (vF i) := fun B F H σ ρ d Q r hf q => by
  unfold vF at hf
  split at hf
  · rename_i d' e
    cases hf
    obtain ⟨o, h1, v, rfl, h2⟩ := r.at e
    exact ⟨v, h1, q v F H (.refl r.fh) h2⟩
  · cases hf
theorem sem_varP {K : PySem.W.Frag} {i : Nat} : SemE K .pk (tVar i) (vP i) := fun B F H σ ρ d Q r hf q => by
  unfold vP at hf
  split at hf
  · rename_i d' e
    cases hf
    obtain ⟨o, h1, v, rfl, h2⟩ := r.at e
    exact ⟨v, h1, q v F H (.refl r.fh) (.inl h2)⟩
  · rename_i d' e
    cases hf
    obtain ⟨o, h1, a, rfl, h2, h3, h4⟩ := r.at e
    exact ⟨_, h1, q _ F H (.refl r.fh) (.inr ⟨a, rfl, h2, h4⟩)⟩
  · cases hf
theorem de_v (i : Nat) {x : Str} (hN : X.N[i]? = some x := by rfl) (hv : Vis X.env.scope x := by first | exact Or.inl rfl | exact Or.inr (Or.inl rfl) | exact Or.inr (Or.inr rfl)) (hd : (x == ("__debug__" : Str)) = false := by decide)
    (hcd : (x == ("__classdict__" : Str)) = false := by decide) : DE X .fz (.Name x pos) (tVar i) (vF i) := ⟨pe_var hN hv hd hcd, sem_varF⟩
theorem de_p (i : Nat) {x : Str} (hN : X.N[i]? = some x := by rfl) (hv : Vis X.env.scope x := by first | exact Or.inl rfl | exact Or.inr (Or.inl rfl) | exact Or.inr (Or.inr rfl)) (hd : (x == ("__debug__" : Str)) = false := by decide)
    (hcd : (x == ("__classdict__" : Str)) = false := by decide) : DE X .pk (.Name x pos) (tVar i) (vP i) := ⟨pe_var hN hv hd hcd, sem_varP⟩
theorem sem_c {K : PySem.W.Frag} {v : V} {d : D} (h : ∀ F, Rep K F v d) : SemE K .fz (tC v) (cD d) := fun B F H σ ρ d' Q r hf q => by
  cases hf
  exact q v F H (.refl r.fh) (h F)
theorem de_int {i : Int} {j : Nat} : DE X .fz (.Constant (.int i) j pos) (tC (.int i)) (cD (.int i)) := ⟨pe_int, sem_c fun _ => .int i⟩
theorem de_bl {b : Bool} {j : Nat} : DE X .fz (.Constant (.bool b) j pos) (tC (.bl b)) (cD (.bool b)) := ⟨pe_bl, sem_c fun _ => .bl b⟩
theorem de_non {j : Nat} : DE X .fz (.Constant .none j pos) (tC .non) (cD .none) := ⟨pe_non, sem_c fun _ => .non⟩
theorem de_str {x : Str} {j : Nat} : DE X .fz (.Constant (.str x) j pos) (tC (.str x)) (cD (.str x)) := ⟨pe_str, sem_c fun _ => .str x⟩
theorem de_globI {x : Str} {i : Int} (hg : Gl X x) (hm : ∃ t, X.mg x = some (.int i t)) (hd : (x == ("__debug__" : Str)) = false := by decide) : DE X .fz (.Name x pos) (tC (.int i)) (cD (.int i)) := by
  obtain ⟨t, hm⟩ := hm
  exact ⟨pe_glob hg hm ⟨t, rfl⟩ hd, sem_c fun _ => .int i⟩
theorem de_globS {x : Str} {z : Str} (hg : Gl X x) (hm : ∃ t, X.mg x = some (.str z t)) (hd : (x == ("__debug__" : Str)) = false := by decide) : DE X .fz (.Name x pos) (tC (.str z)) (cD (.str z)) := by
  obtain ⟨t, hm⟩ := hm
  exact ⟨pe_glob hg hm ⟨t, rfl⟩ hd, sem_c fun _ => .str z⟩
end
end Q
end

/-! part: Q2 -/
section
set_option Elab.async false
set_option linter.all false
set_option maxRecDepth 100000
set_option maxHeartbeats 4000000
namespace Q
open PySem PySem.Spec PyProof.Rows L2
/-! ### what a value known by Res gives -/
section
variable {K : PySem.W.Frag} {m : Md} {H0 F H : Hp} {v : V} {d : D}
theorem Res.any (h : Res K m H0 F H v d) : Res K .pk H0 F H v d := by
  cases m with
  | pk => exact h
  | fz => exact fz_pk h
  | fr => exact fr_pk h
/-- as data over the whole heap -/
theorem Res.dp (h : Res K m H0 F H v d) (fh : Same F H) : Dp K H v d := by
  rcases h.any with h | ⟨a, rfl, _, o⟩
  · exact (h.mono fh).dp
  · cases d with
    | list ds => obtain ⟨vs, e, r⟩ := o; exact .lst (.of e) (r.mono fh).dp
    | _ => exact o.elim
theorem Res.list {ds : List D} (h : Res K m H0 F H v (.list ds)) (fh : Same F H) : ∃ a xs, v = .ref a ∧ SqL K H a xs ∧ RepA K F xs ds := by
  rcases h.any with h | ⟨a, rfl, _, o⟩
  · cases h with
    | lst h1 r => exact ⟨_, _, rfl, fh.seq h1, r⟩
  · obtain ⟨vs, e, r⟩ := o
    exact ⟨a, vs, rfl, .of e, r⟩
theorem Res.rep (h : Res K m H0 F H v d) (n : ∀ ds, d ≠ .list ds) : Rep K F v d := by
  rcases h.any with h | ⟨a, rfl, _, o⟩
  · exact h
  · cases d with
    | list ds => exact absurd rfl (n ds)
    | _ => exact o.elim
theorem Res.tup {ds : List D} (h : Res K m H0 F H v (.tuple ds)) (fh : Same F H) : ∃ a xs, v = .ref a ∧ TupAt K H a xs ∧ RepA K F xs ds := by
  cases h.rep (fun _ z => nomatch z) with
  | tup h1 r => exact ⟨_, _, rfl, TupAt.mono fh h1, r⟩
theorem Res.int {i : Int} (h : Res K m H0 F H v (.int i)) : v = .int i := (h.rep (fun _ z => nomatch z)).int_of
theorem Res.bl {i : Bool} (h : Res K m H0 F H v (.bool i)) : v = .bl i := (h.rep (fun _ z => nomatch z)).bl_of
theorem Res.str {i : Str} (h : Res K m H0 F H v (.str i)) : v = .str i := (h.rep (fun _ z => nomatch z)).str_of
theorem Res.non (h : Res K m H0 F H v .none) : v = .non := (h.rep (fun _ z => nomatch z)).non_of
theorem Res.back {F1 H1 : Hp} (h : Res K m H1 F H v d) (s : Same H0 H1) : Res K m H0 F H v d := by
  cases m with
  | pk => exact h
  | fz => exact h
  | fr =>
    obtain ⟨a, e, h0, r⟩ := h
    exact ⟨a, e, s.free h0, r⟩
end
/-- freezing a new tuple, a new list -/
theorem ext_new {F H F' H' : Hp} (x : Ext F H F' H') {a : Addr} {o : HO} (h : H' a = none) : Ext F H (upd F' a o) (upd H' a o) := by
  have hf : F' a = none := by
    cases q : F' a with
    | none => rfl
    | some u => rw [x.s _ _ q] at h; cases h
  refine ⟨x.f.trans (same_upd hf), x.h.trans (same_upd h), fun c q => ?_, fun b u q => ?_⟩
  · by_cases z : c = a
    · subst z; exact .inr (x.h.free h)
    · rw [upd_ne z] at q; exact x.n c q
  · by_cases z : b = a
    · subst z; rw [upd_same] at q ⊢; exact q
    · rw [upd_ne z] at q ⊢; exact x.s _ _ q
theorem ext_own {F H F' H' : Hp} (x : Ext F H F' H') {a : Addr} {o : HO} (h : H' a = none) : Ext F H F' (upd H' a o) :=
  ⟨x.f, x.h.trans (same_upd h), x.n, x.s.trans (same_upd h)⟩
theorem free_of {F H : Hp} (s : Same F H) {a : Addr} (h : H a = none) : F a = none := s.free h

/-! ### operations by values -/
/-- what a two-place operation gives of data -/
def OpS (K : PySem.W.Frag) (m : Md) (r : R2) (g : D → D → Option D) : Prop :=
  ∀ (F H Ha Hb : Hp) (x y : V) (d e z : D) (Q : VK), Same F H → Res K .pk Ha F H x d → Res K .pk Hb F H y e → g d e = some z → (∀ v F' H', Ext F H F' H' → Res K m H F' H' v z → Q v H') → r x y H Q
def f2 (g : D → D → Option D) (fa fb : Rho → Option D) : Rho → Option D := fun ρ => (fa ρ).bind fun x => (fb ρ).bind fun y => g x y
def f1 (g : D → Option D) (fa : Rho → Option D) : Rho → Option D := fun ρ => (fa ρ).bind g
theorem bind_some {α β : Type} {o : Option α} {g : α → Option β} {z : β} (h : o.bind g = some z) : ∃ x, o = some x ∧ g x = some z := by
  cases o with
  | none => cases h
  | some x => exact ⟨x, rfl, h⟩
theorem sem_op {K : PySem.W.Frag} {m m1 m2 : Md} {ta tb : TE} {r : R2} {g : D → D → Option D} {fa fb : Rho → Option D} (hs : OpS K m r g) (ha : SemE K m1 ta fa) (hb : SemE K m2 tb fb) : SemE K m (tOp r ta tb) (f2 g fa fb) := by
  intro B F H σ ρ z Q rel hf q
  obtain ⟨d, h1, h2⟩ := bind_some hf
  obtain ⟨e, h3, h4⟩ := bind_some h2
  refine ha B F H σ ρ d _ rel h1 fun x F1 H1 x1 r1 => ?_
  refine hb B F1 H1 σ ρ e _ (rel.ext x1) h3 fun y F2 H2 x2 r2 => ?_
  refine hs F2 H2 H H1 x y d e z Q x2.s (r1.mono x2).any r2.any h4 fun v F' H' x3 r3 => ?_
  exact q v F' H' ((x1.trans x2).trans x3) (r3.back (F1 := F1) (x1.h.trans x2.h))
section
variable {X : Cx} {a b c : Expr} {ta tb tc : TE} {pos : Pos} {m m1 m2 m3 : Md} {r : R2} {g : D → D → Option D} {fa fb fc : Rho → Option D}
theorem de_op {op : Operator} (ho : OpR X (binaryOp op) r) (hs : OpS X.K m r g) (ha : DE X m1 a ta fa) (hb : DE X m2 b tb fb) : DE X m (.BinOp a op b pos) (tOp r ta tb) (f2 g fa fb) :=
  ⟨pe_op ho ha.p hb.p, sem_op hs ha.s hb.s⟩
theorem de_cmp {op : CmpOp} (ho : OpR X (compareOp op) r) (hs : OpS X.K m r g) (hm : behindInMarks op b = false) (ha : DE X m1 a ta fa) (hb : DE X m2 b tb fb) : DE X m (.Compare a [op] [b] pos) (tOp r ta tb) (f2 g fa fb) :=
  ⟨pe_cmpR ho ha.p hb.p hm, sem_op hs ha.s hb.s⟩
def boolD : D → Option Bool
  | .bool b => some b
  | _ => none
def fT (f : Rho → Option D) : Rho → Option Bool := fun ρ => (f ρ).bind boolD
theorem boolD_some {d : D} {b : Bool} (h : boolD d = some b) : d = .bool b := by
  cases d with
  | bool c => cases h; rfl
  | _ => cases h
theorem sem_test {K : PySem.W.Frag} {t : TE} {f : Rho → Option D} (h : SemE K m t f) : SemT K (tTest t) (fT f) := by
  intro B F H σ ρ b Q rel hf q
  obtain ⟨d, h1, h2⟩ := bind_some hf
  cases boolD_some h2
  refine h B F H σ ρ _ _ rel h1 fun x F1 H1 x1 r1 => ?_
  exact ⟨b, r1.bl, q F1 H1 x1⟩
theorem dt_cmp {op : CmpOp} (ho : OpR X (compareOp op) r) (hs : OpS X.K .fz r g) (hm : behindInMarks op b = false) (ha : DE X m1 a ta fa) (hb : DE X m2 b tb fb) : DT X (.Compare a [op] [b] pos) (tTest (tOp r ta tb)) (fT (f2 g fa fb)) :=
  ⟨pt_cmpR ho ha.p hb.p hm, sem_test (sem_op hs ha.s hb.s)⟩
/-! ints -/
theorem ops_I0 {K : PySem.W.Frag} {f : Int → Int → V} {g : D → D → Option D} {h : Int → Int → D} (hr : ∀ F i j, Rep K F (f i j) (h i j)) (hg : ∀ d e z, g d e = some z → ∃ i j, d = .int i ∧ e = .int j ∧ z = h i j) : OpS K .fz (rI0 f) g := by
  intro F H Ha Hb x y d e z Q fh r1 r2 hz q
  obtain ⟨i, j, rfl, rfl, rfl⟩ := hg d e z hz
  exact ⟨i, j, r1.int, r2.int, q _ F H (.refl fh) (hr F i j)⟩
theorem ops_I {K : PySem.W.Frag} {C : Int → Int → Prop} {f : Int → Int → V} {g : D → D → Option D} {h : Int → Int → D} (hr : ∀ F i j, Rep K F (f i j) (h i j)) (hg : ∀ d e z, g d e = some z → ∃ i j, d = .int i ∧ e = .int j ∧ C i j ∧ z = h i j) : OpS K .fz (rI C f) g := by
  intro F H Ha Hb x y d e z Q fh r1 r2 hz q
  obtain ⟨i, j, rfl, rfl, hc, rfl⟩ := hg d e z hz
  exact ⟨i, j, r1.int, r2.int, hc, q _ F H (.refl fh) (hr F i j)⟩
theorem OpS.or {K : PySem.W.Frag} {r r' : R2} {g g' : D → D → Option D} (h : OpS K m r g) (h' : OpS K m r' g') : OpS K m (fun x y H Q => r x y H Q ∨ r' x y H Q) (fun d e => (g d e).orElse fun _ => g' d e) := by
  intro F H Ha Hb x y d e z Q fh r1 r2 hz q
  have hz' : ((g d e).orElse fun _ => g' d e) = some z := hz
  cases hg : g d e with
  | some w =>
    rw [hg] at hz'
    cases hz'
    exact .inl (h F H Ha Hb x y d e z Q fh r1 r2 hg q)
  | none =>
    rw [hg] at hz'
    have e1 : g' d e = some z := hz'
    exact .inr (h' F H Ha Hb x y d e z Q fh r1 r2 e1 q)
theorem OpS.imp {K : PySem.W.Frag} {r : R2} {g g' : D → D → Option D} (h : OpS K m r g) (e : ∀ d e z, g' d e = some z → g d e = some z) : OpS K m r g' :=
  fun F H Ha Hb x y d e' z Q fh r1 r2 hz q => h F H Ha Hb x y d e' z Q fh r1 r2 (e _ _ _ hz) q
end
def subD : D → D → Option D
  | .int i, .int j => some (.int (i - j))
  | _, _ => none
/-- one factor below 2 ^ 64 -/
def mulI (i j : Int) : Option D := if (-(2 ^ 64) < i ∧ i < 2 ^ 64) ∨ (-(2 ^ 64) < j ∧ j < 2 ^ 64) then some (.int (i * j)) else none
def mulD : D → D → Option D
  | .int i, .int j => mulI i j
  | _, _ => none
def fdivD : D → D → Option D
  | .int i, .int j => if j ≠ 0 ∧ j.natAbs < 1073741824 then some (.int (i.fdiv j)) else none
  | _, _ => none
def modD : D → D → Option D
  | .int i, .int j => if j ≠ 0 then some (.int (i.fmod j)) else none
  | _, _ => none
def powD : D → D → Option D
  | .int i, .int j => if 0 ≤ j ∧ j ≤ 1000000 ∧ i.natAbs < 2 ^ 64 then some (.int (i ^ j.toNat)) else none
  | _, _ => none
section
variable {K : PySem.W.Frag}
theorem two_ints {g : D → D → Option D} {d e z : D} {h : Int → Int → Option D} (hz : g d e = some z) (hg : g = fun d e => match d, e with
  | .int i, .int j => h i j
  | _, _ => none) : ∃ i j, d = .int i ∧ e = .int j ∧ h i j = some z := by
  subst hg
  cases d with
  | int i =>
    cases e with
    | int j => exact ⟨i, j, rfl, rfl, hz⟩
    | _ => cases hz
  | _ => cases hz
theorem if_some {α : Type} {p : Prop} [Decidable p] {x z : α} (h : (if p then some x else none) = some z) : p ∧ x = z := by
  by_cases hp : p
  · rw [if_pos hp] at h; exact ⟨hp, Option.some.inj h⟩
  · rw [if_neg hp] at h; cases h
theorem ops_sub : OpS K .fz (rI0 fun i j => .int (i - j)) subD := ops_I0 (h := fun i j => .int (i - j)) (fun _ _ _ => .int _) fun d e z hz => by
  obtain ⟨i, j, h1, h2, h3⟩ := two_ints (h := fun i j => some (.int (i - j))) hz (by funext d e; cases d <;> cases e <;> rfl)
  exact ⟨i, j, h1, h2, (Option.some.inj h3).symm⟩
theorem ops_mul : OpS K .fz (rI CMul fun i j => .int (i * j)) mulD := ops_I (h := fun i j => .int (i * j)) (fun _ _ _ => .int _) fun d e z hz => by
  obtain ⟨i, j, h1, h2, h3⟩ := two_ints (h := mulI) hz (by funext d e; cases d <;> cases e <;> rfl)
  obtain ⟨h4, h5⟩ := if_some h3
  exact ⟨i, j, h1, h2, h4, h5.symm⟩
theorem ops_fdiv : OpS K .fz (rI CDivN fun i j => .int (i.fdiv j)) fdivD := ops_I (h := fun i j => .int (i.fdiv j)) (fun _ _ _ => .int _) fun d e z hz => by
  obtain ⟨i, j, h1, h2, h3⟩ := two_ints (h := fun i j => if j ≠ 0 ∧ j.natAbs < 1073741824 then some (.int (i.fdiv j)) else none) hz (by funext d e; cases d <;> cases e <;> rfl)
  obtain ⟨h4, h5⟩ := if_some h3
  exact ⟨i, j, h1, h2, h4, h5.symm⟩
theorem ops_mod : OpS K .fz (rI (fun _ j => j ≠ 0) fun i j => .int (i.fmod j)) modD := ops_I (h := fun i j => .int (i.fmod j)) (fun _ _ _ => .int _) fun d e z hz => by
  obtain ⟨i, j, h1, h2, h3⟩ := two_ints (h := fun i j => if j ≠ 0 then some (.int (i.fmod j)) else none) hz (by funext d e; cases d <;> cases e <;> rfl)
  obtain ⟨h4, h5⟩ := if_some h3
  exact ⟨i, j, h1, h2, h4, h5.symm⟩
theorem ops_pow : OpS K .fz (rI CPow fun i j => .int (i ^ j.toNat)) powD := ops_I (h := fun i j => .int (i ^ j.toNat)) (fun _ _ _ => .int _) fun d e z hz => by
  obtain ⟨i, j, h1, h2, h3⟩ := two_ints (h := fun i j => if 0 ≤ j ∧ j ≤ 1000000 ∧ i.natAbs < 2 ^ 64 then some (.int (i ^ j.toNat)) else none) hz (by funext d e; cases d <;> cases e <;> rfl)
  obtain ⟨h4, h5⟩ := if_some h3
  exact ⟨i, j, h1, h2, h4, h5.symm⟩
end

/-! ### a new tuple whose object is known -/
section
variable {X : Cx} {pins : List (Addr × Obj)} {σ : L2.St} {H : Hp} {s : Shared}
abbrev tupObj (its : Array Value) : Obj := { cls := .type "tuple", data := .seq its }
theorem _root_.L2.Inv.laidT {its : List Value} {xs : List V} {t' : Nat} (I : Inv X pins σ H s) (hv : Vals xs its) (hz : xs.length ≤ sizeLine) :
    Inv X pins σ (upd H s.heap.objs.size (.frz (tupObj its.toArray) (.tup xs))) { s with heap := s.heap.push (tupObj its.toArray), toks := t' } :=
  I.laid (fun _ _ q => Heap.get?_push_of_some _ q) (Nat.le_refl _) ⟨Heap.get?_push_size _ rfl, hz, its, hv, IsTup.new _ _⟩
end
/-- what a rule hands on of a new tuple -/
def NewT (xs : List V) (H : Hp) (Q : VK) : Prop := ∀ (p : Addr) (o : Obj), H p = none → o.cls = .type "tuple" → o.dict = none → Q (.ref p) (upd H p (.frz o (.tup xs)))
theorem newT_rep {K : PySem.W.Frag} {F H F' H' : Hp} {xs : List V} {ds : List D} (x : Ext F H F' H') (r : RepA K F' xs ds) {Q : VK} (q : ∀ v F2 H2, Ext F H F2 H2 → Rep K F2 v (.tuple ds) → Q v H2) : NewT xs H' Q := by
  intro p o hp h1 h2
  have x2 := ext_new (o := .frz o (.tup xs)) x hp
  exact q _ _ _ x2 (.tup (.inl ⟨o, upd_same, h1, h2⟩) (r.mono (same_upd (x.s.free hp))))
def NewL (xs : List V) (H : Hp) (Q : VK) : Prop := ∀ (p : Addr), H p = none → Q (.ref p) (upd H p (.lst xs))
theorem newL_res {K : PySem.W.Frag} {F H F' H' : Hp} {xs : List V} {ds : List D} (x : Ext F H F' H') (r : RepA K F' xs ds) {Q : VK} (q : ∀ v F2 H2, Ext F H F2 H2 → Res K .fr H F2 H2 v (.list ds) → Q v H2) : NewL xs H' Q := by
  intro p hp
  exact q _ _ _ (ext_own (o := .lst xs) x hp) ⟨p, rfl, x.h.free hp, x.s.free hp, xs, upd_same, r⟩
/-! ### + -/
def rCatF (K : PySem.W.Frag) : R2 := fun x y H Q => ∃ a b xs ys, x = .ref a ∧ y = .ref b ∧ SqT K H a xs ∧ SqT K H b ys ∧ xs.length + ys.length ≤ sizeLine ∧
  (xs = [] → Q (.ref b) H) ∧ (xs ≠ [] → ys = [] → Q (.ref a) H) ∧ (xs ≠ [] → ys ≠ [] → NewT (xs ++ ys) H Q)
def rCatL (K : PySem.W.Frag) : R2 := fun x y H Q => ∃ a b xs ys, x = .ref a ∧ y = .ref b ∧ SqL K H a xs ∧ SqL K H b ys ∧ xs.length + ys.length ≤ sizeLine ∧ NewL (xs ++ ys) H Q
section
variable {X : Cx}
theorem op_catF : OpR X (binaryOp .Add) (rCatF X.K) := by
  intro pins s σ H x y v u Q I rx ry h
  obtain ⟨a, b, xs, ys, rfl, rfl, ha, hb, hz, q0, q1, q2⟩ := h
  cases rx
  cases ry
  obtain ⟨its, r1, p1, _⟩ := I.tuple ha
  obtain ⟨its2, r2, p2, _⟩ := I.tuple hb
  by_cases hx : xs = []
  · subst hx
    cases r1
    exact cat_tup0 p1 p2 ⟨.ref b, H, I, rfl, q0 rfl⟩
  · refine HT.cat_tup p1 p2 (fun z => hx (r1.nil_iff.mp z)) (fun z => ⟨.ref a, H, I, rfl, q1 hx (r2.nil_iff.mp z)⟩) (fun z => ?_) (by rw [← r1.length, ← r2.length]; exact hz)
    exact ⟨.ref s.heap.objs.size, _, I.laidT (t' := s.toks) (r1.append r2) (by rw [List.length_append]; exact hz), rfl, q2 hx (fun w => z (r2.nil_iff.mpr w)) _ _ (I.hok.fresh (Nat.le_refl _)) rfl rfl⟩
theorem op_catLL : OpR X (binaryOp .Add) (rCatL X.K) := by
  intro pins s σ H x y v u Q I rx ry h
  obtain ⟨a, b, xs, ys, rfl, rfl, ha, hb, hz, q⟩ := h
  cases rx
  cases ry
  obtain ⟨its, r1, ⟨⟨c1, dd1, dt1, sl1⟩, n1, e1, hc1, hd1, hs1⟩, _⟩ := I.list ha
  obtain ⟨its2, r2, ⟨⟨c2, dd2, dt2, sl2⟩, n2, e2, hc2, hd2, hs2⟩, _⟩ := I.list hb
  simp only at hc1 hd1 hs1 hc2 hd2 hs2
  subst hc1 hd1 hs1 hc2 hd2 hs2
  have hz2 : its.toArray.size + its2.toArray.size ≤ sizeLine := by rw [List.size_toArray, List.size_toArray, ← r1.length, ← r2.length]; exact hz
  refine concat_meets ⟨_, e1, rfl⟩ ⟨_, e2, rfl⟩ noFill_list_add seq_list_add PySem.F.slot_list_add PySem.F.entry_list_add (PySem.F.args_list_add_2 _ _) (list_addW a b its.toArray its2.toArray n1 n2 none none sl1 sl2 hz2) ⟨e1, e2, ?_⟩
  have ea : its.toArray ++ its2.toArray = (its ++ its2).toArray := by simp
  rw [ea]
  exact ⟨.ref s.heap.objs.size, _, I.lnew (t' := s.toks) (r1.append r2) (by rw [List.length_append]; exact hz), rfl, q _ I.fresh⟩
theorem op_catLLK (K' : PySem.W.Frag) (hK : X.K = K' := by rfl) : OpR X (binaryOp .Add) (rCatL K') := by
  subst hK
  exact op_catLL 
end
def addD : D → D → Option D
  | .int i, .int j => some (.int (i + j))
  | .str a, .str b => if a.length + b.length ≤ sizeLine then some (.str (a ++ b)) else none
  | .tuple xs, .tuple ys => if xs.length + ys.length ≤ sizeLine then some (.tuple (xs ++ ys)) else none
  | .list xs, .list ys => if xs.length + ys.length ≤ sizeLine then some (.list (xs ++ ys)) else none
  | _, _ => none
def catLD : D → D → Option D
  | .list xs, .list ys => if xs.length + ys.length ≤ sizeLine then some (.list (xs ++ ys)) else none
  | _, _ => none
def addB : D → D → Option D
  | .int i, .int j => some (.int (i + j))
  | .str a, .str b => if a.length + b.length ≤ sizeLine then some (.str (a ++ b)) else none
  | .tuple xs, .tuple ys => if xs.length + ys.length ≤ sizeLine then some (.tuple (xs ++ ys)) else none
  | _, _ => none
def rAddA (K : PySem.W.Frag) : R2 := fun x y H Q => (rI0 (fun i j => .int (i + j)) x y H Q ∨ (∃ i j, x = .str i ∧ y = .str j ∧ i.length + j.length ≤ sizeLine ∧ Q (.str (i ++ j)) H)) ∨ (rCatF K x y H Q ∨ rCatL K x y H Q)
theorem op_addA {X : Cx} : OpR X (binaryOp .Add) (rAddA X.K) := (op_add.or op_add_str).or (op_catF.or op_catLL)
theorem op_addAK {X : Cx} (K' : PySem.W.Frag) (hK : X.K = K' := by rfl) : OpR X (binaryOp .Add) (rAddA K') := by
  subst hK
  exact op_addA 
theorem ops_catL {K : PySem.W.Frag} : OpS K .fr (rCatL K) catLD := by
  intro F H Ha Hb x y d e z Q fh r1 r2 hz q
  cases d with
  | list xs =>
    cases e with
    | list ys =>
      obtain ⟨hl, rfl⟩ := if_some hz
      obtain ⟨a, vs, rfl, s1, p1⟩ := r1.list fh
      obtain ⟨b, ws, rfl, s2, p2⟩ := r2.list fh
      exact ⟨a, b, vs, ws, rfl, rfl, s1, s2, by rw [p1.length, p2.length]; exact hl, newL_res (.refl fh) (p1.append p2) q⟩
    | _ => cases hz
  | _ => cases hz
theorem ops_addA {K : PySem.W.Frag} : OpS K .fz (rAddA K) addD := by
  intro F H Ha Hb x y d e z Q fh r1 r2 hz q
  cases d with
  | int i =>
    cases e with
    | int j => cases hz; exact .inl (.inl ⟨i, j, r1.int, r2.int, q _ F H (.refl fh) (Rep.int _)⟩)
    | _ => cases hz
  | str i =>
    cases e with
    | str j =>
      obtain ⟨hl, rfl⟩ := if_some hz
      exact .inl (.inr ⟨i, j, r1.str, r2.str, hl, q _ F H (.refl fh) (Rep.str _)⟩)
    | _ => cases hz
  | tuple xs =>
    cases e with
    | tuple ys =>
      obtain ⟨hl, rfl⟩ := if_some hz
      obtain ⟨a, vs, rfl, s1, p1⟩ := r1.tup fh
      obtain ⟨b, ws, rfl, s2, p2⟩ := r2.tup fh
      have t1 := (Res.rep r1 (fun _ z => nomatch z))
      have t2 := (Res.rep r2 (fun _ z => nomatch z))
      refine .inr (.inl ⟨a, b, vs, ws, rfl, rfl, s1.sq, s2.sq, by rw [p1.length, p2.length]; exact hl, fun e0 => ?_, fun _ e0 => ?_, fun _ _ => newT_rep (.refl fh) (p1.append p2) q⟩)
      · subst e0; cases p1; exact q _ F H (.refl fh) t2
      · subst e0
        cases p2
        have t1' : Rep K F (.ref a) (.tuple (xs ++ [])) := by rw [List.append_nil]; exact t1
        exact q _ F H (.refl fh) t1'
    | _ => cases hz
  | list xs =>
    cases e with
    | list ys =>
      refine .inr (.inr (ops_catL F H Ha Hb x y _ _ z Q fh r1 r2 hz fun v F' H' x' r' => ?_))
      obtain ⟨F2, x2, r3⟩ := fr_fz x' r'
      -- the new list frozen
      exact (q v F2 H' x2 r3)
    | _ => cases hz
  | _ => cases hz
end Q
end

/-! part: Q3 -/
section
set_option Elab.async false
set_option linter.all false
set_option maxRecDepth 100000
set_option maxHeartbeats 4000000
namespace Q
open PySem PySem.Spec PyProof.Rows L2
/-! ### comparisons of data -/
def eqD (d e : D) : Option D := if SeqAt.shaped d = true ∧ SeqAt.shaped e = true then some (.bool (PyData.eqv d e)) else none
def neD (d e : D) : Option D := if SeqAt.shaped d = true ∧ SeqAt.shaped e = true then some (.bool (!PyData.eqv d e)) else none
theorem ops_eq {K : PySem.W.Frag} : OpS K .fz (rEqD K) eqD := by
  intro F H Ha Hb x y d e z Q fh r1 r2 hz q
  obtain ⟨⟨h1, h2⟩, rfl⟩ := if_some hz
  exact ⟨d, e, r1.dp fh, r2.dp fh, h1, h2, q _ F H (.refl fh) (Rep.bl _)⟩
theorem ops_ne {K : PySem.W.Frag} : OpS K .fz (rNeD K) neD := by
  intro F H Ha Hb x y d e z Q fh r1 r2 hz q
  obtain ⟨⟨h1, h2⟩, rfl⟩ := if_some hz
  exact ⟨d, e, r1.dp fh, r2.dp fh, h1, h2, q _ F H (.refl fh) (Rep.bl _)⟩
/-- may the two be compared by their order -/
def ordOk (d e : D) : Bool := PySem.W.alike d e && (match d with
  | .none => false
  | _ => true) && decide (d.depth ≤ 64)
def ltD (d e : D) : Option D := if ordOk d e = true then some (.bool (PySem.W.dataLt d e)) else none
def gtD (d e : D) : Option D := if ordOk d e = true then some (.bool (PySem.W.dataLt e d)) else none
def leD (d e : D) : Option D := if ordOk d e = true then some (.bool (!PySem.W.dataLt e d)) else none
def geD (d e : D) : Option D := if ordOk d e = true then some (.bool (!PySem.W.dataLt d e)) else none
theorem ordOk_of {d e : D} (h : ordOk d e = true) : PySem.W.alike d e = true ∧ d ≠ .none ∧ d.depth ≤ 64 := by
  unfold ordOk at h
  simp only [Bool.and_eq_true, decide_eq_true_eq] at h
  obtain ⟨⟨h1, h2⟩, h3⟩ := h
  refine ⟨h1, fun z => ?_, h3⟩
  subst z
  cases h2
def rOrd (K : PySem.W.Frag) (k : D → D → Bool) : R2 := fun x y H Q => ∃ d e, Dp K H x d ∧ Dp K H y e ∧ ordOk d e = true ∧ Q (.bl (k d e)) H
section
variable {X : Cx}
theorem min_depth {A : Around} {d e : D} (h : d.depth ≤ 64) (hu : A.units + 64 < cLine) : A.units + min d.depth e.depth < cLine := by
  have : min d.depth e.depth ≤ d.depth := Nat.min_le_left _ _
  omega
theorem op_lt_ (hu : X.A.units + 64 < cLine) : OpR X (compareOp .Lt) (rOrd X.K fun d e => PySem.W.dataLt d e) := by
  intro pins s σ H x y v u Q I rx ry h
  obtain ⟨d, e, hd, he, ok, q⟩ := h
  obtain ⟨as, r1⟩ := Dp.reads I d x v hd rx
  obtain ⟨bs, r2⟩ := Dp.reads I e y u he ry
  obtain ⟨h1, h2, h3⟩ := ordOk_of ok
  exact PySem.W.lt_data r1 r2 h1 h2 (min_depth h3 hu) ⟨.bl _, H, I, rfl, q⟩
theorem op_lt_K (K' : PySem.W.Frag) (hu : X.A.units + 64 < cLine) (hK : X.K = K' := by rfl) : OpR X (compareOp .Lt) (rOrd K' fun d e => PySem.W.dataLt d e) := by
  subst hK
  exact op_lt_ (hu := hu)
theorem op_gt_ (hu : X.A.units + 64 < cLine) : OpR X (compareOp .Gt) (rOrd X.K fun d e => PySem.W.dataLt e d) := by
  intro pins s σ H x y v u Q I rx ry h
  obtain ⟨d, e, hd, he, ok, q⟩ := h
  obtain ⟨as, r1⟩ := Dp.reads I d x v hd rx
  obtain ⟨bs, r2⟩ := Dp.reads I e y u he ry
  obtain ⟨h1, h2, h3⟩ := ordOk_of ok
  exact PySem.W.gt_data r1 r2 h1 h2 (min_depth h3 hu) ⟨.bl _, H, I, rfl, q⟩
theorem op_gt_K (K' : PySem.W.Frag) (hu : X.A.units + 64 < cLine) (hK : X.K = K' := by rfl) : OpR X (compareOp .Gt) (rOrd K' fun d e => PySem.W.dataLt e d) := by
  subst hK
  exact op_gt_ (hu := hu)
theorem op_le_ (hu : X.A.units + 64 < cLine) : OpR X (compareOp .LtE) (rOrd X.K fun d e => !PySem.W.dataLt e d) := by
  intro pins s σ H x y v u Q I rx ry h
  obtain ⟨d, e, hd, he, ok, q⟩ := h
  obtain ⟨as, r1⟩ := Dp.reads I d x v hd rx
  obtain ⟨bs, r2⟩ := Dp.reads I e y u he ry
  obtain ⟨h1, h2, h3⟩ := ordOk_of ok
  exact PySem.W.le_data r1 r2 h1 h2 (min_depth h3 hu) ⟨.bl _, H, I, rfl, q⟩
theorem op_le_K (K' : PySem.W.Frag) (hu : X.A.units + 64 < cLine) (hK : X.K = K' := by rfl) : OpR X (compareOp .LtE) (rOrd K' fun d e => !PySem.W.dataLt e d) := by
  subst hK
  exact op_le_ (hu := hu)
theorem op_ge_ (hu : X.A.units + 64 < cLine) : OpR X (compareOp .GtE) (rOrd X.K fun d e => !PySem.W.dataLt d e) := by
  intro pins s σ H x y v u Q I rx ry h
  obtain ⟨d, e, hd, he, ok, q⟩ := h
  obtain ⟨as, r1⟩ := Dp.reads I d x v hd rx
  obtain ⟨bs, r2⟩ := Dp.reads I e y u he ry
  obtain ⟨h1, h2, h3⟩ := ordOk_of ok
  exact PySem.W.ge_data r1 r2 h1 h2 (min_depth h3 hu) ⟨.bl _, H, I, rfl, q⟩
theorem op_ge_K (K' : PySem.W.Frag) (hu : X.A.units + 64 < cLine) (hK : X.K = K' := by rfl) : OpR X (compareOp .GtE) (rOrd K' fun d e => !PySem.W.dataLt d e) := by
  subst hK
  exact op_ge_ (hu := hu)
end
theorem ops_ord {K : PySem.W.Frag} {k : D → D → Bool} : OpS K .fz (rOrd K k) (fun d e => if ordOk d e = true then some (.bool (k d e)) else none) := by
  intro F H Ha Hb x y d e z Q fh r1 r2 hz q
  obtain ⟨h1, rfl⟩ := if_some hz
  exact ⟨d, e, r1.dp fh, r2.dp fh, h1, q _ F H (.refl fh) (Rep.bl _)⟩
theorem ops_lt {K : PySem.W.Frag} : OpS K .fz (rOrd K fun d e => PySem.W.dataLt d e) ltD := ops_ord
theorem ops_gt {K : PySem.W.Frag} : OpS K .fz (rOrd K fun d e => PySem.W.dataLt e d) gtD := ops_ord
theorem ops_le {K : PySem.W.Frag} : OpS K .fz (rOrd K fun d e => !PySem.W.dataLt e d) leD := ops_ord
theorem ops_ge {K : PySem.W.Frag} : OpS K .fz (rOrd K fun d e => !PySem.W.dataLt d e) geD := ops_ord
/-! ### is -/
def isNoneD (d : D) : Bool := match d with
  | .none => true
  | _ => false
def rIsN : R2 := fun x y H Q => y = .non ∧ Q (.bl (decide (x = .non))) H
def rNotN : R2 := fun x y H Q => y = .non ∧ Q (.bl (!decide (x = .non))) H
def isND (d e : D) : Option D := match e with
  | .none => some (.bool (isNoneD d))
  | _ => none
def notND (d e : D) : Option D := match e with
  | .none => some (.bool (!isNoneD d))
  | _ => none
theorem res_none_iff {K : PySem.W.Frag} {H0 F H : Hp} {x : V} {d : D} (h : Res K .pk H0 F H x d) : decide (x = .non) = isNoneD d := by
  rcases h with h | ⟨a, rfl, _, o⟩
  · cases h <;> simp [isNoneD]
  · cases d with
    | list ds => simp [isNoneD]
    | _ => exact o.elim
theorem ops_isN {K : PySem.W.Frag} : OpS K .fz rIsN isND := by
  intro F H Ha Hb x y d e z Q fh r1 r2 hz q
  cases e with
  | none =>
    cases hz
    refine ⟨r2.non, ?_⟩
    rw [res_none_iff r1]
    exact q _ F H (.refl fh) (Rep.bl _)
  | _ => cases hz
theorem ops_notN {K : PySem.W.Frag} : OpS K .fz rNotN notND := by
  intro F H Ha Hb x y d e z Q fh r1 r2 hz q
  cases e with
  | none =>
    cases hz
    refine ⟨r2.non, ?_⟩
    rw [res_none_iff r1]
    exact q _ F H (.refl fh) (Rep.bl _)
  | _ => cases hz
def isBD (d e : D) : Option D := match d, e with
  | .bool a, .bool b => some (.bool (decide (a = b)))
  | _, _ => none
def notBD (d e : D) : Option D := match d, e with
  | .bool a, .bool b => some (.bool (!decide (a = b)))
  | _, _ => none
theorem ops_isB {K : PySem.W.Frag} : OpS K .fz rIsB isBD := by
  intro F H Ha Hb x y d e z Q fh r1 r2 hz q
  cases d with
  | bool a =>
    cases e with
    | bool b => cases hz; exact ⟨a, b, r1.bl, r2.bl, q _ F H (.refl fh) (Rep.bl _)⟩
    | _ => cases hz
  | _ => cases hz
theorem ops_notB {K : PySem.W.Frag} : OpS K .fz rNotB notBD := by
  intro F H Ha Hb x y d e z Q fh r1 r2 hz q
  cases d with
  | bool a =>
    cases e with
    | bool b => cases hz; exact ⟨a, b, r1.bl, r2.bl, q _ F H (.refl fh) (Rep.bl _)⟩
    | _ => cases hz
  | _ => cases hz
/-! ### in -/
def memD (d : D) (ds : List D) : Bool := ds.any fun z => PyData.eqv z d
def itemsD : D → Option (List D)
  | .list ds => some ds
  | .tuple ds => some ds
  | _ => none
def inD (d e : D) : Option D := (itemsD e).bind fun ds => if SeqAt.shaped d = true ∧ SeqAt.shaped e = true then some (.bool (memD d ds)) else none
def notInD (d e : D) : Option D := (itemsD e).bind fun ds => if SeqAt.shaped d = true ∧ SeqAt.shaped e = true then some (.bool (!memD d ds)) else none
def rIn_ (K : PySem.W.Frag) (k : Bool → Bool) : R2 := fun x y H Q => ∃ d e ds, Dp K H x d ∧ Dp K H y e ∧ itemsD e = some ds ∧ SeqAt.shaped d = true ∧ SeqAt.shaped e = true ∧ Q (.bl (k (memD d ds))) H
section
variable {X : Cx}
theorem room_in {A : Around} {d : D} {ds : List D} (sd : SeqAt.shaped d = true) (hu : A.units + 65 < cLine) : A.units + 1 + min (PyData.depthAll ds) d.depth < cLine := by
  have h1 := SeqAt.depth_of_shaped sd
  have h2 : min (PyData.depthAll ds) d.depth ≤ d.depth := Nat.min_le_right _ _
  omega
theorem op_in_ (hu : X.A.units + 65 < cLine) : OpR X (compareOp .In) (rIn_ X.K id) := by
  intro pins s σ H x y v u Q I rx ry h
  obtain ⟨d, e, ds, hd, he, hi, sd, se, q⟩ := h
  obtain ⟨as, r1⟩ := Dp.reads I d x v hd rx
  obtain ⟨bs, r2⟩ := Dp.reads I e y u he ry
  cases e with
  | list es => cases hi; exact SeqAt.in_list_reads r2 r1 (SeqAt.canLay_of_shaped se) (SeqAt.canLay_of_shaped sd) (room_in sd hu) ⟨.bl _, H, I, rfl, q⟩
  | tuple es => cases hi; exact SeqAt.in_tuple_reads r2 r1 (SeqAt.canLay_of_shaped se) (SeqAt.canLay_of_shaped sd) (room_in sd hu) ⟨.bl _, H, I, rfl, q⟩
  | _ => cases hi
theorem op_in_K (K' : PySem.W.Frag) (hu : X.A.units + 65 < cLine) (hK : X.K = K' := by rfl) : OpR X (compareOp .In) (rIn_ K' id) := by
  subst hK
  exact op_in_ (hu := hu)
theorem op_notIn_ (hu : X.A.units + 65 < cLine) : OpR X (compareOp .NotIn) (rIn_ X.K not) := by
  intro pins s σ H x y v u Q I rx ry h
  obtain ⟨d, e, ds, hd, he, hi, sd, se, q⟩ := h
  obtain ⟨as, r1⟩ := Dp.reads I d x v hd rx
  obtain ⟨bs, r2⟩ := Dp.reads I e y u he ry
  cases e with
  | list es => cases hi; exact SeqAt.notIn_list_reads r2 r1 (SeqAt.canLay_of_shaped se) (SeqAt.canLay_of_shaped sd) (room_in sd hu) ⟨.bl _, H, I, rfl, q⟩
  | tuple es => cases hi; exact SeqAt.notIn_tuple_reads r2 r1 (SeqAt.canLay_of_shaped se) (SeqAt.canLay_of_shaped sd) (room_in sd hu) ⟨.bl _, H, I, rfl, q⟩
  | _ => cases hi
theorem op_notIn_K (K' : PySem.W.Frag) (hu : X.A.units + 65 < cLine) (hK : X.K = K' := by rfl) : OpR X (compareOp .NotIn) (rIn_ K' not) := by
  subst hK
  exact op_notIn_ (hu := hu)
end
theorem ops_in_ {K : PySem.W.Frag} {k : Bool → Bool} : OpS K .fz (rIn_ K k) (fun d e => (itemsD e).bind fun ds => if SeqAt.shaped d = true ∧ SeqAt.shaped e = true then some (.bool (k (memD d ds))) else none) := by
  intro F H Ha Hb x y d e z Q fh r1 r2 hz q
  obtain ⟨ds, h0, hz⟩ := bind_some hz
  obtain ⟨⟨h1, h2⟩, rfl⟩ := if_some hz
  exact ⟨d, e, ds, r1.dp fh, r2.dp fh, h0, h1, h2, q _ F H (.refl fh) (Rep.bl _)⟩
theorem ops_in {K : PySem.W.Frag} : OpS K .fz (rIn_ K id) inD := ops_in_
theorem ops_notIn {K : PySem.W.Frag} : OpS K .fz (rIn_ K not) notInD := ops_in_
/-! ### xs[i] -/
def ixD : D → D → Option D
  | .list ds, .int i => atI ds i
  | .tuple ds, .int i => atI ds i
  | .str z, .int i => if z.length ≤ sizeLine then (atI z.cps.toList i).map fun c => .str ⟨#[c]⟩ else none
  | _, _ => none
theorem repA_atI {K : PySem.W.Frag} {F : Hp} {vs : List V} {ds : List D} {i : Int} {d : D} (r : RepA K F vs ds) (h : atI ds i = some d) : ∃ v, atI vs i = some v ∧ Rep K F v d := by
  unfold atI at h ⊢
  rw [r.length]
  obtain ⟨j, h1, h2⟩ := bind_some h
  rw [h1]
  obtain ⟨v, h3, h4⟩ := r.get h2
  exact ⟨v, h3, h4⟩
theorem ops_ix {K : PySem.W.Frag} : OpS K .fz (rIx K) ixD := by
  intro F H Ha Hb x y d e z Q fh r1 r2 hz q
  cases e with
  | int i =>
    cases d with
    | list ds =>
      obtain ⟨a, xs, rfl, s1, p1⟩ := r1.list fh
      obtain ⟨v, h1, h2⟩ := repA_atI p1 hz
      exact .inl ⟨a, xs, i, v, rfl, r2.int, s1, h1, q _ F H (.refl fh) h2⟩
    | tuple ds =>
      obtain ⟨a, xs, rfl, s1, p1⟩ := r1.tup fh
      obtain ⟨v, h1, h2⟩ := repA_atI p1 hz
      exact .inr (.inl ⟨a, xs, i, v, rfl, r2.int, s1.sq, h1, q _ F H (.refl fh) h2⟩)
    | str s =>
      by_cases hl : s.length ≤ sizeLine
      · have hz' : (if s.length ≤ sizeLine then (atI s.cps.toList i).map fun c => PyData.str ⟨#[c]⟩ else none) = some z := hz
        rw [if_pos hl] at hz'
        obtain ⟨c, h1, h2⟩ := Option.map_eq_some_iff.mp hz'
        subst h2
        exact .inr (.inr ⟨s, i, c, r1.str, r2.int, hl, h1, q _ F H (.refl fh) (Rep.str _)⟩)
      · have hz' : (if s.length ≤ sizeLine then (atI s.cps.toList i).map fun c => PyData.str ⟨#[c]⟩ else none) = some z := hz
        rw [if_neg hl] at hz'
        cases hz'
    | _ => cases hz
  | _ => cases d <;> cases hz
section
variable {X : Cx} {a b c : Expr} {ta tb tc : TE} {pos : Pos} {m m1 m2 m3 : Md} {r r' : R2} {g g' : D → D → Option D} {fa fb fc : Rho → Option D}
theorem de_ix (ha : DE X m1 a ta fa) (hb : DE X m2 b tb fb) (hs : PlainIx b := by exact fun _ _ => rfl) : DE X .fz (.Subscript a b pos) (tOp (rIx X.K) ta tb) (f2 ixD fa fb) :=
  ⟨pe_ix ix_seq ha.p hb.p hs, sem_op ops_ix ha.s hb.s⟩
theorem de_ixK (K' : PySem.W.Frag) (ha : DE X m1 a ta fa) (hb : DE X m2 b tb fb) (hs : PlainIx b := by exact fun _ _ => rfl) (hK : X.K = K' := by rfl) : DE X .fz (.Subscript a b pos) (tOp (rIx K') ta tb) (f2 ixD fa fb) := by
  subst hK
  exact de_ix (ha := ha) (hb := hb) (hs := hs)
/-! ### a op b op' c -/
def f3 (g g' : D → D → Option D) (fa fb fc : Rho → Option D) : Rho → Option D := fun ρ => (fa ρ).bind fun x => (fb ρ).bind fun y => (g x y).bind fun z => match z with
  | .bool true => (fc ρ).bind fun w => g' y w
  | .bool false => some (.bool false)
  | _ => none
theorem sem_chain {K : PySem.W.Frag} (hs : OpS K .fz r g) (hs' : OpS K .fz r' g') (ha : SemE K m1 ta fa) (hb : SemE K m2 tb fb) (hc : SemE K m3 tc fc) : SemE K .fz (tChain r r' ta tb tc) (f3 g g' fa fb fc) := by
  intro B F H σ ρ z Q rel hf q
  obtain ⟨d, h1, h2⟩ := bind_some hf
  obtain ⟨e, h3, h4⟩ := bind_some h2
  obtain ⟨k, h5, h6⟩ := bind_some h4
  refine ha B F H σ ρ d _ rel h1 fun x F1 H1 x1 r1 => ?_
  refine hb B F1 H1 σ ρ e _ (rel.ext x1) h3 fun y F2 H2 x2 r2 => ?_
  refine hs F2 H2 H H1 x y d e k _ x2.s (r1.mono x2).any r2.any h5 fun v F3 H3 x3 r3 => ?_
  have x03 := (x1.trans x2).trans x3
  cases k with
  | bool k =>
    refine ⟨k, Res.bl (m := .fz) (H0 := H) (H := H3) r3, ?_⟩
    cases k with
    | true =>
      obtain ⟨w, h7, h8⟩ := bind_some (show ((fc ρ).bind fun w => g' e w) = some z from h6)
      show tc σ H3 _
      refine hc B F3 H3 σ ρ w _ (rel.ext x03) h7 fun u F4 H4 x4 r4 => ?_
      exact hs' F4 H4 H1 H3 y u e w z _ x4.s ((r2.mono x3).mono x4).any r4.any h8 fun v5 F5 H5 x5 r5 => q v5 F5 H5 ((x03.trans x4).trans x5) r5
    | false =>
      have e1 : z = .bool false := (Option.some.inj (show some (PyData.bool false) = some z from h6)).symm
      subst e1
      show Q (.bl false) H3
      exact q _ F3 H3 x03 (Rep.bl false)
  | _ => exact nomatch (show (none : Option D) = some z from h6)
theorem de_chain {op op' : CmpOp} (ho : OpR X (compareOp op) r) (ho' : OpR X (compareOp op') r') (hs : OpS X.K .fz r g) (hs' : OpS X.K .fz r' g') (ha : DE X m1 a ta fa) (hb : DE X m2 b tb fb) (hc : DE X m3 c tc fc)
    (hm : lastMarks [op, op'] [b, c] = false := by with_unfolding_all rfl) : DE X .fz (.Compare a [op, op'] [b, c] pos) (tChain r r' ta tb tc) (f3 g g' fa fb fc) :=
  ⟨pe_chain ho ho' ha.p hb.p hc.p hm, sem_chain hs hs' ha.s hb.s hc.s⟩
theorem dt_chain {op op' : CmpOp} (ho : OpR X (compareOp op) r) (ho' : OpR X (compareOp op') r') (hs : OpS X.K .fz r g) (hs' : OpS X.K .fz r' g') (ha : DE X m1 a ta fa) (hb : DE X m2 b tb fb) (hc : DE X m3 c tc fc)
    (hm : lastMarks [op, op'] [b, c] = false := by with_unfolding_all rfl) : DT X (.Compare a [op, op'] [b, c] pos) (tTest (tChain r r' ta tb tc)) (fT (f3 g g' fa fb fc)) :=
  ⟨pt_chain ho ho' ha.p hb.p hc.p hm, sem_test (sem_chain hs hs' ha.s hb.s hc.s)⟩
/-! ### truth, and, or, not, if -/
def truD : D → Option Bool
  | .none => some false
  | .bool b => some b
  | .int i => some (i != 0)
  | .str z => if z.length ≤ sizeLine then some ((z.length : Int) != 0) else none
  | .list ds => some (!ds.isEmpty)
  | .tuple ds => some (!ds.isEmpty)
  | .dict _ => none
theorem isEmpty_len {α β : Type} {xs : List α} {ys : List β} (h : xs.length = ys.length) : xs.isEmpty = ys.isEmpty := by
  cases xs <;> cases ys <;> first | rfl | (simp at h)
theorem truV_of {K : PySem.W.Frag} {H0 F H : Hp} {x : V} {d : D} {b : Bool} (r : Res K m H0 F H x d) (fh : Same F H) (h : truD d = some b) : TruV K x H b := by
  cases d with
  | none => rw [r.non]; cases h; rfl
  | bool k => rw [r.bl]; cases h; rfl
  | int i => rw [r.int]; cases h; rfl
  | str z =>
    rw [r.str]
    obtain ⟨h1, h2⟩ := if_some h
    exact ⟨h1, h2.symm⟩
  | list ds =>
    obtain ⟨a, xs, rfl, s1, p1⟩ := r.list fh
    cases h
    exact .inl ⟨xs, s1, by rw [isEmpty_len p1.length]⟩
  | tuple ds =>
    obtain ⟨a, xs, rfl, s1, p1⟩ := r.tup fh
    cases h
    exact .inr (.inl ⟨xs, s1.sq, by rw [isEmpty_len p1.length]⟩)
  | dict _ => cases h
def fTr (f : Rho → Option D) : Rho → Option Bool := fun ρ => (f ρ).bind truD
theorem dt_tru (ha : DE X m a ta fa) (he : ∀ whole, isTrue a X.env whole = (do let v ← whole; standAt a.pos; holding [v] (truthy v)) := by intro _; rfl) : DT X a (fun σ H Q => ta σ H fun x H' => ∃ k, TruV X.K x H' k ∧ Q k H') (fTr fa) :=
  ⟨pt_truth ha.p he, fun B F H σ ρ b Q rel hf q => by
    obtain ⟨d, h1, h2⟩ := bind_some hf
    exact ha.s B F H σ ρ d _ rel h1 fun x F1 H1 x1 r1 => ⟨b, truV_of r1 x1.s h2, q F1 H1 x1⟩⟩
theorem dt_truK (K' : PySem.W.Frag) (ha : DE X m a ta fa) (he : ∀ whole, isTrue a X.env whole = (do let v ← whole; standAt a.pos; holding [v] (truthy v)) := by intro _; rfl) (hK : X.K = K' := by rfl) : DT X a (fun σ H Q => ta σ H fun x H' => ∃ k, TruV K' x H' k ∧ Q k H') (fTr fa) := by
  subst hK
  exact dt_tru (ha := ha) (he := he)
def fNotT (f : Rho → Option Bool) : Rho → Option Bool := fun ρ => (f ρ).map not
def fAndT (f g : Rho → Option Bool) : Rho → Option Bool := fun ρ => (f ρ).bind fun b => if b = true then g ρ else some false
def fOrT (f g : Rho → Option Bool) : Rho → Option Bool := fun ρ => (f ρ).bind fun b => if b = true then some true else g ρ
variable {tt tu : TT} {ft fu : Rho → Option Bool} {rest : List Expr}
theorem dt_not (ha : DT X a tt ft) : DT X (.UnaryOp .Not a pos) (tNot tt) (fNotT ft) := ⟨pt_not ha.p, fun B F H σ ρ b Q rel hf q => by
  obtain ⟨c, h1, rfl⟩ := Option.map_eq_some_iff.mp hf
  exact ha.s B F H σ ρ c _ rel h1 fun F1 H1 x1 => q F1 H1 x1⟩
/-- a row of and, of or -/
structure DW (X : Cx) (e : Expr) (t : TT) (f : Rho → Option Bool) : Prop where
  p : PW X e t
  s : SemT X.K t f
theorem dw_and1 (ha : DT X a tt ft) : DW X (.BoolOp .And [a] pos) tt ft := ⟨pw_and1 ha.p, ha.s⟩
theorem dw_or1 (ha : DT X a tt ft) : DW X (.BoolOp .Or [a] pos) tt ft := ⟨pw_or1 ha.p, ha.s⟩
theorem sem_and {K : PySem.W.Frag} (ha : SemT K tt ft) (hb : SemT K tu fu) : SemT K (tAnd tt tu) (fAndT ft fu) := by
  intro B F H σ ρ b Q rel hf q
  obtain ⟨c, h1, h2⟩ := bind_some hf
  refine ha B F H σ ρ c _ rel h1 fun F1 H1 x1 => ?_
  cases c with
  | true => exact hb B F1 H1 σ ρ b _ (rel.ext x1) h2 fun F2 H2 x2 => q F2 H2 (x1.trans x2)
  | false =>
    cases (show some false = some b from h2)
    exact q F1 H1 x1
theorem sem_or {K : PySem.W.Frag} (ha : SemT K tt ft) (hb : SemT K tu fu) : SemT K (tOr tt tu) (fOrT ft fu) := by
  intro B F H σ ρ b Q rel hf q
  obtain ⟨c, h1, h2⟩ := bind_some hf
  refine ha B F H σ ρ c _ rel h1 fun F1 H1 x1 => ?_
  cases c with
  | false => exact hb B F1 H1 σ ρ b _ (rel.ext x1) h2 fun F2 H2 x2 => q F2 H2 (x1.trans x2)
  | true =>
    cases (show some true = some b from h2)
    exact q F1 H1 x1
theorem dw_and (ha : DT X a tt ft) (hb : DW X (.BoolOp .And (b :: rest) pos) tu fu) : DW X (.BoolOp .And (a :: b :: rest) pos) (tAnd tt tu) (fAndT ft fu) := ⟨pw_and ha.p hb.p, sem_and ha.s hb.s⟩
theorem dw_or (ha : DT X a tt ft) (hb : DW X (.BoolOp .Or (b :: rest) pos) tu fu) : DW X (.BoolOp .Or (a :: b :: rest) pos) (tOr tt tu) (fOrT ft fu) := ⟨pw_or ha.p hb.p, sem_or ha.s hb.s⟩
theorem dt_w {e : Expr} (h : DW X e tt ft) : DT X e tt ft := ⟨h.p.pt, h.s⟩
/-- .. as values -/
def fNot (f : Rho → Option D) : Rho → Option D := fun ρ => ((f ρ).bind truD).map fun b => .bool (!b)
def fAnd (f g : Rho → Option D) : Rho → Option D := fun ρ => (f ρ).bind fun d => (truD d).bind fun b => if b = true then g ρ else some d
def fOr (f g : Rho → Option D) : Rho → Option D := fun ρ => (f ρ).bind fun d => (truD d).bind fun b => if b = true then some d else g ρ
theorem de_not (ha : DE X m a ta fa) : DE X .fz (.UnaryOp .Not a pos) (tNotT X.K ta) (fNot fa) := ⟨pe_notT ha.p, fun B F H σ ρ d Q rel hf q => by
  obtain ⟨c, h1, rfl⟩ := Option.map_eq_some_iff.mp hf
  obtain ⟨d, h2, h3⟩ := bind_some h1
  exact ha.s B F H σ ρ d _ rel h2 fun x F1 H1 x1 r1 => ⟨c, truV_of r1 x1.s h3, q _ F1 H1 x1 (Rep.bl _)⟩⟩
theorem de_notK (K' : PySem.W.Frag) (ha : DE X m a ta fa) (hK : X.K = K' := by rfl) : DE X .fz (.UnaryOp .Not a pos) (tNotT K' ta) (fNot fa) := by
  subst hK
  exact de_not (ha := ha)
theorem de_one {op} (h : DE X m a ta fa) : DE X m (.BoolOp op [a] pos) ta fa := ⟨pe_one h.p, h.s⟩
theorem de_and (ha : DE X .fz a ta fa) (hb : DE X .fz (.BoolOp .And (b :: rest) pos) tb fb) : DE X .fz (.BoolOp .And (a :: b :: rest) pos) (tAndT X.K ta tb) (fAnd fa fb) := ⟨pe_andT ha.p hb.p, fun B F H σ ρ d Q rel hf q => by
  obtain ⟨d1, h1, h2⟩ := bind_some hf
  obtain ⟨c, h3, h4⟩ := bind_some h2
  refine ha.s B F H σ ρ d1 _ rel h1 fun x F1 H1 x1 r1 => ⟨c, truV_of (m := .fz) (H0 := H) r1 x1.s h3, ?_⟩
  cases c with
  | true => exact hb.s B F1 H1 σ ρ d _ (rel.ext x1) h4 fun v F2 H2 x2 r2 => q v F2 H2 (x1.trans x2) r2
  | false =>
    cases (show some d1 = some d from h4)
    exact q x F1 H1 x1 r1⟩
theorem de_andK (K' : PySem.W.Frag) (ha : DE X .fz a ta fa) (hb : DE X .fz (.BoolOp .And (b :: rest) pos) tb fb) (hK : X.K = K' := by rfl) : DE X .fz (.BoolOp .And (a :: b :: rest) pos) (tAndT K' ta tb) (fAnd fa fb) := by
  subst hK
  exact de_and (ha := ha) (hb := hb)
theorem de_or (ha : DE X .fz a ta fa) (hb : DE X .fz (.BoolOp .Or (b :: rest) pos) tb fb) : DE X .fz (.BoolOp .Or (a :: b :: rest) pos) (tOrT X.K ta tb) (fOr fa fb) := ⟨pe_orT ha.p hb.p, fun B F H σ ρ d Q rel hf q => by
  obtain ⟨d1, h1, h2⟩ := bind_some hf
  obtain ⟨c, h3, h4⟩ := bind_some h2
  refine ha.s B F H σ ρ d1 _ rel h1 fun x F1 H1 x1 r1 => ⟨c, truV_of (m := .fz) (H0 := H) r1 x1.s h3, ?_⟩
  cases c with
  | false => exact hb.s B F1 H1 σ ρ d _ (rel.ext x1) h4 fun v F2 H2 x2 r2 => q v F2 H2 (x1.trans x2) r2
  | true =>
    cases (show some d1 = some d from h4)
    exact q x F1 H1 x1 r1⟩
theorem de_orK (K' : PySem.W.Frag) (ha : DE X .fz a ta fa) (hb : DE X .fz (.BoolOp .Or (b :: rest) pos) tb fb) (hK : X.K = K' := by rfl) : DE X .fz (.BoolOp .Or (a :: b :: rest) pos) (tOrT K' ta tb) (fOr fa fb) := by
  subst hK
  exact de_or (ha := ha) (hb := hb)
def fIf (c : Rho → Option Bool) (f g : Rho → Option D) : Rho → Option D := fun ρ => (c ρ).bind fun b => if b = true then f ρ else g ρ
theorem de_if (hc : DT X c tt ft) (ha : DE X m a ta fa) (hb : DE X m b tb fb) : DE X m (.IfExp c a b pos) (tIf tt ta tb) (fIf ft fa fb) := ⟨pe_ifExp hc.p ha.p hb.p, fun B F H σ ρ d Q rel hf q => by
  obtain ⟨k, h1, h2⟩ := bind_some hf
  refine hc.s B F H σ ρ k _ rel h1 fun F1 H1 x1 => ?_
  cases k with
  | true => exact ha.s B F1 H1 σ ρ d _ (rel.ext x1) h2 fun v F2 H2 x2 r2 => q v F2 H2 (x1.trans x2) (r2.back (F1 := F1) x1.h)
  | false => exact hb.s B F1 H1 σ ρ d _ (rel.ext x1) h2 fun v F2 H2 x2 r2 => q v F2 H2 (x1.trans x2) (r2.back (F1 := F1) x1.h)⟩
/-! ### -a -/
def negD : D → Option D
  | .int i => some (.int (-i))
  | _ => none
theorem de_neg (ha : DE X m a ta fa) : DE X .fz (.UnaryOp .USub a pos) (tUn (rU fun i => .int (-i)) ta) (f1 negD fa) := ⟨pe_un un_neg ha.p, fun B F H σ ρ d Q rel hf q => by
  obtain ⟨d1, h1, h2⟩ := bind_some hf
  refine ha.s B F H σ ρ d1 _ rel h1 fun x F1 H1 x1 r1 => ?_
  cases d1 with
  | int i => cases h2; exact ⟨i, r1.int, q _ F1 H1 x1 (Rep.int _)⟩
  | _ => cases h2⟩
/-! ### rows of arguments, displays -/
variable {e : Expr} {es : List Expr} {te : TE} {t : TA} {f : Rho → Option D} {fs : Rho → Option (List D)}
def aNil : Rho → Option (List D) := fun _ => some []
def aCons (f : Rho → Option D) (fs : Rho → Option (List D)) : Rho → Option (List D) := fun ρ => (f ρ).bind fun d => (fs ρ).bind fun ds => some (d :: ds)
theorem ResA.back {K : PySem.W.Frag} {H0 H1 F H : Hp} (s : Same H0 H1) : ∀ {vs : List V} {ds : List D}, ResA K m H1 F H vs ds → ResA K m H0 F H vs ds
  | _, _, .nil => .nil
  | _, _, .cons h r => .cons (h.back (F1 := F) s) (ResA.back s r)
theorem da_nil : DA X m [] tNil aNil := ⟨pa_nil, fun B F H σ ρ ds Q rel hf q => by cases hf; exact q [] F H (.refl rel.fh) .nil, fun ρ ds h => by cases h; rfl⟩
theorem da_cons (ha : DE X m e te f) (hr : DA X m es t fs) (hs : starEach (e :: es) X.env = (false, eval e X.env) :: starEach es X.env := by rfl) : DA X m (e :: es) (tCons te t) (aCons f fs) :=
  ⟨pa_cons ha.p hr.p hs, fun B F H σ ρ ds Q rel hf q => by
    obtain ⟨d, h1, h2⟩ := bind_some hf
    obtain ⟨ds', h3, h4⟩ := bind_some h2
    cases h4
    refine ha.s B F H σ ρ d _ rel h1 fun x F1 H1 x1 r1 => ?_
    exact hr.s B F1 H1 σ ρ ds' _ (rel.ext x1) h3 fun xs F2 H2 x2 r2 => q _ F2 H2 (x1.trans x2) (.cons (r1.mono x2) (r2.back x1.h)), fun ρ ds h => by
    obtain ⟨d, h1, h2⟩ := bind_some h
    obtain ⟨ds', h3, h4⟩ := bind_some h2
    cases h4
    exact congrArg Nat.succ (hr.n ρ ds' h3)⟩
def tTupF (t : TA) : TE := fun σ H Q => t σ H fun xs H1 => xs.length ≤ sizeLine ∧ NewT xs H1 Q
theorem pe_tupF {x1} (h : PA X es t) : PE X (.Tuple es x1 pos) (tTupF t) := by
  refine ⟨fun pins s σ H Q I hq => ?_⟩
  refine wpAny_Tuple_spliced (thn (h.run pos pins s σ H _ I hq) fun us s1 ⟨xs, H1, I1, r, z, q⟩ => ⟨by rw [← r.length]; exact z, ?_⟩)
  exact ⟨.ref s1.heap.objs.size, _, I1.laidT (t' := s1.toks) r z, rfl, q _ _ (I1.hok.fresh (Nat.le_refl _)) rfl rfl⟩
def fTup (fs : Rho → Option (List D)) : Rho → Option D := fun ρ => (fs ρ).map .tuple
def fLst (fs : Rho → Option (List D)) : Rho → Option D := fun ρ => (fs ρ).map .list
theorem small_es {n : Nat} (h : n ≤ 1000) : n ≤ sizeLine := Nat.le_of_lt (small1000 h)
theorem de_tup {k : Nat} (h : DA X .fz es t fs) (hn : es.length ≤ 1000 := by decide) : DE X .fz (.Tuple es k pos) (tTupF t) (fTup fs) := ⟨pe_tupF h.p, fun B F H σ ρ d Q rel hf q => by
  obtain ⟨ds, h1, rfl⟩ := Option.map_eq_some_iff.mp hf
  refine h.s B F H σ ρ ds _ rel h1 fun xs F1 H1 x1 r1 => ⟨small_es (by rw [r1.length, h.n ρ ds h1]; exact hn), newT_rep x1 r1.rep q⟩⟩
theorem de_lst (h : DA X .fz es t fs) (hn : es.length ≤ 1000 := by decide) : DE X .fr (.List es pos) (tLst t) (fLst fs) := ⟨pe_lst h.p, fun B F H σ ρ d Q rel hf q => by
  obtain ⟨ds, h1, rfl⟩ := Option.map_eq_some_iff.mp hf
  refine h.s B F H σ ρ ds _ rel h1 fun xs F1 H1 x1 r1 => ⟨small_es (by rw [r1.length, h.n ρ ds h1]; exact hn), newL_res x1 r1.rep q⟩⟩
/-! ### built-ins called with values -/
def CallS (K : PySem.W.Frag) (m : Md) (r : List V → Hp → VK → Prop) (g : List D → Option D) : Prop :=
  ∀ (F H Ha : Hp) (xs : List V) (ds : List D) (z : D) (Q : VK), Same F H → ResA K .pk Ha F H xs ds → g ds = some z → (∀ v F' H', Ext F H F' H' → Res K m H F' H' v z → Q v H') → r xs H Q
theorem ResA.any {K : PySem.W.Frag} {H0 F H : Hp} : ∀ {vs : List V} {ds : List D}, ResA K m H0 F H vs ds → ResA K .pk H0 F H vs ds
  | _, _, .nil => .nil
  | _, _, .cons h r => .cons h.any (ResA.any r)
def fB (g : List D → Option D) (fs : Rho → Option (List D)) : Rho → Option D := fun ρ => (fs ρ).bind g
variable {x : Str} {p : Pos} {rc : List V → Hp → VK → Prop} {gc : List D → Option D} {id T : String}
theorem sem_cb {K : PySem.W.Frag} (hs : CallS K m rc gc) (ha : SemA K m1 t fs) : SemE K m (tCB rc t) (fB gc fs) := by
  intro B F H σ ρ z Q rel hf q
  obtain ⟨ds, h1, h2⟩ := bind_some hf
  refine ha B F H σ ρ ds _ rel h1 fun xs F1 H1 x1 r1 => ?_
  exact hs F1 H1 H xs ds z Q x1.s r1.any h2 fun v F' H' x2 r2 => q v F' H' (x1.trans x2) (r2.back (F1 := F1) x1.h)
theorem de_cb (hc : CallR X (.builtin id) rc) (hs : CallS X.K m rc gc) (hg : Gl X x) (hm : X.mg x = none) (hv : bootBuiltins x = some (.builtin id)) (ha : DA X m1 (e :: es) t fs) (hn : x ≠ "__name__" := by decide) (hdb : (x == ("__debug__" : Str)) = false := by decide)
    (he : starEach (e :: es) X.env = (false, eval e X.env) :: starEach es X.env := by rfl) (hpl : (backTo pos (starEach es X.env)).any (·.1) = false := by rfl) : DE X m (.Call (.Name x p) (e :: es) [] pos) (tCB rc t) (fB gc fs) :=
  ⟨pe_callB hc hg hm hv ha.p hn hdb he hpl, sem_cb hs ha.s⟩
theorem de_ct (hc : CallR X (.type T) rc) (hs : CallS X.K m rc gc) (hg : Gl X x) (hm : X.mg x = none) (hv : bootBuiltins x = some (.type T)) (ha : DA X m1 (e :: es) t fs) (hn : x ≠ "__name__" := by decide) (hdb : (x == ("__debug__" : Str)) = false := by decide)
    (he : starEach (e :: es) X.env = (false, eval e X.env) :: starEach es X.env := by rfl) (hpl : (backTo pos (starEach es X.env)).any (·.1) = false := by rfl) : DE X m (.Call (.Name x p) (e :: es) [] pos) (tCB rc t) (fB gc fs) :=
  ⟨pe_callTy hc hg hm hv ha.p hn hdb he hpl, sem_cb hs ha.s⟩
end
theorem resA1 {K : PySem.W.Frag} {m : Md} {H0 F H : Hp} {vs : List V} {d : D} (h : ResA K m H0 F H vs [d]) : ∃ v, vs = [v] ∧ Res K m H0 F H v d := by
  cases h with
  | cons h1 r => cases r; exact ⟨_, rfl, h1⟩
theorem resA2 {K : PySem.W.Frag} {m : Md} {H0 F H : Hp} {vs : List V} {d e : D} (h : ResA K m H0 F H vs [d, e]) : ∃ v w, vs = [v, w] ∧ Res K m H0 F H v d ∧ Res K m H0 F H w e := by
  cases h with
  | cons h1 r => cases r with
    | cons h2 r => cases r; exact ⟨_, _, rfl, h1, h2⟩
end Q
end

/-! part: Q4 -/
section
set_option Elab.async false
set_option linter.all false
set_option maxRecDepth 100000
set_option maxHeartbeats 4000000
set_option autoImplicit false
namespace Q
open PySem PySem.Spec PySem.Calls PyProof.Rows L2
/-! ### collect, sorted over a list or a tuple -/
section
variable {prog : Program} {w : World} {A : Around} {E : Value → Shared → Prop} {s : Shared}
theorem collect_sq {T : String} {it : Addr} {o : Obj} {vs : List Value} {n : Nat} {Q : List Value → Shared → Prop} (hT : T = "list" ∨ T = "tuple") (ho : s.heap.get? it = some o) (hc : o.cls = .type T) (hd : o.data = .seq vs.toArray n)
    (hQ : Q vs { s with heap := (s.heap.push (seqObj "list" #[] 0)).update s.heap.objs.size (Obj.mapSeq (· ++ vs.toArray)) }) (hsz : vs.length ≤ sizeLine) :
    wpAny (model prog w) A (collect (.ref it)) Q E s := by
  unfold collect
  refine wpAny_bind (wpAny_runValue (codeAny_builtin PySem.F.entry_proto_collect ?_))
  rw [Around.under_plainId PySem.F.plain_proto_collect _]
  show wpAny _ A.in1 (newList [] >>= fun l => again (.builtin "list.__iadd__" ⟨[l, .ref it], []⟩)) _ _ s
  refine wpAny_bind (wpAny_newObj_type ?_)
  refine wpAny_pure ⟨plainId_quiet PySem.F.plain_list_iadd _, codeAny_builtin PySem.F.entry_list_iadd ?_⟩
  rw [Around.under_plainId PySem.F.plain_list_iadd _]
  show wpAny _ A.in1 (Builtin.List.listExtendWith (.ref s.heap.objs.size) (.ref it) (.ref s.heap.objs.size)) _ _ _
  have hS : (s.heap.push { cls := .type "list", data := .seq ([] : List Value).toArray }).get? s.heap.objs.size = some { cls := .type "list", data := .seq #[] 0 } := Heap.get?_push_size _ rfl
  have hS₂ := Heap.get?_update_self (Obj.mapSeq (· ++ vs.toArray)) hS rfl
  have fin' : wpAny (model prog w) A (match Value.ref s.heap.objs.size with
      | Value.ref a => do
        match (← load a).data with
          | Data.seq xs _ => pure xs.toList
          | _ => unsupported "internal:collect"
      | _ => unsupported "internal:collect") Q E { s with heap := (s.heap.push { cls := .type "list", data := .seq ([] : List Value).toArray }).update s.heap.objs.size (Obj.mapSeq (· ++ vs.toArray)) } := by
    show wpAny _ A (load s.heap.objs.size >>= _) _ _ _
    refine wpAny_bind (wpAny_load hS₂ ?_)
    refine wpAny_pure ?_
    have e : ((#[] : Array Value) ++ vs.toArray).toList = vs := by simp
    show Q ((#[] : Array Value) ++ vs.toArray).toList _
    rw [e]
    exact hQ
  refine wpAny_mono (wpAny_extend_seq (hsz := by rw [List.size_toArray]; exact hsz) (A := A) (R := fun r s' => r = .ok (.ret (.ref s.heap.objs.size)) ∧ s' = { s with heap := (s.heap.push { cls := .type "list", data := .seq ([] : List Value).toArray }).update s.heap.objs.size (Obj.mapSeq (· ++ vs.toArray)) })
    (s := { s with heap := s.heap.push { cls := .type "list", data := .seq ([] : List Value).toArray } }) _ it _ 0 hT hS (Heap.get?_push_of_some _ ho) hc hd ⟨rfl, rfl⟩) (fun fin s' h => ?_) (fun e s' h => ?_)
  · cases fin with
    | done f =>
      obtain ⟨e, rfl⟩ := h
      cases e
      exact fin'
    | again c' => exact ⟨h.1, codeAny_mono h.2 fun r s'' hr => by obtain ⟨rfl, rfl⟩ := hr; exact fin'⟩
  · exact absurd h.1 (by simp)
theorem sorted_sq {T : String} {l : Addr} {o : Obj} {vs : List Value} {n : Nat} {kw : List (Str × Value)} {Q : Value → Shared → Prop} (hT : T = "list" ∨ T = "tuple") (ho : s.heap.get? l = some o) (hc : o.cls = .type T) (hd : o.data = .seq vs.toArray n) (hL : vs.length ≤ sizeLine) (ha1 : argsOk "sorted" ⟨[.ref l], kw⟩) (ha2 : ∀ x, argsOk "list.sort" ⟨[.ref x], kw⟩)
    (body : ∀ E' : Value → Shared → Prop, wpAny (model prog w) A.in1.in1 (Builtin.«list.sort» ⟨[.ref (s.heap.objs.size + 1)], kw⟩) (fun f s' => f = .done (.ret .none) ∧ Q (.ref (s.heap.objs.size + 1)) s') E' { s with heap := PySem.W.copyHeap s.heap vs }) :
    wpAny (model prog w) A (call (.builtin "sorted") [.ref l] kw) Q E s := by
  refine call_function_entry_kw kind_sorted plain_sorted entry_sorted ha1 ?_
  unfold Builtin.«sorted»
  refine wpAny_bind (m := checkCount "sorted" 1 1 _) (wpAny_pure ?_)
  refine wpAny_bind (collect_sq hT ho hc hd ?_ hL)
  refine wpAny_bind (wpAny_newList ?_ hL)
  have hsz : ((s.heap.push (seqObj "list" #[] 0)).update s.heap.objs.size (Obj.mapSeq (· ++ vs.toArray))).objs.size = s.heap.objs.size + 1 := by
    rw [Heap.size_update, size_push']
  show wpAny _ _ _ _ _ { s with heap := PySem.W.copyHeap s.heap vs }
  rw [hsz]
  refine wpAny_bind (wpAny_holding (wpAny_call_entry_kw slot_list_sort ⟨_, PySem.W.copyHeap_at s.heap vs, rfl⟩ entry_list_sort ?body (ha2 _)))
  case body =>
    show wpAny (model prog w) A.in1.in1 (Builtin.«list.sort» ⟨[.ref (s.heap.objs.size + 1)], kw⟩) _ _ _
    refine wpAny_mono (body _) (fun f s' hf => ?_) fun _ _ e => e
    obtain ⟨rfl, hq⟩ := hf
    exact ⟨_, rfl, wpAny_pure ⟨_, rfl, hq⟩⟩
theorem sorted_sq_data {β : Type} {vs : List Value} {bs : List β} {enc : β → PyData} {R : Value → β → Prop} {T : String} {l : Addr} {o : Obj} {n : Nat} {Q : Value → Shared → Prop} (hT : T = "list" ∨ T = "tuple") (ho : s.heap.get? l = some o) (hc : o.cls = .type T) (hd : o.data = .seq vs.toArray n)
    (e : PySem.W.EachIs R vs bs) (er : PySem.W.EachIs (fun v b => ∃ as, Reads s.heap v (enc b) as) vs bs) (hal : PySem.W.AllAlike (bs.map enc)) (hk : PySem.W.Sortable (bs.map enc)) (hL : bs.length ≤ sizeLine)
    (hu : ∀ b, b ∈ bs → A.units + 2 + (enc b).depth < cLine) (h : ∀ out, out.length = bs.length → PySem.W.EachIs R out (bs.mergeSort (PySem.W.dataLe false enc)) → Q (.ref (s.heap.objs.size + 1)) { s with heap := sortedAll s.heap vs (List.toArray out) }) :
    wpAny (model prog w) A (call (.builtin "sorted") [.ref l]) Q E s := by
  have er' : PySem.W.EachIs (fun v b => ∃ as, Reads (PySem.W.sortingHeap (PySem.W.copyHeap s.heap vs) (s.heap.objs.size + 1) vs) v (enc b) as) vs bs := er.mono fun _ _ ⟨as, r⟩ => ⟨as, PyProof.Rows.Reads.keeps (fun _ _ => PySem.W.sorting_copy_old) r⟩
  exact sorted_sq hT ho hc hd (by rw [e.length]; exact hL) (args_sorted1 _) (fun _ => args_list_sort _) fun _ => PySem.W.list_sort_vals (s := { s with heap := PySem.W.copyHeap s.heap vs }) (PySem.W.copyHeap_at s.heap vs)
    (PySem.W.SortsAt.data (s := { s with heap := PySem.W.sortingHeap (PySem.W.copyHeap s.heap vs) (s.heap.objs.size + 1) vs }) (PySem.W.each_map (R := fun v d => ∃ as, Reads (PySem.W.sortingHeap (PySem.W.copyHeap s.heap vs) (s.heap.objs.size + 1) vs) v d as) enc er') hal hk (PySem.W.bound_map hu)) (by rw [e.length]; exact hL)
    ⟨rfl, h _ (by rw [PySem.W.sortVals_length false rfl]; exact e.length) (PySem.W.sortVals_data false e er' hal)⟩
end
/-! ### a list or a tuple read -/
def SqA (K : PySem.W.Frag) (H : Hp) (p : Addr) (xs : List V) : Prop := SqL K H p xs ∨ SqT K H p xs
theorem Res.items {K : PySem.W.Frag} {m : Md} {H0 F H : Hp} {v : V} {d : D} {ds : List D} (h : Res K m H0 F H v d) (fh : Same F H) (e : itemsD d = some ds) : ∃ a xs, v = .ref a ∧ SqA K H a xs ∧ RepA K F xs ds := by
  cases d with
  | list es => cases e; obtain ⟨a, xs, e1, s1, r⟩ := h.list fh; exact ⟨a, xs, e1, .inl s1, r⟩
  | tuple es => cases e; obtain ⟨a, xs, e1, s1, r⟩ := h.tup fh; exact ⟨a, xs, e1, .inr s1.sq, r⟩
  | _ => cases e
section
variable {X : Cx} {pins : List (Addr × Obj)} {σ : L2.St} {H : Hp} {s : Shared}
theorem _root_.L2.Inv.seq (I : Inv X pins σ H s) {p : Addr} {xs : List V} (h : SqA X.K H p xs) : ∃ (T : String) (o : Obj) (its : List Value) (n : Nat), (T = "list" ∨ T = "tuple") ∧ s.heap.get? p = some o ∧ o.cls = .type T ∧ o.data = .seq its.toArray n ∧ Vals xs its ∧ xs.length ≤ sizeLine := by
  rcases h with h | h
  · obtain ⟨its, r, ⟨o, n, e, c, _, d⟩, z⟩ := I.list h
    exact ⟨"list", o, its, n, .inl rfl, e, c, d, r, z⟩
  · obtain ⟨its, r, ⟨o, e, c, n, d⟩, z⟩ := I.tuple h
    exact ⟨"tuple", o, its, n, .inr rfl, e, c, d, r, z⟩
end
theorem each_of_vals {K : PySem.W.Frag} {F : Hp} {R : Value → D → Prop} : ∀ {xs : List V} {its : List Value} {ds : List D}, Vals xs its → RepA K F xs ds → (∀ v u d, RelV v u → Rep K F v d → R u d) → PySem.W.EachIs R its ds
  | _, _, _, .nil, .nil, _ => .nil
  | _, _, _, .cons r t, .cons q u, f => .cons (f _ _ _ r q) (each_of_vals t u f)
theorem vals_of_each {K : PySem.W.Frag} {F : Hp} : ∀ {its : List Value} {ds : List D}, PySem.W.EachIs (fun u d => ∃ v, RelV v u ∧ Rep K F v d) its ds → ∃ xs, Vals xs its ∧ RepA K F xs ds
  | _, _, .nil => ⟨[], .nil, .nil⟩
  | _, _, .cons ⟨v, r, q⟩ t => by
    obtain ⟨xs, h1, h2⟩ := vals_of_each t
    exact ⟨v :: xs, .cons r h1, .cons q h2⟩
/-! ### sorted -/
/-- may they be sorted -/
def srtOk (ds : List D) : Bool := (ds.all fun d => ds.all fun e => PySem.W.alike d e) && ((ds.all fun d => match d with
  | .tuple (_ :: _) => true
  | _ => false) || ds.all fun d => match d with
  | .none => false
  | .tuple _ => false
  | _ => true) && ds.all fun d => decide (d.depth ≤ 64)
theorem srtOk_of {ds : List D} (h : srtOk ds = true) : PySem.W.AllAlike ds ∧ PySem.W.Sortable ds ∧ ∀ d ∈ ds, d.depth ≤ 64 := by
  unfold srtOk at h
  simp only [Bool.and_eq_true, Bool.or_eq_true, List.all_eq_true, decide_eq_true_eq] at h
  obtain ⟨⟨h1, h2⟩, h3⟩ := h
  refine ⟨h1, ?_, h3⟩
  rcases h2 with h2 | h2
  · refine .inl fun d hd => ?_
    have := h2 d hd
    cases d with
    | tuple xs =>
      cases xs with
      | nil => cases this
      | cons a b => exact ⟨a, b, rfl⟩
    | _ => cases this
  · refine .inr fun d hd => ?_
    have := h2 d hd
    refine ⟨fun z => ?_, fun xs z => ?_⟩
    · subst z; cases this
    · subst z; cases this
def srt (ds : List D) : List D := ds.mergeSort (PySem.W.dataLe false id)
def sortedD : List D → Option D
  | [d] => (itemsD d).bind fun ds => if srtOk ds = true then some (.list (srt ds)) else none
  | _ => none
/-- the state hidden in a sort: the items as values, as data -/
def rSrt (K : PySem.W.Frag) : List V → Hp → VK → Prop := fun vs H Q => ∃ a xs F ds, vs = [.ref a] ∧ Same F H ∧ SqA K H a xs ∧ RepA K F xs ds ∧ srtOk ds = true ∧ ∀ ys, RepA K F ys (srt ds) → NewL ys H Q
section
variable {X : Cx}
theorem cr_srt (hu : X.A.units + 70 < cLine) : CallR X (.builtin "sorted") (rSrt X.K) := by
  intro pins s σ H vs us Q I r h
  obtain ⟨a, xs, F, ds, rfl, fh, sq, rp, ok, q⟩ := h
  obtain ⟨u, rfl, ru⟩ := vals1 r
  cases ru
  obtain ⟨T, o, its, n, hT, e, c, d, rv, hz⟩ := I.seq sq
  obtain ⟨h1, h2, h3⟩ := srtOk_of ok
  have em : (ds.map id) = ds := List.map_id _
  refine sorted_sq_data (enc := id) (R := fun u d => ∃ v, RelV v u ∧ Rep X.K F v d) hT e c d (each_of_vals rv rp fun v u d r q => ⟨v, r, q⟩)
    (each_of_vals rv rp fun v u d r q => Dp.reads I d v u (q.mono fh).dp r) (by rw [em]; exact h1) (by rw [em]; exact h2) (by rw [← rp.length]; exact hz) (fun b hb => by have := h3 b hb; show X.A.units + 2 + b.depth < cLine; omega) fun out ho hE => ?_
  obtain ⟨ys, v1, r1⟩ := vals_of_each hE
  obtain ⟨c', hc'⟩ := sortedAll_at s.heap its out.toArray
  have hlen : ys.length ≤ sizeLine := by rw [v1.length, ho, ← rp.length]; exact hz
  refine ⟨.ref (s.heap.objs.size + 1), _, I.laid (t' := s.toks) (o := .lst ys) (fun b u q => sortedAll_old q) (Nat.le_succ _) ⟨hlen, out, c', v1, hc'⟩, rfl, q ys r1 _ (I.hok.fresh (Nat.le_succ _))⟩
theorem cr_srtK (K' : PySem.W.Frag) (hu : X.A.units + 70 < cLine) (hK : X.K = K' := by rfl) : CallR X (.builtin "sorted") (rSrt K') := by
  subst hK
  exact cr_srt (hu := hu)
end
theorem cs_srt {K : PySem.W.Frag} : CallS K .fr (rSrt K) sortedD := by
  intro F H Ha vs ds z Q fh r hz q
  match ds, r, hz with
  | [d], r, hz =>
    obtain ⟨es, h1, h2⟩ := bind_some (show (itemsD d).bind (fun ds => if srtOk ds = true then some (PyData.list (srt ds)) else none) = some z from hz)
    obtain ⟨ok, rfl⟩ := if_some h2
    obtain ⟨v, rfl, r1⟩ := resA1 r
    obtain ⟨a, xs, rfl, s1, p1⟩ := r1.items fh h1
    exact ⟨a, xs, F, es, rfl, fh, s1, p1, ok, fun ys ry => newL_res (.refl fh) ry q⟩
/-! ### len, int, tuple, list, abs, min, max of two -/
def lenD : List D → Option D
  | [.list ds] => some (.int ds.length)
  | [.tuple ds] => some (.int ds.length)
  | [.str z] => if z.length ≤ sizeLine then some (.int z.length) else none
  | _ => none
def rLen (K : PySem.W.Frag) : List V → Hp → VK → Prop := fun xs H Q => ∃ x n, xs = [x] ∧ LenV K x H n ∧ Q (.int n) H
theorem cs_len {K : PySem.W.Frag} : CallS K .fz (rLen K) lenD := by
  intro F H Ha vs ds z Q fh r hz q
  match ds, r, hz with
  | [.list es], r, hz =>
    cases hz
    obtain ⟨v, rfl, r1⟩ := resA1 r
    obtain ⟨a, xs, rfl, s1, p1⟩ := r1.list fh
    refine ⟨_, es.length, rfl, .inl ⟨xs, s1, p1.length.symm⟩, q _ F H (.refl fh) (Rep.int _)⟩
  | [.tuple es], r, hz =>
    cases hz
    obtain ⟨v, rfl, r1⟩ := resA1 r
    obtain ⟨a, xs, rfl, s1, p1⟩ := r1.tup fh
    refine ⟨_, es.length, rfl, .inr ⟨xs, s1.sq, p1.length.symm⟩, q _ F H (.refl fh) (Rep.int _)⟩
  | [.str y], r, hz =>
    obtain ⟨hl, rfl⟩ := if_some (show (if y.length ≤ sizeLine then some (PyData.int y.length) else none) = some z from hz)
    obtain ⟨v, rfl, r1⟩ := resA1 r
    rw [r1.str]
    exact ⟨_, _, rfl, ⟨hl, rfl⟩, q _ F H (.refl fh) (Rep.int _)⟩
def intD : List D → Option D
  | [.int i] => some (.int i)
  | [.bool b] => some (.int (if b then 1 else 0))
  | _ => none
def rInt : List V → Hp → VK → Prop := fun xs H Q => (∃ i, xs = [.int i] ∧ Q (.int i) H) ∨ ∃ k, xs = [.bl k] ∧ Q (.int (if k then 1 else 0)) H
theorem cs_int {K : PySem.W.Frag} : CallS K .fz rInt intD := by
  intro F H Ha vs ds z Q fh r hz q
  match ds, r, hz with
  | [.int i], r, hz =>
    cases hz
    obtain ⟨v, rfl, r1⟩ := resA1 r
    rw [r1.int]
    exact .inl ⟨i, rfl, q _ F H (.refl fh) (Rep.int _)⟩
  | [.bool b], r, hz =>
    cases hz
    obtain ⟨v, rfl, r1⟩ := resA1 r
    rw [r1.bl]
    exact .inr ⟨b, rfl, q _ F H (.refl fh) (Rep.int _)⟩
def absD : List D → Option D
  | [.int i] => some (.int (if i < 0 then -i else i))
  | _ => none
def rAbs : List V → Hp → VK → Prop := fun xs H Q => ∃ i, xs = [.int i] ∧ Q (.int (if i < 0 then -i else i)) H
theorem cs_abs {K : PySem.W.Frag} : CallS K .fz rAbs absD := by
  intro F H Ha vs ds z Q fh r hz q
  match ds, r, hz with
  | [.int i], r, hz =>
    cases hz
    obtain ⟨v, rfl, r1⟩ := resA1 r
    rw [r1.int]
    exact ⟨i, rfl, q _ F H (.refl fh) (Rep.int _)⟩
def max2D : List D → Option D
  | [.int i, .int j] => some (.int (if j > i then j else i))
  | _ => none
def min2D : List D → Option D
  | [.int i, .int j] => some (.int (if j < i then j else i))
  | _ => none
def rMax2 : List V → Hp → VK → Prop := fun xs H Q => ∃ i j, xs = [.int i, .int j] ∧ Q (.int (if j > i then j else i)) H
def rMin2 : List V → Hp → VK → Prop := fun xs H Q => ∃ i j, xs = [.int i, .int j] ∧ Q (.int (if j < i then j else i)) H
theorem cs_max2 {K : PySem.W.Frag} : CallS K .fz rMax2 max2D := by
  intro F H Ha vs ds z Q fh r hz q
  match ds, r, hz with
  | [.int i, .int j], r, hz =>
    cases hz
    obtain ⟨v, w, rfl, r1, r2⟩ := resA2 r
    rw [r1.int, r2.int]
    exact ⟨i, j, rfl, q _ F H (.refl fh) (Rep.int _)⟩
theorem cs_min2 {K : PySem.W.Frag} : CallS K .fz rMin2 min2D := by
  intro F H Ha vs ds z Q fh r hz q
  match ds, r, hz with
  | [.int i, .int j], r, hz =>
    cases hz
    obtain ⟨v, w, rfl, r1, r2⟩ := resA2 r
    rw [r1.int, r2.int]
    exact ⟨i, j, rfl, q _ F H (.refl fh) (Rep.int _)⟩
def tupD : List D → Option D
  | [.list ds] => some (.tuple ds)
  | [.tuple ds] => some (.tuple ds)
  | _ => none
def rTupC (K : PySem.W.Frag) : List V → Hp → VK → Prop := fun xs H Q => ∃ p ys, xs = [.ref p] ∧ ((SqL K H p ys ∧ NewT ys H Q) ∨ (SqT K H p ys ∧ Q (.ref p) H))
theorem cr_tup {X : Cx} : CallR X (.type "tuple") (rTupC X.K) := by
  intro pins s σ H vs us Q I r h
  obtain ⟨p, xs, rfl, h⟩ := h
  obtain ⟨u, rfl, ru⟩ := vals1 r
  cases ru
  rcases h with ⟨hs, q⟩ | ⟨hs, q⟩
  · obtain ⟨its, rv, pl, hz⟩ := I.list hs
    refine call_tuple_list pl.isList (fun h' hk => ?_) (by rw [List.size_toArray, ← rv.length]; exact hz)
    have I1 : Inv X pins σ H { s with heap := h' } := I.kept (t' := s.toks) hk
    exact ⟨.ref h'.objs.size, _, Inv.laidT (s := { s with heap := h' }) (t' := s.toks) I1 rv hz, rfl, q _ _ (I1.hok.fresh (Nat.le_refl _)) rfl rfl⟩
  · obtain ⟨its, rv, pl, hz⟩ := I.tuple hs
    exact call_tuple_tup pl ⟨.ref p, H, I, rfl, q⟩
theorem cr_tupK {X : Cx} (K' : PySem.W.Frag) (hK : X.K = K' := by rfl) : CallR X (.type "tuple") (rTupC K') := by
  subst hK
  exact cr_tup 
theorem cs_tup {K : PySem.W.Frag} : CallS K .fz (rTupC K) tupD := by
  intro F H Ha vs ds z Q fh r hz q
  match ds, r, hz with
  | [.list es], r, hz =>
    cases hz
    obtain ⟨v, rfl, r1⟩ := resA1 r
    obtain ⟨a, xs, rfl, s1, p1⟩ := r1.list fh
    exact ⟨a, xs, rfl, .inl ⟨s1, newT_rep (.refl fh) p1 q⟩⟩
  | [.tuple es], r, hz =>
    cases hz
    obtain ⟨v, rfl, r1⟩ := resA1 r
    have rr := Res.rep r1 (fun _ z => nomatch z)
    obtain ⟨a, xs, rfl, s1, p1⟩ := r1.tup fh
    exact ⟨a, xs, rfl, .inr ⟨s1.sq, q _ F H (.refl fh) rr⟩⟩
def lstD : List D → Option D
  | [d] => (itemsD d).map .list
  | _ => none
def rLstC (K : PySem.W.Frag) : List V → Hp → VK → Prop := fun xs H Q => ∃ p ys, xs = [.ref p] ∧ (SqL K H p ys ∨ SqT K H p ys) ∧ ∀ l, H l = none → Q (.ref l) (upd H l (.lst ys))
theorem cs_lst {K : PySem.W.Frag} : CallS K .fr (rLstC K) lstD := by
  intro F H Ha vs ds z Q fh r hz q
  match ds, r, hz with
  | [d], r, hz =>
    obtain ⟨es, h1, rfl⟩ := Option.map_eq_some_iff.mp (show (itemsD d).map PyData.list = some z from hz)
    obtain ⟨v, rfl, r1⟩ := resA1 r
    obtain ⟨a, xs, rfl, s1, p1⟩ := r1.items fh h1
    exact ⟨a, xs, rfl, s1, newL_res (.refl fh) p1 q⟩
/-! ### sum, all, any, min, max over items -/
def intsOf : List D → Option (List Int)
  | [] => some []
  | .int i :: ds => (intsOf ds).map (i :: ·)
  | _ => none
theorem intsOf_map : ∀ {ds : List D} {ns : List Int}, intsOf ds = some ns → ds = ns.map .int
  | [], _, h => by cases h; rfl
  | .int i :: ds, ns, h => by
    obtain ⟨ms, h1, rfl⟩ := Option.map_eq_some_iff.mp (show (intsOf ds).map (i :: ·) = some ns from h)
    rw [intsOf_map h1]; rfl
theorem intsOf_ints : ∀ (ns : List Int), intsOf (ns.map .int) = some ns
  | [] => rfl
  | n :: ns => by show (intsOf (ns.map .int)).map (n :: ·) = _; rw [intsOf_ints ns]; rfl
def sumD : List D → Option D
  | [d] => (itemsD d).bind fun ds => (intsOf ds).map fun ns => .int ns.sum
  | _ => none
def rSumA (K : PySem.W.Frag) : List V → Hp → VK → Prop := fun vs H Q => ∃ (a : Addr) (ns : List Int), vs = [V.ref a] ∧ SqA K H a (ns.map V.int) ∧ Q (.int ns.sum) H
theorem cr_sumA {X : Cx} (hc : X.calm = true) : CallR X (.builtin "sum") (rSumA X.K) := by
  intro pins s σ H vs us Q I r h
  obtain ⟨a, ns, rfl, sq, q⟩ := h
  rcases sq with sq | sq
  · exact cr_sum hc pins s σ H _ us Q I r ⟨a, ns, rfl, sq, q⟩
  · obtain ⟨u, rfl, ru⟩ := vals1 r
    cases ru
    obtain ⟨its, rv, pl, hz⟩ := I.tuple sq
    have hi : IntsAre its ns := rv.ints
    obtain ⟨xs, hx⟩ := hi.allInts.items
    have hn : numsOf its.toArray.toList = ns := by rw [show its.toArray.toList = its from rfl, hi.numsOf]
    rw [hx] at pl hn
    rw [nums_intItems] at hn
    refine PySem.W.ktm_sumG (I.ok.hd hc) pl fun h' tk t' hk => ?_
    rw [preSum_eq, List.take_of_length_le (by simp), hn]
    exact ⟨.int ns.sum, H, I.kept hk, ⟨t', rfl⟩, q⟩
theorem cr_sumAK {X : Cx} (K' : PySem.W.Frag) (hc : X.calm = true) (hK : X.K = K' := by rfl) : CallR X (.builtin "sum") (rSumA K') := by
  subst hK
  exact cr_sumA (hc := hc)
theorem cs_sum {K : PySem.W.Frag} : CallS K .fz (rSumA K) sumD := by
  intro F H Ha vs ds z Q fh r hz q
  match ds, r, hz with
  | [d], r, hz =>
    obtain ⟨es, h1, h2⟩ := bind_some (show (itemsD d).bind (fun ds => (intsOf ds).map fun ns => PyData.int ns.sum) = some z from hz)
    obtain ⟨ns, h3, rfl⟩ := Option.map_eq_some_iff.mp h2
    obtain ⟨v, rfl, r1⟩ := resA1 r
    obtain ⟨a, xs, rfl, s1, p1⟩ := r1.items fh h1
    have e := intsOf_map h3
    subst e
    have e2 := RepA.ints p1
    subst e2
    exact ⟨a, ns, rfl, s1, q _ F H (.refl fh) (Rep.int _)⟩
def blsOf : List D → Option (List Bool)
  | [] => some []
  | .bool b :: ds => (blsOf ds).map (b :: ·)
  | _ => none
theorem blsOf_map : ∀ {ds : List D} {ns : List Bool}, blsOf ds = some ns → ds = ns.map .bool
  | [], _, h => by cases h; rfl
  | .bool i :: ds, ns, h => by
    obtain ⟨ms, h1, rfl⟩ := Option.map_eq_some_iff.mp (show (blsOf ds).map (i :: ·) = some ns from h)
    rw [blsOf_map h1]; rfl
theorem blsOf_bls : ∀ (ns : List Bool), blsOf (ns.map .bool) = some ns
  | [] => rfl
  | n :: ns => by show (blsOf (ns.map .bool)).map (n :: ·) = _; rw [blsOf_bls ns]; rfl
def allD : List D → Option D
  | [.list ds] => (blsOf ds).map fun bs => .bool (bs.all id)
  | _ => none
def anyD : List D → Option D
  | [.list ds] => (blsOf ds).map fun bs => .bool (bs.any id)
  | _ => none
theorem cs_all {K : PySem.W.Frag} : CallS K .fz (rAll K) allD := by
  intro F H Ha vs ds z Q fh r hz q
  match ds, r, hz with
  | [.list es], r, hz =>
    obtain ⟨bs, h3, rfl⟩ := Option.map_eq_some_iff.mp (show (blsOf es).map (fun bs => PyData.bool (bs.all id)) = some z from hz)
    obtain ⟨v, rfl, r1⟩ := resA1 r
    obtain ⟨a, xs, rfl, s1, p1⟩ := r1.list fh
    have e := blsOf_map h3
    subst e
    have e2 := RepA.bls p1
    subst e2
    exact ⟨a, bs, rfl, s1, q _ F H (.refl fh) (Rep.bl _)⟩
theorem cs_any {K : PySem.W.Frag} : CallS K .fz (rAny K) anyD := by
  intro F H Ha vs ds z Q fh r hz q
  match ds, r, hz with
  | [.list es], r, hz =>
    obtain ⟨bs, h3, rfl⟩ := Option.map_eq_some_iff.mp (show (blsOf es).map (fun bs => PyData.bool (bs.any id)) = some z from hz)
    obtain ⟨v, rfl, r1⟩ := resA1 r
    obtain ⟨a, xs, rfl, s1, p1⟩ := r1.list fh
    have e := blsOf_map h3
    subst e
    have e2 := RepA.bls p1
    subst e2
    exact ⟨a, bs, rfl, s1, q _ F H (.refl fh) (Rep.bl _)⟩
def bestOk (ds : List D) : Bool := (ds.all fun d => ds.all fun e => PySem.W.alike d e) && (ds.all fun d => match d with
  | .none => false
  | _ => true) && decide (PyData.depthAll ds ≤ 64)
theorem bestOk_of {ds : List D} (h : bestOk ds = true) : PySem.W.AlikeAll ds ∧ PyData.depthAll ds ≤ 64 := by
  unfold bestOk at h
  simp only [Bool.and_eq_true, List.all_eq_true, decide_eq_true_eq] at h
  obtain ⟨⟨h1, h2⟩, h3⟩ := h
  refine ⟨⟨h1, fun d hd z => ?_⟩, h3⟩
  subst z
  exact nomatch h2 _ hd
def minOf : List D → Option D
  | [] => none
  | x :: xs => if bestOk (x :: xs) = true then some (PySem.W.minD x xs) else none
def maxOf : List D → Option D
  | [] => none
  | x :: xs => if bestOk (x :: xs) = true then some (PySem.W.maxD x xs) else none
def minA : List D → Option D
  | [d] => (itemsD d).bind minOf
  | _ => none
def maxA : List D → Option D
  | [d] => (itemsD d).bind maxOf
  | _ => none
theorem minD_mem (x : D) : ∀ xs : List D, PySem.W.minD x xs ∈ x :: xs := by
  intro xs
  unfold PySem.W.minD
  induction xs generalizing x with
  | nil => exact List.mem_singleton.mpr rfl
  | cons y ys ih =>
    rw [List.foldl_cons]
    split
    · exact List.mem_cons_of_mem _ (ih y)
    · rcases List.mem_cons.mp (ih x) with e | e
      · rw [e]; exact List.mem_cons_self
      · exact List.mem_cons_of_mem _ (List.mem_cons_of_mem _ e)
theorem maxD_mem (x : D) : ∀ xs : List D, PySem.W.maxD x xs ∈ x :: xs := by
  intro xs
  unfold PySem.W.maxD
  induction xs generalizing x with
  | nil => exact List.mem_singleton.mpr rfl
  | cons y ys ih =>
    rw [List.foldl_cons]
    split
    · exact List.mem_cons_of_mem _ (ih y)
    · rcases List.mem_cons.mp (ih x) with e | e
      · rw [e]; exact List.mem_cons_self
      · exact List.mem_cons_of_mem _ (List.mem_cons_of_mem _ e)
def rBest (K : PySem.W.Frag) (f : D → List D → D) : List V → Hp → VK → Prop := fun vs H Q => ∃ a xs F x ds, vs = [V.ref a] ∧ Same F H ∧ SqA K H a xs ∧ RepA K F xs (x :: ds) ∧ bestOk (x :: ds) = true ∧ ∀ v, Rep K F v (f x ds) → Q v H
theorem best_end {X : Cx} {pins : List (Addr × Obj)} {σ : L2.St} {H F : Hp} {s : Shared} {xs : List V} {its : List Value} {ds : List D} {i : Nat} {u : Value} {h' : Heap} {tk : Nat} {m : D} {bs : List Addr} (I : Inv X pins σ H s) (fh : Same F H) (rv : Vals xs its) (rp : RepA X.K F xs ds) (ok : PySem.W.AlikeAll ds) (hm : m ∈ ds)
    (hu : its.toArray[i]? = some u) (hr : Reads h' u m bs) (hk : ∀ b o, s.heap.get? b = some o → h'.get? b = some o) : ∃ v, RelV v u ∧ Rep X.K F v m := by
  have hu' : its[i]? = some u := by rw [← hu]; simp
  have hi : i < xs.length := by rw [rv.length]; exact (List.getElem?_eq_some_iff.mp hu').1
  obtain ⟨u2, h2, r2⟩ := rv.get (List.getElem?_eq_getElem hi)
  rw [hu'] at h2; cases h2
  obtain ⟨d, h3, r3⟩ := rp.getV (List.getElem?_eq_getElem hi)
  have I2 : Inv X pins σ H { s with heap := h', toks := tk } := I.kept hk
  obtain ⟨as, r4⟩ := Dp.reads I2 d _ u (r3.mono fh).dp r2
  have e := PySem.W.alike_unique _ _ _ _ _ (ok.1 _ (List.mem_of_getElem? h3) _ hm) r4 hr
  subst e
  exact ⟨_, r2, r3⟩
theorem cr_minA {X : Cx} (hc : X.calm = true) (hu : X.A.units + 70 < cLine) : CallR X (.builtin "min") (rBest X.K PySem.W.minD) := by
  intro pins s σ H vs us Q I r h
  obtain ⟨a, xs, F, x, ds, rfl, fh, sq, rp, ok, q⟩ := h
  obtain ⟨u, rfl, ru⟩ := vals1 r
  cases ru
  obtain ⟨h1, h2⟩ := bestOk_of ok
  rcases sq with sq | sq
  · obtain ⟨its, rv, pl, hz⟩ := I.list sq
    obtain ⟨as, hr⟩ := Dp.readsAll I (x :: ds) xs its (rp.mono fh).dp rv
    refine PySem.W.min_list_data (I.ok.hd hc) pl.isList (show ReadsAll s.heap its.toArray.toList _ _ from hr) h1 (by omega) fun i v h' tk bs hi hr' hk => ?_
    obtain ⟨w, r1, r2⟩ := best_end (tk := tk) I fh rv rp h1 (minD_mem x ds) hi hr' hk
    exact ⟨w, H, I.kept hk, r1, q w r2⟩
  · obtain ⟨its, rv, pl, hz⟩ := I.tuple sq
    obtain ⟨as, hr⟩ := Dp.readsAll I (x :: ds) xs its (rp.mono fh).dp rv
    refine PySem.W.min_tuple_data (I.ok.hd hc) pl (show ReadsAll s.heap its.toArray.toList _ _ from hr) h1 (by omega) fun i v h' tk bs hi hr' hk => ?_
    obtain ⟨w, r1, r2⟩ := best_end (tk := tk) I fh rv rp h1 (minD_mem x ds) hi hr' hk
    exact ⟨w, H, I.kept hk, r1, q w r2⟩
theorem cr_minAK {X : Cx} (K' : PySem.W.Frag) (hc : X.calm = true) (hu : X.A.units + 70 < cLine) (hK : X.K = K' := by rfl) : CallR X (.builtin "min") (rBest K' PySem.W.minD) := by
  subst hK
  exact cr_minA (hc := hc) (hu := hu)
theorem cr_maxA {X : Cx} (hc : X.calm = true) (hu : X.A.units + 70 < cLine) : CallR X (.builtin "max") (rBest X.K PySem.W.maxD) := by
  intro pins s σ H vs us Q I r h
  obtain ⟨a, xs, F, x, ds, rfl, fh, sq, rp, ok, q⟩ := h
  obtain ⟨u, rfl, ru⟩ := vals1 r
  cases ru
  obtain ⟨h1, h2⟩ := bestOk_of ok
  rcases sq with sq | sq
  · obtain ⟨its, rv, pl, hz⟩ := I.list sq
    obtain ⟨as, hr⟩ := Dp.readsAll I (x :: ds) xs its (rp.mono fh).dp rv
    refine PySem.W.max_list_data (I.ok.hd hc) pl.isList (show ReadsAll s.heap its.toArray.toList _ _ from hr) h1 (by omega) fun i v h' tk bs hi hr' hk => ?_
    obtain ⟨w, r1, r2⟩ := best_end (tk := tk) I fh rv rp h1 (maxD_mem x ds) hi hr' hk
    exact ⟨w, H, I.kept hk, r1, q w r2⟩
  · obtain ⟨its, rv, pl, hz⟩ := I.tuple sq
    obtain ⟨as, hr⟩ := Dp.readsAll I (x :: ds) xs its (rp.mono fh).dp rv
    refine PySem.W.max_tuple_data (I.ok.hd hc) pl (show ReadsAll s.heap its.toArray.toList _ _ from hr) h1 (by omega) fun i v h' tk bs hi hr' hk => ?_
    obtain ⟨w, r1, r2⟩ := best_end (tk := tk) I fh rv rp h1 (maxD_mem x ds) hi hr' hk
    exact ⟨w, H, I.kept hk, r1, q w r2⟩
theorem cr_maxAK {X : Cx} (K' : PySem.W.Frag) (hc : X.calm = true) (hu : X.A.units + 70 < cLine) (hK : X.K = K' := by rfl) : CallR X (.builtin "max") (rBest K' PySem.W.maxD) := by
  subst hK
  exact cr_maxA (hc := hc) (hu := hu)
theorem cs_minA {K : PySem.W.Frag} : CallS K .fz (rBest K PySem.W.minD) minA := by
  intro F H Ha vs ds z Q fh r hz q
  match ds, r, hz with
  | [d], r, hz =>
    obtain ⟨es, h1, h2⟩ := bind_some (show (itemsD d).bind minOf = some z from hz)
    obtain ⟨v, rfl, r1⟩ := resA1 r
    obtain ⟨a, xs, rfl, s1, p1⟩ := r1.items fh h1
    match es, h2, p1 with
    | x :: es, h2, p1 =>
      obtain ⟨ok, rfl⟩ := if_some h2
      exact ⟨a, xs, F, x, es, rfl, fh, s1, p1, ok, fun v rv => q v F H (.refl fh) rv⟩
theorem cs_maxA {K : PySem.W.Frag} : CallS K .fz (rBest K PySem.W.maxD) maxA := by
  intro F H Ha vs ds z Q fh r hz q
  match ds, r, hz with
  | [d], r, hz =>
    obtain ⟨es, h1, h2⟩ := bind_some (show (itemsD d).bind maxOf = some z from hz)
    obtain ⟨v, rfl, r1⟩ := resA1 r
    obtain ⟨a, xs, rfl, s1, p1⟩ := r1.items fh h1
    match es, h2, p1 with
    | x :: es, h2, p1 =>
      obtain ⟨ok, rfl⟩ := if_some h2
      exact ⟨a, xs, F, x, es, rfl, fh, s1, p1, ok, fun v rv => q v F H (.refl fh) rv⟩
end Q
end

/-! part: Q5 -/
section
set_option Elab.async false
set_option linter.all false
set_option maxRecDepth 100000
set_option maxHeartbeats 4000000
set_option autoImplicit false
namespace Q
open PySem PySem.Spec PySem.Calls PyProof.Rows L2
/-! ### statements -/
inductive Out where
  | nx (ρ : Rho)
  | bk (ρ : Rho)
  | ct (ρ : Rho)
  | rt (d : D)
abbrev Bd := Rho → Option Out
/-- what is known behind a return -/
def RtOk (K : PySem.W.Frag) (m : Md) (B : Bs) (F H : Hp) (v : V) (d : D) : Prop := Same B.F0 F ∧ Same B.G H ∧ Same F H ∧ New B.F0 F B.G ∧ Res K m B.G F H v d
/-- the ends that a statement's denotation reaches -/
def Ends_ (K : PySem.W.Frag) (m : Md) (W : List Nat) (B : Bs) (σ : L2.St) (D : Ends) (o : Out) : Prop := match o with
  | .nx ρ' => ∀ (σ' : L2.St) (F' H' : Hp), Rel K B F' H' σ' ρ' → (∀ j, j ∉ W → σ'[j]? = σ[j]?) → D.nx σ' H'
  | .bk ρ' => ∀ (σ' : L2.St) (F' H' : Hp), Rel K B F' H' σ' ρ' → (∀ j, j ∉ W → σ'[j]? = σ[j]?) → D.bk σ' H'
  | .ct ρ' => ∀ (σ' : L2.St) (F' H' : Hp), Rel K B F' H' σ' ρ' → (∀ j, j ∉ W → σ'[j]? = σ[j]?) → D.ct σ' H'
  | .rt d => ∀ (v : V) (F' H' : Hp), RtOk K m B F' H' v d → D.rt v H'
def SemS (K : PySem.W.Frag) (m : Md) (W : List Nat) (t : TS) (b : Bd) : Prop :=
  ∀ (B : Bs) (F H : Hp) (σ : L2.St) (ρ : Rho) (o : Out) (D : Ends), Rel K B F H σ ρ → b ρ = some o → Ends_ K m W B σ D o → t D σ H
structure DS (X : Cx) (m : Md) (W : List Nat) (st : Stmt) (t : TS) (b : Bd) : Prop where
  p : PS X st t
  s : SemS X.K m W t b
structure DSs (X : Cx) (m : Md) (W : List Nat) (st : List Stmt) (t : TS) (b : Bd) : Prop where
  p : PSs X st t
  s : SemS X.K m W t b
def bNext : Bd := fun ρ => some (.nx ρ)
def bSeq (a b : Bd) : Bd := fun ρ => (a ρ).bind fun o => match o with
  | .nx ρ' => b ρ'
  | o => some o
theorem ends_mono {K : PySem.W.Frag} {m : Md} {W W' : List Nat} {B : Bs} {σ : L2.St} {D : Ends} {o : Out} (h : Ends_ K m W' B σ D o) (hw : ∀ j, j ∈ W → j ∈ W') : Ends_ K m W B σ D o := by
  cases o with
  | nx ρ => exact fun σ' F' H' r k => h σ' F' H' r fun j hj => k j fun z => hj (hw j z)
  | bk ρ => exact fun σ' F' H' r k => h σ' F' H' r fun j hj => k j fun z => hj (hw j z)
  | ct ρ => exact fun σ' F' H' r k => h σ' F' H' r fun j hj => k j fun z => hj (hw j z)
  | rt d => exact h
theorem SemS.mono {K : PySem.W.Frag} {m : Md} {W W' : List Nat} {t : TS} {b : Bd} (h : SemS K m W t b) (hw : ∀ j, j ∈ W → j ∈ W') : SemS K m W' t b :=
  fun B F H σ ρ o D r hb e => h B F H σ ρ o D r hb (ends_mono e hw)
section
variable {X : Cx} {m : Md} {W W1 W2 : List Nat} {st : Stmt} {rest : List Stmt} {t u : TS} {b c : Bd} {pos : Pos}
theorem dss_nil : DSs X m [] [] tNext bNext := ⟨pss_nil, fun B F H σ ρ o D r hb e => by cases hb; exact e σ F H r fun _ _ => rfl⟩
theorem ends_after {K : PySem.W.Frag} {σ σ1 : L2.St} {B : Bs} {D : Ends} {o : Out} (e : Ends_ K m (W1 ++ W2) B σ D o) (k1 : ∀ j, j ∉ W1 → σ1[j]? = σ[j]?) : Ends_ K m W2 B σ1 D o := by
  have kk : ∀ (σ' : L2.St), (∀ j, j ∉ W2 → σ'[j]? = σ1[j]?) → ∀ j, j ∉ W1 ++ W2 → σ'[j]? = σ[j]? := fun σ' k' j hj =>
    (k' j fun z => hj (List.mem_append_right _ z)).trans (k1 j fun z => hj (List.mem_append_left _ z))
  cases o with
  | nx ρ2 => exact fun σ' F' H' r' k' => e σ' F' H' r' (kk σ' k')
  | bk ρ2 => exact fun σ' F' H' r' k' => e σ' F' H' r' (kk σ' k')
  | ct ρ2 => exact fun σ' F' H' r' k' => e σ' F' H' r' (kk σ' k')
  | rt d => exact e
theorem sem_seq {K : PySem.W.Frag} (h1 : SemS K m W1 t b) (h2 : SemS K m W2 u c) : SemS K m (W1 ++ W2) (tSeq t u) (bSeq b c) := by
  intro B F H σ ρ o D r hb e
  obtain ⟨o1, e1, e2⟩ := bind_some hb
  refine h1 B F H σ ρ o1 _ r e1 ?_
  cases o1 with
  | nx ρ1 => exact fun σ1 F1 H1 r1 k1 => h2 B F1 H1 σ1 ρ1 o D r1 e2 (ends_after e k1)
  | bk ρ1 => cases e2; exact fun σ' F' H' r' k' => e σ' F' H' r' fun j hj => k' j fun z => hj (List.mem_append_left _ z)
  | ct ρ1 => cases e2; exact fun σ' F' H' r' k' => e σ' F' H' r' fun j hj => k' j fun z => hj (List.mem_append_left _ z)
  | rt d => cases e2; exact e
theorem dss_cons (h1 : DS X m W1 st t b) (h2 : DSs X m W2 rest u c) : DSs X m (W1 ++ W2) (st :: rest) (tSeq t u) (bSeq b c) := ⟨pss_cons h1.p h2.p, sem_seq h1.s h2.s⟩
theorem dss_one (h1 : DS X m W st t b) : DSs X m W [st] t b := ⟨pss_one h1.p, h1.s⟩
theorem ds_pass : DS X m [] (.Pass pos) tNext bNext := ⟨ps_pass, fun B F H σ ρ o D r hb e => by cases hb; exact e σ F H r fun _ _ => rfl⟩
def bBreak : Bd := fun ρ => some (.bk ρ)
def bCont : Bd := fun ρ => some (.ct ρ)
def bNever : Bd := fun _ => none
theorem ds_break : DS X m [] (.Break pos) tBreak bBreak := ⟨ps_break, fun B F H σ ρ o D r hb e => by cases hb; exact e σ F H r fun _ _ => rfl⟩
theorem ds_cont : DS X m [] (.Continue pos) tCont bCont := ⟨ps_continue, fun B F H σ ρ o D r hb e => by cases hb; exact e σ F H r fun _ _ => rfl⟩
theorem ds_never : DS X m [] st tNever bNever := ⟨ps_never, fun B F H σ ρ o D r hb e => nomatch hb⟩
theorem dss_never {sts : List Stmt} : DSs X m [] sts tNever bNever := ⟨pss_never, fun B F H σ ρ o D r hb e => nomatch hb⟩
def bIf (c : Rho → Option Bool) (a b : Bd) : Bd := fun ρ => (c ρ).bind fun k => if k = true then a ρ else b ρ
theorem ds_if {e : Expr} {p q : List Stmt} {tc : TT} {fc : Rho → Option Bool} (hc : DT X e tc fc) (ha : DSs X m W1 p t b) (hb : DSs X m W2 q u c) : DS X m (W1 ++ W2) (.If e p q pos) (tIfS tc t u) (bIf fc b c) :=
  ⟨ps_if hc.p ha.p hb.p, fun B F H σ ρ o D r hf e => by
    obtain ⟨k, h1, h2⟩ := bind_some hf
    refine hc.s B F H σ ρ k _ r h1 fun F1 H1 x1 => ?_
    cases k with
    | true => exact ha.s B F1 H1 σ ρ o D (r.ext x1) h2 (ends_mono e fun j hj => List.mem_append_left _ hj)
    | false => exact hb.s B F1 H1 σ ρ o D (r.ext x1) h2 (ends_mono e fun j hj => List.mem_append_right _ hj)⟩
end
/-! ### the state changed -/
section
variable {K : PySem.W.Frag} {B : Bs} {F H : Hp} {σ : L2.St} {ρ : Rho}
theorem set_at {α : Type} {l : List α} {i j : Nat} {x y : α} (h : (l.set i x)[j]? = some y) : (j = i ∧ i < l.length ∧ y = x) ∨ (j ≠ i ∧ l[j]? = some y) := by
  by_cases e : j = i
  · subst e
    by_cases hl : j < l.length
    · rw [List.getElem?_set_self hl] at h
      exact .inl ⟨rfl, hl, (Option.some.inj h).symm⟩
    · rw [List.getElem?_eq_none (by simpa using hl)] at h
      cases h
  · rw [List.getElem?_set_ne (Ne.symm e)] at h
    exact .inr ⟨e, h⟩
theorem Rel.setIm (r : Rel K B F H σ ρ) {i : Nat} {v : V} {d : D} (h : Rep K F v d) : Rel K B F H (σ.set i (some v)) (ρ.set i (.im d)) := by
  refine ⟨by simpa using r.len, r.f0, r.g, r.fh, r.nw, fun j o s h1 h2 => ?_, fun j k d1 d2 a hjk h1 h2 h3 h4 => ?_⟩
  · rcases set_at h1 with ⟨rfl, _, rfl⟩ | ⟨n1, h1⟩
    · rcases set_at h2 with ⟨_, _, rfl⟩ | ⟨n2, _⟩
      · exact ⟨v, rfl, h⟩
      · exact absurd rfl n2
    · rcases set_at h2 with ⟨e, _, _⟩ | ⟨_, h2⟩
      · exact absurd e n1
      · exact r.sl j o s h1 h2
  · rcases set_at h1 with ⟨_, _, e⟩ | ⟨n1, h1⟩
    · cases e
    rcases set_at h2 with ⟨_, _, e⟩ | ⟨n2, h2⟩
    · cases e
    rw [List.getElem?_set_ne (Ne.symm n1)] at h3
    rw [List.getElem?_set_ne (Ne.symm n2)] at h4
    exact r.sep j k d1 d2 a hjk h1 h2 h3 h4
/-- a new object gets a name of its own -/
theorem Rel.setOw (r : Rel K B F H σ ρ) {i : Nat} {a : Addr} {d : D} (h0 : F a = none) (h1 : B.G a = none) (ho : Own K F H a d) (hn : ∀ (j : Nat) (e : D), j ≠ i → ρ[j]? = some (.ow e) → σ[j]? ≠ some (some (.ref a))) : Rel K B F H (σ.set i (some (.ref a))) (ρ.set i (.ow d)) := by
  refine ⟨by simpa using r.len, r.f0, r.g, r.fh, r.nw, fun j o s e1 e2 => ?_, fun j k d1 d2 b hjk e1 e2 e3 e4 => ?_⟩
  · rcases set_at e1 with ⟨rfl, _, rfl⟩ | ⟨n1, e1⟩
    · rcases set_at e2 with ⟨_, _, rfl⟩ | ⟨n2, _⟩
      · exact ⟨a, rfl, h0, h1, ho⟩
      · exact absurd rfl n2
    · rcases set_at e2 with ⟨e, _, _⟩ | ⟨_, e2⟩
      · exact absurd e n1
      · exact r.sl j o s e1 e2
  · by_cases hj : j = i
    · subst hj
      rcases set_at e3 with ⟨_, _, e⟩ | ⟨n, _⟩
      · cases e
        have hk : k ≠ j := fun z => hjk z.symm
        rw [List.getElem?_set_ne (Ne.symm hk)] at e2 e4
        exact hn k d2 hk e2 e4
      · exact absurd rfl n
    · by_cases hk : k = i
      · subst hk
        rcases set_at e4 with ⟨_, _, e⟩ | ⟨n, _⟩
        · cases e
          rw [List.getElem?_set_ne (Ne.symm hj)] at e1 e3
          exact hn j d1 hj e1 e3
        · exact absurd rfl n
      · rw [List.getElem?_set_ne (Ne.symm hj)] at e1 e3
        rw [List.getElem?_set_ne (Ne.symm hk)] at e2 e4
        exact r.sep j k d1 d2 b hjk e1 e2 e3 e4
/-- an owned object is written -/
theorem Rel.write (r : Rel K B F H σ ρ) {i : Nat} {a : Addr} {d d' : D} {o' : HO} (h1 : ρ[i]? = some (.ow d)) (h2 : σ[i]? = some (some (.ref a))) (h0 : F a = none) (hg : B.G a = none) (ho : Own K F (upd H a o') a d') : Rel K B F (upd H a o') σ (ρ.set i (.ow d')) := by
  refine ⟨by simpa using r.len, r.f0, fun b u q => ?_, fun b u q => ?_, r.nw, fun j o s e1 e2 => ?_, fun j k d1 d2 b hjk e1 e2 e3 e4 => ?_⟩
  · rw [upd_ne (ne_of_none q hg)]; exact r.g b u q
  · rw [upd_ne (ne_of_none q h0)]; exact r.fh b u q
  · rcases set_at e2 with ⟨rfl, _, rfl⟩ | ⟨n, e2⟩
    · rw [h2] at e1; cases e1
      exact ⟨a, rfl, h0, hg, ho⟩
    · have q := r.sl j o s e1 e2
      cases s with
      | un => trivial
      | im d1 => exact q
      | ow d1 =>
        obtain ⟨c, rfl, f, g, w⟩ := q
        have hca : c ≠ a := fun z => by
          subst z
          exact r.sep j i d1 d c n e2 h1 e1 h2
        refine ⟨c, rfl, f, g, ?_⟩
        cases d1 with
        | list ds =>
          obtain ⟨vs, w1, w2⟩ := w
          exact ⟨vs, by rw [upd_ne hca]; exact w1, w2⟩
        | _ => exact w.elim
  · have old : ∀ {j : Nat} {e : D}, (ρ.set i (.ow d'))[j]? = some (.ow e) → ∃ e', ρ[j]? = some (.ow e') := fun {j e} q => by
      rcases set_at q with ⟨rfl, _, _⟩ | ⟨_, q⟩
      · exact ⟨d, h1⟩
      · exact ⟨e, q⟩
    obtain ⟨d1', e1⟩ := old e1
    obtain ⟨d2', e2⟩ := old e2
    exact r.sep j k d1' d2' b hjk e1 e2 e3 e4
/-- an owned object is frozen -/
theorem Rel.freeze (r : Rel K B F H σ ρ) {i : Nat} {d : D} (h1 : ρ[i]? = some (.ow d)) : ∃ F' v, Same F F' ∧ σ[i]? = some (some v) ∧ Rep K F' v d ∧ Rel K B F' H σ (ρ.set i (.im d)) := by
  obtain ⟨o, e, a, rfl, f, g, w⟩ := r.at h1
  cases d with
  | list ds =>
    obtain ⟨vs, w1, w2⟩ := w
    have s1 : Same F (upd F a (.lst vs)) := same_upd f
    have hrep : Rep K (upd F a (.lst vs)) (.ref a) (.list ds) := .lst (.of upd_same) (w2.mono s1)
    refine ⟨upd F a (.lst vs), .ref a, s1, e, hrep, ⟨by simpa using r.len, r.f0.trans s1, r.g, same_upd2 r.fh w1 f, fun b q => ?_, fun j o s e1 e2 => ?_, fun j k d1 d2 b hjk e1 e2 e3 e4 => ?_⟩⟩
    · by_cases z : b = a
      · subst z; exact .inr g
      · rw [upd_ne z] at q; exact r.nw b q
    · rcases set_at e2 with ⟨rfl, _, rfl⟩ | ⟨n, e2⟩
      · rw [e] at e1; cases e1
        exact ⟨_, rfl, hrep⟩
      · have q := r.sl j o s e1 e2
        cases s with
        | un => trivial
        | im d1 => obtain ⟨v, q1, q2⟩ := q; exact ⟨v, q1, q2.mono s1⟩
        | ow d1 =>
          obtain ⟨c, rfl, f', g', w'⟩ := q
          have hca : c ≠ a := fun z => by
            subst z
            exact r.sep j i d1 _ c n e2 h1 e1 e
          exact ⟨c, rfl, by rw [upd_ne hca]; exact f', g', w'.mono s1 (.refl _)⟩
    · rcases set_at e1 with ⟨_, _, z⟩ | ⟨n1, e1⟩
      · cases z
      rcases set_at e2 with ⟨_, _, z⟩ | ⟨n2, e2⟩
      · cases z
      exact r.sep j k d1 d2 b hjk e1 e2 e3 e4
  | _ => exact w.elim
theorem set_keep {i : Nat} {v : Option V} : ∀ j, j ∉ [i] → (σ.set i v)[j]? = σ[j]? := fun j hj => List.getElem?_set_ne fun z => hj (by rw [z]; exact List.mem_singleton.mpr rfl)
end
/-! ### assignments, return -/
section
variable {X : Cx} {m m1 : Md} {pos pos' : Pos} {e : Expr} {te : TE} {f : Rho → Option D}
def bAsg (i : Nat) (f : Rho → Option D) : Bd := fun ρ => (f ρ).bind fun d => some (.nx (ρ.set i (.im d)))
def bOwn (i : Nat) (f : Rho → Option D) : Bd := fun ρ => (f ρ).bind fun d => some (.nx (ρ.set i (.ow d)))
theorem sem_asg {K : PySem.W.Frag} {i : Nat} (h : SemE K .fz te f) : SemS K m [i] (tAsg te (gName i)) (bAsg i f) := by
  intro B F H σ ρ o D r hb q
  obtain ⟨d, h1, h2⟩ := bind_some hb
  cases h2
  exact h B F H σ ρ d _ r h1 fun v F1 H1 x1 r1 => q _ F1 H1 ((r.ext x1).setIm r1) set_keep
theorem own_ne {K : PySem.W.Frag} {B : Bs} {F H : Hp} {σ : L2.St} {ρ : Rho} (r : Rel K B F H σ ρ) {a : Addr} (h : H a = none) : ∀ (j : Nat) (e : D), ρ[j]? = some (.ow e) → σ[j]? ≠ some (some (.ref a)) := fun j e h1 h2 => by
  have q := r.sl j _ _ h2 h1
  obtain ⟨b, eb, _, _, w⟩ := q
  cases eb
  exact w.there h
theorem sem_own {K : PySem.W.Frag} {i : Nat} (h : SemE K .fr te f) : SemS K m [i] (tAsg te (gName i)) (bOwn i f) := by
  intro B F H σ ρ o D r hb q
  obtain ⟨d, h1, h2⟩ := bind_some hb
  cases h2
  refine h B F H σ ρ d _ r h1 fun v F1 H1 x1 r1 => ?_
  obtain ⟨a, rfl, h0, h3, ho⟩ := r1
  exact q _ F1 H1 ((r.ext x1).setOw h3 (r.g.free h0) ho fun j e _ e1 => own_ne r h0 j e e1) set_keep
theorem ds_asg {i : Nat} {x : Str} (he : DE X .fz e te f) (hN : X.N.Nodup) (hi : X.N[i]? = some x := by rfl) (hx : Loc X.env.scope x := by first | exact Or.inl rfl | exact Or.inr rfl) (hs : swapsWith e (some (.Name x pos')) pos.line X.env = pure false := by rfl)
    (hf : X.fn x = true ∨ X.env.scope.names.lookup x = some .local := by first | exact .inl rfl | exact .inr rfl) : DS X m [i] (.Assign [.Name x pos'] e pos) (tAsg te (gName i)) (bAsg i f) := ⟨ps_set hN hi hx he.p hs hf, sem_asg he.s⟩
theorem ds_own {i : Nat} {x : Str} (he : DE X .fr e te f) (hN : X.N.Nodup) (hi : X.N[i]? = some x := by rfl) (hx : Loc X.env.scope x := by first | exact Or.inl rfl | exact Or.inr rfl) (hs : swapsWith e (some (.Name x pos')) pos.line X.env = pure false := by rfl)
    (hf : X.fn x = true ∨ X.env.scope.names.lookup x = some .local := by first | exact .inl rfl | exact .inr rfl) : DS X m [i] (.Assign [.Name x pos'] e pos) (tAsg te (gName i)) (bOwn i f) := ⟨ps_set hN hi hx he.p hs hf, sem_own he.s⟩
/-- x = y, y an owned object: frozen from then on -/
def bMove (i j : Nat) : Bd := fun ρ => match ρ[j]? with
  | some (.im d) => some (.nx (ρ.set i (.im d)))
  | some (.ow d) => some (.nx ((ρ.set j (.im d)).set i (.im d)))
  | _ => none
theorem sem_move {K : PySem.W.Frag} {i j : Nat} : SemS K m [i] (tAsg (tVar j) (gName i)) (bMove i j) := by
  intro B F H σ ρ o D r hb q
  unfold bMove at hb
  split at hb
  · rename_i d e1
    cases hb
    obtain ⟨o, h1, v, rfl, h2⟩ := r.at e1
    exact ⟨v, h1, q _ F H (r.setIm h2) set_keep⟩
  · rename_i d e1
    cases hb
    obtain ⟨F', v, s1, h1, h2, r2⟩ := r.freeze e1
    exact ⟨v, h1, q _ F' H (r2.setIm h2) set_keep⟩
  · cases hb
theorem ds_move {i j : Nat} {x y : Str} {p : Pos} (hN : X.N.Nodup) (hi : X.N[i]? = some x := by rfl) (hx : Loc X.env.scope x := by first | exact Or.inl rfl | exact Or.inr rfl) (hs : swapsWith (.Name y p) (some (.Name x pos')) pos.line X.env = pure false := by rfl)
    (hf : X.fn x = true ∨ X.env.scope.names.lookup x = some .local := by first | exact .inl rfl | exact .inr rfl) (hj : X.N[j]? = some y := by rfl) (hv : Vis X.env.scope y := by first | exact Or.inl rfl | exact Or.inr (Or.inl rfl) | exact Or.inr (Or.inr rfl))
    (hd : (y == ("__debug__" : Str)) = false := by decide) (hcd : (y == ("__classdict__" : Str)) = false := by decide) : DS X m [i] (.Assign [.Name x pos'] (.Name y p) pos) (tAsg (tVar j) (gName i)) (bMove i j) := ⟨ps_set hN hi hx (pe_var hj hv hd hcd) hs hf, sem_move⟩
def bRet (f : Rho → Option D) : Bd := fun ρ => (f ρ).map .rt
theorem rel_rt {K : PySem.W.Frag} {B : Bs} {F H : Hp} {σ : L2.St} {ρ : Rho} {v : V} {d : D} (r : Rel K B F H σ ρ) (h : Res K m B.G F H v d) : RtOk K m B F H v d := ⟨r.f0, r.g, r.fh, r.nw, h⟩
theorem ds_ret (he : DE X m e te f) : DS X m [] (.Return (some e) pos) (tRet te) (bRet f) := ⟨ps_ret he.p, fun B F H σ ρ o D r hb q => by
  obtain ⟨d, h1, rfl⟩ := Option.map_eq_some_iff.mp hb
  exact he.s B F H σ ρ d _ r h1 fun v F1 H1 x1 r1 => q v F1 H1 (rel_rt (r.ext x1) (r1.back (F1 := F1) r.g))⟩
/-- return of an owned name: the object itself -/
def vO (i : Nat) : Rho → Option D := fun ρ => match ρ[i]? with
  | some (.ow d) => some d
  | _ => none
theorem ds_retOwn {i : Nat} {x : Str} {p : Pos} (hN : X.N[i]? = some x := by rfl) (hv : Vis X.env.scope x := by first | exact Or.inl rfl | exact Or.inr (Or.inl rfl) | exact Or.inr (Or.inr rfl)) (hd : (x == ("__debug__" : Str)) = false := by decide)
    (hcd : (x == ("__classdict__" : Str)) = false := by decide) : DS X .fr [] (.Return (some (.Name x p)) pos) (tRet (tVar i)) (bRet (vO i)) := ⟨ps_ret (pe_var hN hv hd hcd), fun B F H σ ρ o D r hb q => by
  obtain ⟨d, h1, rfl⟩ := Option.map_eq_some_iff.mp hb
  unfold vO at h1
  split at h1
  · rename_i d' e1
    cases h1
    obtain ⟨o, h1, a, rfl, h2, h3, h4⟩ := r.at e1
    exact ⟨_, h1, q _ F H (rel_rt r ⟨a, rfl, h3, h2, h4⟩)⟩
  · cases h1⟩
/-- return of a name whatever it is, frozen -/
theorem ds_retP {i : Nat} {x : Str} {p : Pos} (hN : X.N[i]? = some x := by rfl) (hv : Vis X.env.scope x := by first | exact Or.inl rfl | exact Or.inr (Or.inl rfl) | exact Or.inr (Or.inr rfl)) (hd : (x == ("__debug__" : Str)) = false := by decide)
    (hcd : (x == ("__classdict__" : Str)) = false := by decide) : DS X .fz [] (.Return (some (.Name x p)) pos) (tRet (tVar i)) (bRet (vP i)) := ⟨ps_ret (pe_var hN hv hd hcd), fun B F H σ ρ o D r hb q => by
  obtain ⟨d, h1, rfl⟩ := Option.map_eq_some_iff.mp hb
  unfold vP at h1
  split at h1
  · rename_i d' e1
    cases h1
    obtain ⟨o, h1, v, rfl, h2⟩ := r.at e1
    exact ⟨v, h1, q _ F H (rel_rt r h2)⟩
  · rename_i d' e1
    cases h1
    obtain ⟨F', v, s1, h1, h2, r2⟩ := r.freeze e1
    exact ⟨v, h1, q _ F' H (rel_rt r2 h2)⟩
  · cases h1⟩
theorem ds_retN : DS X .fz [] (.Return none pos) tRetN (fun _ => some (.rt .none)) := ⟨ps_retN, fun B F H σ ρ o D r hb q => by cases hb; exact q _ F H (rel_rt r Rep.non)⟩
end
end Q
end

/-! part: Q6 -/
section
set_option Elab.async false
set_option linter.all false
set_option maxRecDepth 100000
set_option maxHeartbeats 4000000
set_option autoImplicit false
namespace Q
open PySem PySem.Spec PySem.Calls PyProof.Rows L2
/-! ### what is walked -/
/-- a value as a datum; w: a pair made by an iterator will do -/
def RepB (w : Bool) (K : PySem.W.Frag) (F : Hp) (v : V) (d : D) : Prop := Rep K F v d ∨ (w = true ∧ ∃ a xs ds, v = .ref a ∧ d = .tuple ds ∧ SqT K F a xs ∧ RepA K F xs ds)
theorem RepB.strong {K : PySem.W.Frag} {F : Hp} {v : V} {d : D} (h : RepB false K F v d) : Rep K F v d := h.elim id fun z => nomatch z.1
/-- over data: fixed. st: what must stand besides F (none for an iterable that is frozen) -/
structure ItO (w : Bool) (K : PySem.W.Frag) (J : It) (F : Hp) (st : Hp → Prop) (ds : List D) : Prop where
  go : ∀ (i : Nat) (F' H' : Hp), i < ds.length → Same F F' → Same F' H' → st H' → J.go i H'
  yld : ∀ (i : Nat) (d : D) (F' H' : Hp) (x : V) (H3 : Hp), ds[i]? = some d → Same F F' → Same F' H' → st H' → J.yld i H' x H3 → ∃ F3, Ext F' H' F3 H3 ∧ RepB w K F3 x d
  stop : ∀ (i : Nat) (F' H' : Hp), ds.length ≤ i → Same F F' → Same F' H' → st H' → J.stop i H'
theorem ItO.weak {w : Bool} {K : PySem.W.Frag} {J : It} {F : Hp} {st : Hp → Prop} {ds : List D} (h : ItO false K J F st ds) : ItO w K J F st ds :=
  ⟨h.go, fun i d F' H' x H3 h1 h2 h3 h4 h5 => by
    obtain ⟨F3, e, r⟩ := h.yld i d F' H' x H3 h1 h2 h3 h4 h5
    exact ⟨F3, e, .inl r.strong⟩, h.stop⟩
theorem ItO.imp {w : Bool} {K : PySem.W.Frag} {J : It} {F : Hp} {st st' : Hp → Prop} {ds : List D} (h : ItO w K J F st ds) (i : ∀ H, st' H → st H) : ItO w K J F st' ds :=
  ⟨fun a b c h1 h2 h3 h4 => h.go a b c h1 h2 h3 (i _ h4), fun a d b c x y h1 h2 h3 h4 h5 => h.yld a d b c x y h1 h2 h3 (i _ h4) h5, fun a b c h1 h2 h3 h4 => h.stop a b c h1 h2 h3 (i _ h4)⟩
/-- frozen: m = fz: nothing must stand but F; m = pk: the heap as it is must be kept -/
def SemI (w : Bool) (K : PySem.W.Frag) (m : Md) (wi : TI) (f : Rho → Option (List D)) : Prop :=
  ∀ (B : Bs) (F H : Hp) (σ : L2.St) (ρ : Rho) (ds : List D) (R : It → Hp → Prop), Rel K B F H σ ρ → f ρ = some ds →
    (∀ J F' H', Ext F H F' H' → ItO w K J F' (match m with
      | .fz => fun _ => True
      | _ => fun H2 => Same H' H2) ds → R J H') → wi σ H R
structure DI (w : Bool) (X : Cx) (m : Md) (tg iter : Expr) (wi : TI) (f : Rho → Option (List D)) : Prop where
  p : PI X tg iter wi
  s : SemI w X.K m wi f
theorem DI.pk {w : Bool} {X : Cx} {m : Md} {tg iter : Expr} {wi : TI} {f : Rho → Option (List D)} (h : DI w X m tg iter wi f) : DI w X .pk tg iter wi f := ⟨h.p, fun B F H σ ρ ds R r hf q => h.s B F H σ ρ ds R r hf fun J F' H' x it => q J F' H' x (by
  cases m with
  | fz => exact it.imp fun _ _ => trivial
  | pk => exact it
  | fr => exact it)⟩
/-! a list, a tuple, a text -/
def iAny (K : PySem.W.Frag) (te : TE) : TI := fun σ H R => te σ H fun x H1 => (∃ a, x = .ref a ∧ (∃ xs, SqL K H1 a xs) ∧ R (Itl K a) H1) ∨ ((∃ a, x = .ref a ∧ (∃ xs, SqT K H1 a xs) ∧ R (Itt K a) H1) ∨ ∃ z, x = .str z ∧ R (Its z) H1)
theorem pi_any {X : Cx} {tg l : Expr} {tl : TE} (hl : PE X l tl) : PI X tg l (iAny X.K tl) := by
  refine ⟨fun pins s σ H R I h => ?_⟩
  refine thn (hl.run pins s σ H _ I h) fun v s1 ⟨x, H1, I1, r1, q1⟩ => ?_
  rcases q1 with ⟨a, e, ⟨xs, hq⟩, q⟩ | ⟨a, e, ⟨xs, hq⟩, q⟩ | ⟨z, e, q⟩
  · subst e
    cases r1
    obtain ⟨its, rv, p, hz⟩ := I1.list hq
    refine wpAny_pyIter_list p.isList ?_
    refine ⟨s1.heap.objs.size, [s1.heap.objs.size], _, _, H1, rfl, I1.kept (t' := s1.toks) fun b o e => Heap.get?_push_of_some _ e, turn_list a _, ⟨_, Heap.get?_push_size _ rfl, rfl, rfl⟩, fun b hb => ?_, q⟩
    have e : b = s1.heap.objs.size := by simpa using hb
    subst e
    exact I1.fpOk (Nat.le_refl _) (I1.hok.fresh (Nat.le_refl _))
  · subst e
    cases r1
    obtain ⟨its, rv, p, hz⟩ := I1.tuple hq
    refine wpAny_pyIter_tuple (show s1.heap.IsTuple a its.toArray from p) ?_
    refine ⟨s1.heap.objs.size, [s1.heap.objs.size], _, _, H1, rfl, I1.kept (t' := s1.toks) fun b o e => Heap.get?_push_of_some _ e, turn_tuple a _, ⟨_, Heap.get?_push_size _ rfl, rfl, rfl⟩, fun b hb => ?_, q⟩
    have e : b = s1.heap.objs.size := by simpa using hb
    subst e
    exact I1.fpOk (Nat.le_refl _) (I1.hok.fresh (Nat.le_refl _))
  · subst e
    obtain ⟨t, rfl⟩ := r1
    cases ha : z.cps.all (· < 128)
    · exact wpAny_pyIter_wide ha (pi_one (tk := s1.toks) I1 _ (turn_str _ z t "str_iterator" (.inr rfl)) ⟨_, Heap.get?_push_size _ rfl, rfl, rfl⟩ q)
    · exact wpAny_pyIter_ascii ha (pi_one (tk := s1.toks) I1 _ (turn_str _ z t "str_ascii_iterator" (.inl rfl)) ⟨_, Heap.get?_push_size _ rfl, rfl, rfl⟩ q)
def signsD (z : Str) : List D := z.cps.toList.map fun c => .str ⟨#[c]⟩
def walkD : D → Option (List D)
  | .list ds => some ds
  | .tuple ds => some ds
  | .str z => some (signsD z)
  | _ => none
def fI (f : Rho → Option D) : Rho → Option (List D) := fun ρ => (f ρ).bind walkD
theorem SqL.inj {K : PySem.W.Frag} {F H : Hp} {a : Addr} {xs ys : List V} (h : SqL K F a xs) (s : Same F H) (h' : SqL K H a ys) (nk : ∀ o, K.lookup a = some o → F a = none → True) : True := trivial
theorem sq_it {K : PySem.W.Frag} {H : Hp} {a : Addr} {xs : List V} {d : D} {ds : List D} {F : Hp} {i : Nat} (r : RepA K F xs ds) (h : ds[i]? = some d) : ∃ x, xs[i]? = some x ∧ Rep K F x d := r.get h
theorem itl_ok {K : PySem.W.Frag} {F : Hp} {a : Addr} {xs : List V} {ds : List D} {st : Hp → Prop} (hs : ∀ H, Same F H → st H → SqL K H a xs) (r : RepA K F xs ds) : ItO false K (Itl K a) F st ds :=
  ⟨fun i F' H' hi s1 s2 s3 => by
    obtain ⟨x, h1, _⟩ := r.get (List.getElem?_eq_getElem hi)
    exact ⟨xs, x, hs H' (s1.trans s2) s3, h1⟩, fun i d F' H' x H3 hd s1 s2 s3 y => by
    obtain ⟨rfl, y⟩ := y
    obtain ⟨x', h1, h2⟩ := r.get hd
    have e := y xs (hs _ (s1.trans s2) s3)
    rw [h1] at e
    cases e
    exact ⟨F', .refl s2, .inl (h2.mono s1)⟩, fun i F' H' hi s1 s2 s3 => ⟨xs, hs H' (s1.trans s2) s3, by rw [r.length]; exact hi⟩⟩
theorem itt_ok {K : PySem.W.Frag} {F : Hp} {a : Addr} {xs : List V} {ds : List D} {st : Hp → Prop} (hs : ∀ H, Same F H → st H → SqT K H a xs) (r : RepA K F xs ds) : ItO false K (Itt K a) F st ds :=
  ⟨fun i F' H' hi s1 s2 s3 => by
    obtain ⟨x, h1, _⟩ := r.get (List.getElem?_eq_getElem hi)
    exact ⟨xs, x, hs H' (s1.trans s2) s3, h1⟩, fun i d F' H' x H3 hd s1 s2 s3 y => by
    obtain ⟨rfl, y⟩ := y
    obtain ⟨x', h1, h2⟩ := r.get hd
    have e := y xs (hs _ (s1.trans s2) s3)
    rw [h1] at e
    cases e
    exact ⟨F', .refl s2, .inl (h2.mono s1)⟩, fun i F' H' hi s1 s2 s3 => ⟨xs, hs H' (s1.trans s2) s3, by rw [r.length]; exact hi⟩⟩
theorem its_ok {K : PySem.W.Frag} {F : Hp} {z : Str} {st : Hp → Prop} : ItO false K (Its z) F st (signsD z) := by
  have hl : (signsD z).length = z.cps.size := by unfold signsD; rw [List.length_map, Array.length_toList]
  refine ⟨fun i F' H' hi s1 s2 s3 => by rw [hl] at hi; exact hi, fun i d F' H' x H3 hd s1 s2 s3 y => ?_, fun i F' H' hi s1 s2 s3 => by rw [hl] at hi; exact hi⟩
  obtain ⟨rfl, c, h1, rfl⟩ := y
  have e : (signsD z)[i]? = some (.str ⟨#[c]⟩) := by
    unfold signsD
    rw [List.getElem?_map, Array.getElem?_toList, h1]
    rfl
  rw [e] at hd
  cases hd
  exact ⟨F', .refl s2, .inl (Rep.str _)⟩
theorem sem_any {K : PySem.W.Frag} {te : TE} {f : Rho → Option D} (h : SemE K .fz te f) : SemI false K .fz (iAny K te) (fI f) := by
  intro B F H σ ρ ds R rel hf q
  obtain ⟨d, h1, h2⟩ := bind_some hf
  refine h B F H σ ρ d _ rel h1 fun v F1 H1 x1 r1 => ?_
  cases d with
  | list es =>
    cases h2
    cases r1 with
    | lst hs hr => exact .inl ⟨_, rfl, ⟨_, x1.s.seq hs⟩, q _ F1 H1 x1 (itl_ok (fun H s _ => s.seq hs) hr)⟩
  | tuple es =>
    cases h2
    cases r1 with
    | tup hs hr => exact .inr (.inl ⟨_, rfl, ⟨_, (hs.mono x1.s).sq⟩, q _ F1 H1 x1 (itt_ok (fun H s _ => (hs.mono s).sq) hr)⟩)
  | str z =>
    cases h2
    cases r1 with
    | str => exact .inr (.inr ⟨z, rfl, q _ F1 H1 x1 its_ok⟩)
  | _ => cases h2
theorem sem_anyP {K : PySem.W.Frag} {te : TE} {f : Rho → Option D} {m : Md} (h : SemE K m te f) : SemI false K .pk (iAny K te) (fI f) := by
  intro B F H σ ρ ds R rel hf q
  obtain ⟨d, h1, h2⟩ := bind_some hf
  refine h B F H σ ρ d _ rel h1 fun v F1 H1 x1 r1 => ?_
  cases d with
  | list es =>
    cases h2
    obtain ⟨a, xs, rfl, hs, hr⟩ := r1.list x1.s
    exact .inl ⟨a, rfl, ⟨xs, hs⟩, q _ F1 H1 x1 (itl_ok (fun H _ s => s.seq hs) hr)⟩
  | tuple es =>
    cases h2
    obtain ⟨a, xs, rfl, hs, hr⟩ := r1.tup x1.s
    exact .inr (.inl ⟨a, rfl, ⟨xs, hs.sq⟩, q _ F1 H1 x1 (itt_ok (fun H _ s => (hs.mono s).sq) hr)⟩)
  | str z =>
    cases h2
    rw [r1.str]
    exact .inr (.inr ⟨z, rfl, q _ F1 H1 x1 its_ok⟩)
  | _ => cases h2
section
variable {X : Cx} {tg e : Expr} {te : TE} {f : Rho → Option D} {m : Md} {es : List Expr} {ta : TA} {fs : Rho → Option (List D)} {p pos : Pos}
theorem di_any (h : DE X .fz e te f) : DI false X .fz tg e (iAny X.K te) (fI f) := ⟨pi_any h.p, sem_any h.s⟩
theorem di_anyK (K' : PySem.W.Frag) (h : DE X .fz e te f) (hK : X.K = K' := by rfl) : DI false X .fz tg e (iAny K' te) (fI f) := by
  subst hK
  exact di_any (h := h)
theorem di_anyP (h : DE X m e te f) : DI false X .pk tg e (iAny X.K te) (fI f) := ⟨pi_any h.p, sem_anyP h.s⟩
theorem di_anyPK (K' : PySem.W.Frag) (h : DE X m e te f) (hK : X.K = K' := by rfl) : DI false X .pk tg e (iAny K' te) (fI f) := by
  subst hK
  exact di_anyP (h := h)
/-! ranges -/
def rgD (lo : Int) (n : Nat) : List D := (List.range n).map fun i => .int (lo + (i : Nat))
theorem rgD_at {lo : Int} {n i : Nat} {d : D} (h : (rgD lo n)[i]? = some d) : d = .int (lo + (i : Nat)) := by
  unfold rgD at h
  rw [List.getElem?_map] at h
  obtain ⟨j, h1, rfl⟩ := Option.map_eq_some_iff.mp h
  obtain ⟨h2, h3⟩ := List.getElem?_eq_some_iff.mp h1
  rw [List.getElem_range] at h3
  rw [h3]
theorem rgD_length (lo : Int) (n : Nat) : (rgD lo n).length = n := by unfold rgD; rw [List.length_map, List.length_range]
theorem itr_ok {K : PySem.W.Frag} {F : Hp} {lo : Int} {n : Nat} {st : Hp → Prop} : ItO false K (Itr lo n) F st (rgD lo n) :=
  ⟨fun i F' H' hi s1 s2 s3 => by rw [rgD_length] at hi; exact hi, fun i d F' H' x H3 hd s1 s2 s3 y => by
    obtain ⟨rfl, rfl⟩ := y
    rw [rgD_at hd]
    exact ⟨F', .refl s2, .inl (Rep.int _)⟩, fun i F' H' hi s1 s2 s3 => by rw [rgD_length] at hi; exact hi⟩
def rg1D : List D → Option (List D)
  | [.int j] => if -(2 ^ 62) ≤ j ∧ j < 2 ^ 62 then some (rgD 0 j.toNat) else none
  | _ => none
def rg2D : List D → Option (List D)
  | [.int i, .int j] => if -(2 ^ 62) ≤ i ∧ i < 2 ^ 62 ∧ -(2 ^ 62) ≤ j ∧ j < 2 ^ 62 then some (rgD i (j - i).toNat) else none
  | _ => none
def fIs (g : List D → Option (List D)) (fs : Rho → Option (List D)) : Rho → Option (List D) := fun ρ => (fs ρ).bind g
theorem sem_rg1 {K : PySem.W.Frag} (h : SemA K m ta fs) : SemI false K .fz (iRng1 ta) (fIs rg1D fs) := by
  intro B F H σ ρ ds R rel hf q
  obtain ⟨as, h1, h2⟩ := bind_some hf
  refine h B F H σ ρ as _ rel h1 fun vs F1 H1 x1 r1 => ?_
  match as, h2, r1 with
  | [.int j], h2, r1 =>
    obtain ⟨h3, rfl⟩ := if_some h2
    obtain ⟨v, rfl, rv⟩ := resA1 r1
    rw [rv.int]
    exact ⟨j, rfl, h3.1, h3.2, q _ F1 H1 x1 itr_ok⟩
theorem sem_rg2 {K : PySem.W.Frag} (h : SemA K m ta fs) : SemI false K .fz (iRng2 ta) (fIs rg2D fs) := by
  intro B F H σ ρ ds R rel hf q
  obtain ⟨as, h1, h2⟩ := bind_some hf
  refine h B F H σ ρ as _ rel h1 fun vs F1 H1 x1 r1 => ?_
  match as, h2, r1 with
  | [.int i, .int j], h2, r1 =>
    obtain ⟨h3, rfl⟩ := if_some h2
    obtain ⟨v, w, rfl, rv, rw'⟩ := resA2 r1
    rw [rv.int, rw'.int]
    exact ⟨i, j, rfl, h3, q _ F1 H1 x1 itr_ok⟩
theorem di_rg1 {a : Expr} (hg : Gl X "range") (hm : X.mg "range" = none) (ha : DA X m [a] ta fs) (hs : starEach [a] X.env = [(false, eval a X.env)] := by rfl) : DI false X .fz tg (.Call (.Name "range" p) [a] [] pos) (iRng1 ta) (fIs rg1D fs) := ⟨pi_range1 hg hm ha.p hs, sem_rg1 ha.s⟩
theorem di_rg2 {a b : Expr} (hg : Gl X "range") (hm : X.mg "range" = none) (ha : DA X m [a, b] ta fs) (hs : starEach [a, b] X.env = [(false, eval a X.env), (false, eval b X.env)] := by rfl) (hs2 : starEach [b] X.env = [(false, eval b X.env)] := by rfl) :
    DI false X .fz tg (.Call (.Name "range" p) [a, b] [] pos) (iRng2 ta) (fIs rg2D fs) := ⟨pi_range2 hg hm ha.p hs hs2, sem_rg2 ha.s⟩
/-! reversed -/
theorem rev_at {α : Type} {l : List α} {i : Nat} (h : i < l.length) : l.reverse[i]? = l[l.length - 1 - i]? := by
  rw [List.getElem?_reverse h]
theorem itv_ok {K : PySem.W.Frag} {F : Hp} {a : Addr} {xs : List V} {ds : List D} {st : Hp → Prop} (hs : ∀ H, Same F H → st H → SqL K H a xs) (r : RepA K F xs ds) : ItO false K (Itv K a xs.length) F st ds.reverse :=
  ⟨fun i F' H' hi s1 s2 s3 => by
    rw [List.length_reverse] at hi
    have hi' : i < xs.length := by rw [r.length]; exact hi
    exact ⟨hi', xs, xs[xs.length - 1 - i]'(by omega), hs H' (s1.trans s2) s3, List.getElem?_eq_getElem _⟩, fun i d F' H' x H3 hd s1 s2 s3 y => by
    obtain ⟨rfl, y⟩ := y
    have hi : i < ds.length := by have := (List.getElem?_eq_some_iff.mp hd).1; rwa [List.length_reverse] at this
    rw [rev_at hi, ← r.length] at hd
    obtain ⟨x', h1, h2⟩ := r.get hd
    have e := y xs (hs _ (s1.trans s2) s3)
    rw [h1] at e
    cases e
    exact ⟨F', .refl s2, .inl (h2.mono s1)⟩, fun i F' H' hi s1 s2 s3 => by rw [List.length_reverse, ← r.length] at hi; exact hi⟩
theorem itvT_ok {K : PySem.W.Frag} {F : Hp} {a : Addr} {xs : List V} {ds : List D} {st : Hp → Prop} (hs : ∀ H, Same F H → st H → SqT K H a xs) (r : RepA K F xs ds) : ItO false K (RT.ItvT K a xs.length) F st ds.reverse :=
  ⟨fun i F' H' hi s1 s2 s3 => by
    rw [List.length_reverse] at hi
    have hi' : i < xs.length := by rw [r.length]; exact hi
    exact ⟨hi', xs, xs[xs.length - 1 - i]'(by omega), hs H' (s1.trans s2) s3, List.getElem?_eq_getElem _⟩, fun i d F' H' x H3 hd s1 s2 s3 y => by
    obtain ⟨rfl, y⟩ := y
    have hi : i < ds.length := by have := (List.getElem?_eq_some_iff.mp hd).1; rwa [List.length_reverse] at this
    rw [rev_at hi, ← r.length] at hd
    obtain ⟨x', h1, h2⟩ := r.get hd
    have e := y xs (hs _ (s1.trans s2) s3)
    rw [h1] at e
    cases e
    exact ⟨F', .refl s2, .inl (h2.mono s1)⟩, fun i F' H' hi s1 s2 s3 => by rw [List.length_reverse, ← r.length] at hi; exact hi⟩
def revD (d : D) : Option (List D) := (itemsD d).map List.reverse
def fRev (f : Rho → Option D) : Rho → Option (List D) := fun ρ => (f ρ).bind revD
theorem sem_rev {K : PySem.W.Frag} (h : SemE K .fz te f) : SemI false K .fz (RT.iRevA K te) (fRev f) := by
  intro B F H σ ρ ds R rel hf q
  obtain ⟨d, h1, h2⟩ := bind_some hf
  obtain ⟨es, h3, rfl⟩ := Option.map_eq_some_iff.mp h2
  refine h B F H σ ρ d _ rel h1 fun v F1 H1 x1 r1 => ?_
  cases d with
  | list es =>
    cases h3
    cases r1 with
    | lst hs hr => exact ⟨_, _, rfl, .inl ⟨x1.s.seq hs, q _ F1 H1 x1 (itv_ok (fun H s _ => s.seq hs) hr)⟩⟩
  | tuple es =>
    cases h3
    cases r1 with
    | tup hs hr => exact ⟨_, _, rfl, .inr ⟨(hs.mono x1.s).sq, q _ F1 H1 x1 (itvT_ok (fun H s _ => (hs.mono s).sq) hr)⟩⟩
  | _ => cases h3
theorem di_rev (hg : Gl X "reversed") (hm : X.mg "reversed" = none) (he : DE X .fz e te f) (hs : starEach [e] X.env = (false, eval e X.env) :: starEach [] X.env := by rfl) : DI false X .fz tg (.Call (.Name "reversed" p) [e] [] pos) (RT.iRevA X.K te) (fRev f) := ⟨RT.pi_revA hg hm he.p hs, sem_rev he.s⟩
theorem di_revK (K' : PySem.W.Frag) (hg : Gl X "reversed") (hm : X.mg "reversed" = none) (he : DE X .fz e te f) (hs : starEach [e] X.env = (false, eval e X.env) :: starEach [] X.env := by rfl) (hK : X.K = K' := by rfl) : DI false X .fz tg (.Call (.Name "reversed" p) [e] [] pos) (RT.iRevA K' te) (fRev f) := by
  subst hK
  exact di_rev (hg := hg) (hm := hm) (he := he) (hs := hs)
/-! zip -/
theorem pair_ok {K : PySem.W.Frag} {F' H' : Hp} {T : Addr} {x y : V} {dx dy : D} (s2 : Same F' H') (hT : H' T = none) (hx : Rep K F' x dx) (hy : Rep K F' y dy) : ∃ F3, Ext F' H' F3 (upd H' T (.tup [x, y])) ∧ RepB true K F3 (.ref T) (.tuple [dx, dy]) := by
  have e := ext_new (o := .tup [x, y]) (Ext.refl s2) hT
  exact ⟨_, e, .inr ⟨rfl, T, [x, y], _, rfl, rfl, .of upd_same, .cons (hx.mono e.f) (.cons (hy.mono e.f) .nil)⟩⟩
def zipL : List D → List D → List D
  | d :: ds, e :: es => .tuple [d, e] :: zipL ds es
  | _, _ => []
theorem zipL_at : ∀ {ds es : List D} {i : Nat} {d : D}, (zipL ds es)[i]? = some d → ∃ x y, ds[i]? = some x ∧ es[i]? = some y ∧ d = .tuple [x, y]
  | [], _, _, _, h => by simp [zipL] at h
  | _ :: _, [], _, _, h => by simp [zipL] at h
  | x :: ds, y :: es, 0, d, h => by simp [zipL] at h; subst h; exact ⟨x, y, rfl, rfl, rfl⟩
  | x :: ds, y :: es, i + 1, d, h => by
    have h' : (zipL ds es)[i]? = some d := by simpa [zipL] using h
    obtain ⟨a, b, h1, h2, h3⟩ := zipL_at h'
    exact ⟨a, b, by simpa using h1, by simpa using h2, h3⟩
theorem zipL_length : ∀ (ds es : List D), (zipL ds es).length = min ds.length es.length
  | [], _ => by simp [zipL]
  | _ :: _, [] => by simp [zipL]
  | x :: ds, y :: es => by simp only [zipL, List.length_cons, zipL_length ds es]; omega
theorem itz_ok {K : PySem.W.Frag} {F : Hp} {a b : Addr} {xs ys : List V} {ds es : List D} {st : Hp → Prop} (hs : ∀ H, Same F H → st H → SqL K H a xs) (hs2 : ∀ H, Same F H → st H → SqL K H b ys) (r : RepA K F xs ds) (r2 : RepA K F ys es) : ItO true K (Itz K a b) F st (zipL ds es) :=
  ⟨fun i F' H' hi s1 s2 s3 => by
    obtain ⟨d, e, h1, h2, _⟩ := zipL_at (List.getElem?_eq_getElem hi)
    obtain ⟨x, h3, _⟩ := r.get h1
    obtain ⟨y, h4, _⟩ := r2.get h2
    exact ⟨xs, ys, x, y, hs H' (s1.trans s2) s3, hs2 H' (s1.trans s2) s3, h3, h4⟩, fun i d F' H' v H3 hd s1 s2 s3 yy => by
    obtain ⟨T, x, y, rfl, hT, rfl, y1, y2⟩ := yy
    obtain ⟨dx, dy, h1, h2, rfl⟩ := zipL_at hd
    obtain ⟨x', h3, h5⟩ := r.get h1
    obtain ⟨y', h4, h6⟩ := r2.get h2
    have e1 := y1 xs (hs H' (s1.trans s2) s3)
    have e2 := y2 ys (hs2 H' (s1.trans s2) s3)
    rw [h3] at e1
    rw [h4] at e2
    cases e1
    cases e2
    exact pair_ok s2 hT (h5.mono s1) (h6.mono s1), fun i F' H' hi s1 s2 s3 => by
    rw [zipL_length] at hi
    exact ⟨xs, ys, hs H' (s1.trans s2) s3, hs2 H' (s1.trans s2) s3, by rw [r.length, r2.length]; omega⟩⟩
theorem itzT_ok {K : PySem.W.Frag} {F : Hp} {a b : Addr} {xs ys : List V} {ds es : List D} {st : Hp → Prop} (hs : ∀ H, Same F H → st H → SqT K H a xs) (hs2 : ∀ H, Same F H → st H → SqT K H b ys) (r : RepA K F xs ds) (r2 : RepA K F ys es) : ItO true K (RZ.ItzT K a b) F st (zipL ds es) :=
  ⟨fun i F' H' hi s1 s2 s3 => by
    obtain ⟨d, e, h1, h2, _⟩ := zipL_at (List.getElem?_eq_getElem hi)
    obtain ⟨x, h3, _⟩ := r.get h1
    obtain ⟨y, h4, _⟩ := r2.get h2
    exact ⟨xs, ys, x, y, hs H' (s1.trans s2) s3, hs2 H' (s1.trans s2) s3, h3, h4⟩, fun i d F' H' v H3 hd s1 s2 s3 yy => by
    obtain ⟨T, x, y, rfl, hT, rfl, y1, y2⟩ := yy
    obtain ⟨dx, dy, h1, h2, rfl⟩ := zipL_at hd
    obtain ⟨x', h3, h5⟩ := r.get h1
    obtain ⟨y', h4, h6⟩ := r2.get h2
    have e1 := y1 xs (hs H' (s1.trans s2) s3)
    have e2 := y2 ys (hs2 H' (s1.trans s2) s3)
    rw [h3] at e1
    rw [h4] at e2
    cases e1
    cases e2
    exact pair_ok s2 hT (h5.mono s1) (h6.mono s1), fun i F' H' hi s1 s2 s3 => by
    rw [zipL_length] at hi
    exact ⟨xs, ys, hs H' (s1.trans s2) s3, hs2 H' (s1.trans s2) s3, by rw [r.length, r2.length]; omega⟩⟩
def zipD : List D → Option (List D)
  | [.list ds, .list es] => some (zipL ds es)
  | [.tuple ds, .tuple es] => some (zipL ds es)
  | _ => none
theorem sem_zip {K : PySem.W.Frag} (h : SemA K .fz ta fs) : SemI true K .fz (RZ.iZipA K ta) (fIs zipD fs) := by
  intro B F H σ ρ ds R rel hf q
  obtain ⟨as, h1, h2⟩ := bind_some hf
  refine h B F H σ ρ as _ rel h1 fun vs F1 H1 x1 r1 => ?_
  match as, h2, r1 with
  | [.list ds, .list es], h2, r1 =>
    cases h2
    obtain ⟨v, w, rfl, rv, rw'⟩ := resA2 r1
    cases rv with
    | lst hs hr =>
      cases rw' with
      | lst hs2 hr2 => exact ⟨_, _, _, _, rfl, .inl ⟨x1.s.seq hs, x1.s.seq hs2, q _ F1 H1 x1 (itz_ok (fun H s _ => s.seq hs) (fun H s _ => s.seq hs2) hr hr2)⟩⟩
  | [.tuple ds, .tuple es], h2, r1 =>
    cases h2
    obtain ⟨v, w, rfl, rv, rw'⟩ := resA2 r1
    cases rv with
    | tup hs hr =>
      cases rw' with
      | tup hs2 hr2 => exact ⟨_, _, _, _, rfl, .inr ⟨(hs.mono x1.s).sq, (hs2.mono x1.s).sq, q _ F1 H1 x1 (itzT_ok (fun H s _ => (hs.mono s).sq) (fun H s _ => (hs2.mono s).sq) hr hr2)⟩⟩
theorem di_zip {a b : Expr} {elts : List Expr} {kk : Nat} {tpos : Pos} (hg : Gl X "zip") (hm : X.mg "zip" = none) (ha : DA X .fz [a, b] ta fs) (hs : starEach [a, b] X.env = (false, eval a X.env) :: starEach [b] X.env := by rfl) (hpl : (backTo pos (starEach [b] X.env)).any (·.1) = false := by rfl) :
    DI true X .fz (.Tuple elts kk tpos) (.Call (.Name "zip" p) [a, b] [] pos) (RZ.iZipA X.K ta) (fIs zipD fs) := ⟨RZ.pi_zipA hg hm ha.p hs hpl, sem_zip ha.s⟩
theorem di_zipK (K' : PySem.W.Frag) {a b : Expr} {elts : List Expr} {kk : Nat} {tpos : Pos} (hg : Gl X "zip") (hm : X.mg "zip" = none) (ha : DA X .fz [a, b] ta fs) (hs : starEach [a, b] X.env = (false, eval a X.env) :: starEach [b] X.env := by rfl) (hpl : (backTo pos (starEach [b] X.env)).any (·.1) = false := by rfl) (hK : X.K = K' := by rfl) : DI true X .fz (.Tuple elts kk tpos) (.Call (.Name "zip" p) [a, b] [] pos) (RZ.iZipA K' ta) (fIs zipD fs) := by
  subst hK
  exact di_zip (hg := hg) (hm := hm) (ha := ha) (hs := hs) (hpl := hpl)
end
/-! ### targets -/
def SemG (w : Bool) (K : PySem.W.Frag) (W : List Nat) (g : TG) (s : D → Rho → Option Rho) : Prop :=
  ∀ (B : Bs) (F H : Hp) (σ : L2.St) (ρ ρ' : Rho) (v : V) (d : D) (Q : L2.St → Hp → Prop), Rel K B F H σ ρ → RepB w K F v d → s d ρ = some ρ' → (∀ σ', Rel K B F H σ' ρ' → (∀ j, j ∉ W → σ'[j]? = σ[j]?) → σ'.length = σ.length → Q σ' H) → g v σ H Q
structure DG (w : Bool) (X : Cx) (W : List Nat) (tg : Expr) (g : TG) (s : D → Rho → Option Rho) : Prop where
  p : PG X tg g
  s : SemG w X.K W g s
def SemGs (K : PySem.W.Frag) (W : List Nat) (g : TGs) (s : List D → Rho → Option Rho) : Prop :=
  ∀ (B : Bs) (F H : Hp) (σ : L2.St) (ρ ρ' : Rho) (vs : List V) (ds : List D) (Q : L2.St → Hp → Prop), Rel K B F H σ ρ → RepA K F vs ds → s ds ρ = some ρ' → (∀ σ', Rel K B F H σ' ρ' → (∀ j, j ∉ W → σ'[j]? = σ[j]?) → σ'.length = σ.length → Q σ' H) → g vs σ H Q
structure DGs (X : Cx) (W : List Nat) (tgs : List Expr) (g : TGs) (s : List D → Rho → Option Rho) : Prop where
  p : PGs X tgs g
  s : SemGs X.K W g s
def sN (i : Nat) : D → Rho → Option Rho := fun d ρ => some (ρ.set i (.im d))
def sNil : List D → Rho → Option Rho := fun ds ρ => match ds with
  | [] => some ρ
  | _ => none
def sCons (s : D → Rho → Option Rho) (ss : List D → Rho → Option Rho) : List D → Rho → Option Rho := fun ds ρ => match ds with
  | d :: ds => (s d ρ).bind (ss ds)
  | [] => none
def sT (n : Nat) (ss : List D → Rho → Option Rho) : D → Rho → Option Rho := fun d ρ => match d with
  | .tuple ds => if ds.length = n then ss ds ρ else none
  | _ => none
section
variable {X : Cx} {pos : Pos} {W W1 W2 : List Nat}
theorem dg_n {i : Nat} {x : Str} (hN : X.N.Nodup) (hi : X.N[i]? = some x := by rfl) (hx : Loc X.env.scope x := by first | exact Or.inl rfl | exact Or.inr rfl) (hf : X.fn x = true ∨ X.env.scope.names.lookup x = some .local := by first | exact .inl rfl | exact .inr rfl) : DG false X [i] (.Name x pos) (gName i) (sN i) :=
  ⟨pg_name hN hi hx hf, fun B F H σ ρ ρ' v d Q r hv hs q => by cases hs; exact q _ (r.setIm hv.strong) set_keep (by simp)⟩
theorem dgs_nil : DGs X [] [] gNil sNil := ⟨pgs_nil, fun B F H σ ρ ρ' vs ds Q r hv hs q => by
  cases hv with
  | nil => cases hs; exact ⟨rfl, q σ r (fun _ _ => rfl) rfl⟩
  | cons h t => cases hs⟩
theorem dgs_cons {e : Expr} {es : List Expr} {t : TG} {u : TGs} {s : D → Rho → Option Rho} {ss : List D → Rho → Option Rho} (h1 : DG false X W1 e t s) (h2 : DGs X W2 es u ss)
    (hs : (assignEach (e :: es) X.env).map (·.2) = assign e X.env :: (assignEach es X.env).map (·.2) := by rfl) : DGs X (W1 ++ W2) (e :: es) (gCons t u) (sCons s ss) := ⟨pgs_cons h1.p h2.p hs, fun B F H σ ρ ρ' vs ds Q r hv hs q => by
  cases hv with
  | nil => cases hs
  | @cons v vs d ds h t' =>
    obtain ⟨ρ1, e1, e2⟩ := bind_some (show (s d ρ).bind (ss ds) = some ρ' from hs)
    refine ⟨v, vs, rfl, h1.s B F H σ ρ ρ1 v d _ r (.inl h) e1 fun σ1 r1 k1 l1 => ?_⟩
    exact h2.s B F H σ1 ρ1 ρ' vs ds Q r1 t' e2 fun σ2 r2 k2 l2 => q σ2 r2 (fun j hj => (k2 j fun z => hj (List.mem_append_right _ z)).trans (k1 j fun z => hj (List.mem_append_left _ z))) (l2.trans l1)⟩
theorem dg_t {w : Bool} {es : List Expr} {k : Nat} {t : TGs} {n : Nat} {ss : List D → Rho → Option Rho} (h : DGs X W es t ss) (hc : X.calm = true := by rfl) (hn : (assignEach es X.env).length = n := by rfl) (hst : (assignEach es X.env).findIdx? (·.1) = none := by rfl) : DG w X W (.Tuple es k pos) (gTup X.K n t) (sT n ss) :=
  ⟨pg_tup hc h.p hn hst, fun B F H σ ρ ρ' v d Q r hv hs q => by
    have key : ∀ (a : Addr) (xs : List V) (ds : List D), SqT X.K H a xs → RepA X.K F xs ds → sT n ss (.tuple ds) ρ = some ρ' → gTup X.K n t (.ref a) σ H Q := fun a xs ds sq ra hs => by
      have hs' : (if ds.length = n then ss ds ρ else none) = some ρ' := hs
      by_cases hl : ds.length = n
      · rw [if_pos hl] at hs'
        exact ⟨a, xs, rfl, sq, by rw [ra.length]; exact hl, h.s B F H σ ρ ρ' xs ds Q r ra hs' q⟩
      · rw [if_neg hl] at hs'; cases hs'
    rcases hv with hv | ⟨_, a, xs, ds, rfl, rfl, sq, ra⟩
    · cases d with
      | tuple ds =>
        cases hv with
        | tup h1 h2 => exact key _ _ _ (h1.mono r.fh).sq h2 hs
      | _ => cases hs
    · exact key a xs ds (r.fh.sqT sq) ra hs⟩
theorem dg_tK (K' : PySem.W.Frag) {w : Bool} {es : List Expr} {k : Nat} {t : TGs} {n : Nat} {ss : List D → Rho → Option Rho} (h : DGs X W es t ss) (hc : X.calm = true := by rfl) (hn : (assignEach es X.env).length = n := by rfl) (hst : (assignEach es X.env).findIdx? (·.1) = none := by rfl) (hK : X.K = K' := by rfl) : DG w X W (.Tuple es k pos) (gTup K' n t) (sT n ss) := by
  subst hK
  exact dg_t (h := h) (hc := hc) (hn := hn) (hst := hst)
end
theorem Rel.rebase {K : PySem.W.Frag} {B : Bs} {F H : Hp} {σ : L2.St} {ρ : Rho} (r : Rel K B F H σ ρ) : Rel K { F0 := F, G := B.G } F H σ ρ := ⟨r.len, .refl _, r.g, r.fh, .refl, r.sl, r.sep⟩
theorem Rel.unbase {K : PySem.W.Frag} {B : Bs} {F H F' H' : Hp} {σ σ' : L2.St} {ρ ρ' : Rho} (r : Rel K B F H σ ρ) (r' : Rel K { F0 := F, G := B.G } F' H' σ' ρ') : Rel K B F' H' σ' ρ' :=
  ⟨r'.len, r.f0.trans r'.f0, r'.g, r'.fh, fun a q => (r'.nw a q).elim (r.nw a) .inr, r'.sl, r'.sep⟩
theorem Rel.unrt {K : PySem.W.Frag} {m : Md} {B : Bs} {F H F' H' : Hp} {σ : L2.St} {ρ : Rho} {v : V} {d : D} (r : Rel K B F H σ ρ) (r' : RtOk K m { F0 := F, G := B.G } F' H' v d) : RtOk K m B F' H' v d :=
  ⟨r.f0.trans r'.1, r'.2.1, r'.2.2.1, fun a q => (r'.2.2.2.1 a q).elim (r.nw a) .inr, r'.2.2.2.2⟩
/-! ### for -/
/-- the loop over data -/
def forL (step : D → Bd) : List D → Bd
  | [], ρ => some (.nx ρ)
  | d :: ds, ρ => (step d ρ).bind fun o => match o with
    | .nx ρ' => forL step ds ρ'
    | .ct ρ' => forL step ds ρ'
    | .bk ρ' => some (.nx ρ')
    | .rt d => some (.rt d)
def turnD (s : D → Rho → Option Rho) (b : Bd) : D → Bd := fun d ρ => (s d ρ).bind b
def bFor (f : Rho → Option (List D)) (s : D → Rho → Option Rho) (b : Bd) : Bd := fun ρ => (f ρ).bind fun ds => forL (turnD s b) ds ρ
theorem sem_for {w : Bool} {K : PySem.W.Frag} {m : Md} {W1 W2 : List Nat} {wi : TI} {g : TG} {tb : TS} {f : Rho → Option (List D)} {s : D → Rho → Option Rho} {b : Bd} (hi : SemI w K .fz wi f) (hg : SemG w K W1 g s) (hb : SemS K m W2 tb b) : SemS K m (W1 ++ W2) (tFor wi g tb) (bFor f s b) := by
  intro B F H σ ρ o D r hf e
  obtain ⟨ds, h1, h2⟩ := bind_some hf
  refine hi B F H σ ρ ds _ r h1 fun J F1 H1 x1 it => ?_
  refine ⟨fun i m σ' H' => m = ds.length - i ∧ i ≤ ds.length ∧ ∃ F' ρ', Rel K B F' H' σ' ρ' ∧ Same F1 F' ∧ (∀ j, j ∉ W1 ++ W2 → σ'[j]? = σ[j]?) ∧ forL (turnD s b) (ds.drop i) ρ' = some o, ⟨ds.length, by simp, Nat.zero_le _, F1, ρ, r.ext x1, .refl _, fun _ _ => rfl, by simpa using h2⟩, ?_⟩
  rintro i mm σ1 H2 ⟨rfl, hil, F2, ρ2, r2, s2, k2, hf2⟩
  by_cases hlt : i < ds.length
  · rw [List.drop_eq_getElem_cons hlt] at hf2
    obtain ⟨o1, e1, e2⟩ := bind_some (show (turnD s b ds[i] ρ2).bind _ = some o from hf2)
    obtain ⟨ρ3, e3, e4⟩ := bind_some (show (s ds[i] ρ2).bind b = some o1 from e1)
    refine .inr ⟨it.go i F2 H2 hlt s2 r2.fh trivial, fun σ' H' => i + 1 ≤ ds.length ∧ ∃ F' ρ', Rel K B F' H' σ' ρ' ∧ Same F1 F' ∧ (∀ j, j ∉ W1 ++ W2 → σ'[j]? = σ[j]?) ∧ forL (turnD s b) (ds.drop (i + 1)) ρ' = some o, fun σ' H' hn => ⟨ds.length - (i + 1), by omega, rfl, hn⟩, fun x H3 y => ?_⟩
    obtain ⟨F3, x3, rb⟩ := it.yld i ds[i] F2 H2 x H3 (List.getElem?_eq_getElem hlt) s2 r2.fh trivial y
    refine hg B F3 H3 σ1 ρ2 ρ3 x ds[i] _ (r2.ext x3) rb e3 fun σ3 r3 k3 _ => ?_
    have k13 : ∀ j, j ∉ W1 ++ W2 → σ3[j]? = σ[j]? := fun j hj => (k3 j fun z => hj (List.mem_append_left _ z)).trans (k2 j hj)
    have s3 : Same F1 F3 := s2.trans x3.f
    have key : ∀ {σ4 : L2.St}, (∀ j, j ∉ W2 → σ4[j]? = σ3[j]?) → ∀ j, j ∉ W1 ++ W2 → σ4[j]? = σ[j]? := fun k4 j hj => (k4 j fun z => hj (List.mem_append_right _ z)).trans (k13 j hj)
    -- the body, with the frozen part remembered
    refine hb { F0 := F3, G := B.G } F3 H3 σ3 ρ3 o1 _ r3.rebase e4 ?_
    cases o1 with
    | nx ρ4 => exact fun σ4 F4 H4 r4 k4 => ⟨hlt, F4, ρ4, r3.unbase r4, s3.trans r4.f0, key k4, e2⟩
    | ct ρ4 => exact fun σ4 F4 H4 r4 k4 => ⟨hlt, F4, ρ4, r3.unbase r4, s3.trans r4.f0, key k4, e2⟩
    | bk ρ4 => cases e2; exact fun σ4 F4 H4 r4 k4 => e σ4 F4 H4 (r3.unbase r4) (key k4)
    | rt d => cases e2; exact fun v F4 H4 r4 => e v F4 H4 (r3.unrt r4)
  · have ei : i = ds.length := by omega
    subst ei
    rw [List.drop_length] at hf2
    cases hf2
    exact .inl ⟨it.stop _ F2 H2 (Nat.le_refl _) s2 r2.fh trivial, e σ1 F2 H2 r2 k2⟩
section
variable {X : Cx} {m : Md} {W W1 W2 : List Nat} {pos : Pos} {w : Bool}
theorem ds_for {tg iter : Expr} {body : List Stmt} {wi : TI} {g : TG} {tb : TS} {f : Rho → Option (List D)} {s : D → Rho → Option Rho} {b : Bd} (hi : DI w X .fz tg iter wi f) (hg : DG w X W1 tg g s) (hb : DSs X m W2 body tb b)
    (hp : PassesOwn (model X.prog X.w) X.A X.env X.xe := by exact PassesOwn.never) (hc : X.calm = true := by rfl) (hs : ∀ x, foldedSetIterable iter X.env x = pure x := by intro _; rfl) : DS X m (W1 ++ W2) (.For tg iter body [] pos) (tFor wi g tb) (bFor f s b) :=
  ⟨ps_for hp hc hi.p hg.p hb.p hs, sem_for hi.s hg.s hb.s⟩
/-! over an owned list that the body may lengthen but not rebind -/
def forG (j : Nat) (step : D → Bd) : Nat → Nat → Bd
  | 0, _, _ => none
  | n + 1, i, ρ => match ρ[j]? with
    | some (.ow (.list ds)) => match ds[i]? with
      | none => some (.nx ρ)
      | some d => (step d ρ).bind fun o => match o with
        | .nx ρ' => forG j step n (i + 1) ρ'
        | .ct ρ' => forG j step n (i + 1) ρ'
        | .bk ρ' => some (.nx ρ')
        | .rt d => some (.rt d)
    | _ => none
def bForG (N j : Nat) (s : D → Rho → Option Rho) (b : Bd) : Bd := fun ρ => forG j (turnD s b) N 0 ρ
theorem sem_forG {K : PySem.W.Frag} {N j : Nat} {g : TG} {tb : TS} {s : D → Rho → Option Rho} {b : Bd} (hg : SemG false K W1 g s) (hb : SemS K m W2 tb b) (h1 : j ∉ W1) (h2 : j ∉ W2) : SemS K m (W1 ++ W2) (tFor (iList K (tVar j)) g tb) (bForG N j s b) := by
  intro B F H σ ρ o D r hf e
  obtain ⟨a, ha⟩ : ∃ a, ∃ ds, ρ[j]? = some (.ow (.list ds)) ∧ σ[j]? = some (some (.ref a)) := by
    cases N with
    | zero => cases hf
    | succ N =>
      have hf' : (match ρ[j]? with
        | some (.ow (.list ds)) => match ds[0]? with
          | none => some (.nx ρ)
          | some d => (turnD s b d ρ).bind fun o => match o with
            | .nx ρ' => forG j (turnD s b) N (0 + 1) ρ'
            | .ct ρ' => forG j (turnD s b) N (0 + 1) ρ'
            | .bk ρ' => some (.nx ρ')
            | .rt d => some (.rt d)
        | _ => none) = some o := hf
      split at hf'
      · rename_i ds e1
        obtain ⟨oo, e2, c, rfl, _⟩ := r.at e1
        exact ⟨c, ds, e1, e2⟩
      · cases hf'
  obtain ⟨ds0, e0, eσ⟩ := ha
  have lst : ∀ {B' : Bs} {F' H' : Hp} {σ' : L2.St} {ρ' : Rho} {ds : List PyData}, Rel K B' F' H' σ' ρ' → σ'[j]? = some (some (.ref a)) → ρ'[j]? = some (.ow (.list ds)) → ∃ vs, H' a = some (.lst vs) ∧ RepA K F' vs ds := fun r' eσ' e' => by
    obtain ⟨oo, e2, c, rfl, _, _, w⟩ := r'.at e'
    rw [eσ'] at e2
    cases e2
    exact w
  refine ⟨_, eσ, a, rfl, ?_, ?_⟩
  · obtain ⟨vs, h, _⟩ := lst r eσ e0
    exact ⟨vs, .of h⟩
  refine ⟨fun i mm σ' H' => ∃ F' ρ', Rel K B F' H' σ' ρ' ∧ (∀ l, l ∉ W1 ++ W2 → σ'[l]? = σ[l]?) ∧ forG j (turnD s b) mm i ρ' = some o, ⟨N, F, ρ, r, fun _ _ => rfl, hf⟩, ?_⟩
  rintro i mm σ1 H2 ⟨F2, ρ2, r2, k2, hf2⟩
  have jW : j ∉ W1 ++ W2 := fun z => (List.mem_append.mp z).elim h1 h2
  have eσ1 : σ1[j]? = some (some (.ref a)) := (k2 j jW).trans eσ
  cases mm with
  | zero => cases hf2
  | succ mm =>
    have hf' : (match ρ2[j]? with
      | some (.ow (.list ds)) => match ds[i]? with
        | none => some (.nx ρ2)
        | some d => (turnD s b d ρ2).bind fun o => match o with
          | .nx ρ' => forG j (turnD s b) mm (i + 1) ρ'
          | .ct ρ' => forG j (turnD s b) mm (i + 1) ρ'
          | .bk ρ' => some (.nx ρ')
          | .rt d => some (.rt d)
      | _ => none) = some o := hf2
    split at hf'
    · rename_i ds e1
      obtain ⟨vs, hv, rv⟩ := lst r2 eσ1 e1
      cases e3 : ds[i]? with
      | none =>
        rw [e3] at hf'
        cases hf'
        refine .inl ⟨⟨vs, .of hv, ?_⟩, e σ1 F2 H2 r2 k2⟩
        rw [rv.length]
        exact List.getElem?_eq_none_iff.mp e3
      | some d =>
        rw [e3] at hf'
        obtain ⟨o1, e4, e5⟩ := bind_some hf'
        obtain ⟨ρ3, e6, e7⟩ := bind_some (show (s d ρ2).bind b = some o1 from e4)
        obtain ⟨x, hx, rx⟩ := rv.get e3
        refine .inr ⟨⟨vs, x, .of hv, hx⟩, fun σ' H' => ∃ F' ρ', Rel K B F' H' σ' ρ' ∧ (∀ l, l ∉ W1 ++ W2 → σ'[l]? = σ[l]?) ∧ forG j (turnD s b) mm (i + 1) ρ' = some o, fun σ' H' hn => ⟨mm, Nat.lt_succ_self mm, hn⟩, fun y H3 yy => ?_⟩
        obtain ⟨rfl, yy⟩ := yy
        have ey := yy vs (.of hv)
        rw [hx] at ey
        cases ey
        refine hg B F2 _ σ1 ρ2 ρ3 x d _ r2 (.inl rx) e6 fun σ3 r3 k3 _ => ?_
        have k13 : ∀ l, l ∉ W1 ++ W2 → σ3[l]? = σ[l]? := fun l hl => (k3 l fun z => hl (List.mem_append_left _ z)).trans (k2 l hl)
        have key : ∀ {σ4 : L2.St}, (∀ l, l ∉ W2 → σ4[l]? = σ3[l]?) → ∀ l, l ∉ W1 ++ W2 → σ4[l]? = σ[l]? := fun k4 l hl => (k4 l fun z => hl (List.mem_append_right _ z)).trans (k13 l hl)
        refine hb B F2 _ σ3 ρ3 o1 _ r3 e7 ?_
        cases o1 with
        | nx ρ4 => exact fun σ4 F4 H4 r4 k4 => ⟨F4, ρ4, r4, key k4, e5⟩
        | ct ρ4 => exact fun σ4 F4 H4 r4 k4 => ⟨F4, ρ4, r4, key k4, e5⟩
        | bk ρ4 => cases e5; exact fun σ4 F4 H4 r4 k4 => e σ4 F4 H4 r4 (key k4)
        | rt d => cases e5; exact fun v F4 H4 r4 => e v F4 H4 r4
    · cases hf'
theorem ds_forG {N j : Nat} {x : Str} {tg : Expr} {p : Pos} {body : List Stmt} {g : TG} {tb : TS} {s : D → Rho → Option Rho} {b : Bd} (hg : DG false X W1 tg g s) (hb : DSs X m W2 body tb b) (h1 : j ∉ W1) (h2 : j ∉ W2)
    (hj : X.N[j]? = some x := by rfl) (hv : Vis X.env.scope x := by first | exact Or.inl rfl | exact Or.inr (Or.inl rfl) | exact Or.inr (Or.inr rfl)) (hd : (x == ("__debug__" : Str)) = false := by decide) (hcd : (x == ("__classdict__" : Str)) = false := by decide)
    (hp : PassesOwn (model X.prog X.w) X.A X.env X.xe := by exact PassesOwn.never) (hc : X.calm = true := by rfl) (hs : ∀ x', foldedSetIterable (.Name x p) X.env x' = pure x' := by intro _; rfl) : DS X m (W1 ++ W2) (.For tg (.Name x p) body [] pos) (tFor (iList X.K (tVar j)) g tb) (bForG N j s b) :=
  ⟨ps_for hp hc (pi_list (pe_var hj hv hd hcd)) hg.p hb.p hs, sem_forG hg.s hb.s h1 h2⟩
/-! ### while -/
def whileL (c : Rho → Option Bool) (b : Bd) : Nat → Bd
  | 0, _ => none
  | n + 1, ρ => (c ρ).bind fun k => if k = true then (b ρ).bind fun o => match o with
      | .nx ρ' => whileL c b n ρ'
      | .ct ρ' => whileL c b n ρ'
      | .bk ρ' => some (.nx ρ')
      | .rt d => some (.rt d)
    else some (.nx ρ)
theorem sem_while {K : PySem.W.Frag} {N : Nat} {c : TT} {tb : TS} {fc : Rho → Option Bool} {b : Bd} (hc : SemT K c fc) (hb : SemS K m W tb b) : SemS K m W (tWhile c tb) (whileL fc b N) := by
  intro B F H σ ρ o D r hf e
  refine ⟨fun mm σ' H' => ∃ F' ρ', Rel K B F' H' σ' ρ' ∧ (∀ l, l ∉ W → σ'[l]? = σ[l]?) ∧ whileL fc b mm ρ' = some o, ⟨N, F, ρ, r, fun _ _ => rfl, hf⟩, ?_⟩
  rintro mm σ1 H2 ⟨F2, ρ2, r2, k2, hf2⟩
  cases mm with
  | zero => cases hf2
  | succ mm =>
    obtain ⟨k, e1, e2⟩ := bind_some hf2
    refine hc B F2 H2 σ1 ρ2 k _ r2 e1 fun F3 H3 x3 => ?_
    cases k with
    | false =>
      cases e2
      exact e σ1 F3 H3 (r2.ext x3) k2
    | true =>
      obtain ⟨o1, e3, e4⟩ := bind_some e2
      refine ⟨fun σ' H' => ∃ F' ρ', Rel K B F' H' σ' ρ' ∧ (∀ l, l ∉ W → σ'[l]? = σ[l]?) ∧ whileL fc b mm ρ' = some o, fun σ' H' hn => ⟨mm, Nat.lt_succ_self mm, hn⟩, ?_⟩
      have key : ∀ {σ4 : L2.St}, (∀ l, l ∉ W → σ4[l]? = σ1[l]?) → ∀ l, l ∉ W → σ4[l]? = σ[l]? := fun k4 l hl => (k4 l hl).trans (k2 l hl)
      refine hb B F3 H3 σ1 ρ2 o1 _ (r2.ext x3) e3 ?_
      cases o1 with
      | nx ρ4 => exact fun σ4 F4 H4 r4 k4 => ⟨F4, ρ4, r4, key k4, e4⟩
      | ct ρ4 => exact fun σ4 F4 H4 r4 k4 => ⟨F4, ρ4, r4, key k4, e4⟩
      | bk ρ4 => cases e4; exact fun σ4 F4 H4 r4 k4 => e σ4 F4 H4 r4 (key k4)
      | rt d => cases e4; exact fun v F4 H4 r4 => e v F4 H4 r4
theorem ds_while {N : Nat} {c : Expr} {body : List Stmt} {tc : TT} {tb : TS} {fc : Rho → Option Bool} {b : Bd} (hc : DT X c tc fc) (hb : DSs X m W body tb b) (hp : PassesOwn (model X.prog X.w) X.A X.env X.xe := by exact PassesOwn.never) : DS X m W (.While c body [] pos) (tWhile tc tb) (whileL fc b N) :=
  ⟨ps_while hp hc.p hb.p, sem_while hc.s hb.s⟩
end
end Q
end

/-! part: Q7 -/
section
set_option Elab.async false
set_option linter.all false
set_option maxRecDepth 100000
set_option maxHeartbeats 4000000
set_option autoImplicit false
namespace Q
open PySem PySem.Spec PySem.Calls PyProof.Rows L2
/-! ### comprehensions -/
theorem wipe_at (σ : L2.St) (j : Nat) : ∀ vs : List Nat, (wipe σ vs)[j]? = if j ∈ vs then (if j < σ.length then some none else none) else σ[j]?
  | [] => by simp [wipe]
  | v :: vs => by
    unfold wipe
    by_cases e : j = v
    · subst e
      by_cases hl : j < σ.length
      · rw [List.getElem?_set_self (by rw [wipe_length]; exact hl)]
        simp [hl]
      · rw [List.getElem?_eq_none (by simp only [List.length_set, wipe_length]; omega)]
        simp [hl]
    · rw [List.getElem?_set_ne (Ne.symm e), wipe_at σ j vs]
      simp [e]
theorem wipe_back {σ σ2 : L2.St} {vs : List Nat} (hl : σ2.length = σ.length) (h : ∀ j, j ∉ vs → σ2[j]? = (wipe σ vs)[j]?) : wipe σ2 vs = wipe σ vs := by
  apply List.ext_getElem?
  intro j
  rw [wipe_at σ2, wipe_at σ, hl]
  by_cases hj : j ∈ vs
  · simp [hj]
  · simp only [hj, if_false]
    rw [h j hj, wipe_at σ]
    simp [hj]
def wipeR (ρ : Rho) : List Nat → Rho
  | [] => ρ
  | v :: vs => (wipeR ρ vs).set v .un
theorem Rel.setUn {K : PySem.W.Frag} {B : Bs} {F H : Hp} {σ : L2.St} {ρ : Rho} (r : Rel K B F H σ ρ) {i : Nat} {o : Option V} : Rel K B F H (σ.set i o) (ρ.set i .un) := by
  refine ⟨by simpa using r.len, r.f0, r.g, r.fh, r.nw, fun j o s h1 h2 => ?_, fun j k d1 d2 a hjk h1 h2 h3 h4 => ?_⟩
  · rcases set_at h2 with ⟨rfl, _, rfl⟩ | ⟨n2, h2⟩
    · trivial
    · rcases set_at h1 with ⟨e, _, _⟩ | ⟨_, h1⟩
      · exact absurd e n2
      · exact r.sl j o s h1 h2
  · rcases set_at h1 with ⟨_, _, e⟩ | ⟨n1, h1⟩
    · cases e
    rcases set_at h2 with ⟨_, _, e⟩ | ⟨n2, h2⟩
    · cases e
    rw [List.getElem?_set_ne (Ne.symm n1)] at h3
    rw [List.getElem?_set_ne (Ne.symm n2)] at h4
    exact r.sep j k d1 d2 a hjk h1 h2 h3 h4
theorem Rel.wiped {K : PySem.W.Frag} {B : Bs} {F H : Hp} {σ : L2.St} {ρ : Rho} (r : Rel K B F H σ ρ) : ∀ vs : List Nat, Rel K B F H (wipe σ vs) (wipeR ρ vs)
  | [] => r
  | v :: vs => (Rel.wiped r vs).setUn
/-- another object changes -/
theorem Rel.other {K : PySem.W.Frag} {B : Bs} {F H : Hp} {σ : L2.St} {ρ : Rho} (r : Rel K B F H σ ρ) {a : Addr} {o : HO} (hf : F a = none) (hg : B.G a = none) (hn : ∀ (j : Nat) (e : D), ρ[j]? = some (.ow e) → σ[j]? ≠ some (some (.ref a))) : Rel K B F (upd H a o) σ ρ := by
  refine ⟨r.len, r.f0, fun b u q => ?_, fun b u q => ?_, r.nw, fun j oo s h1 h2 => ?_, r.sep⟩
  · rw [upd_ne (ne_of_none q hg)]; exact r.g b u q
  · rw [upd_ne (ne_of_none q hf)]; exact r.fh b u q
  · have q := r.sl j oo s h1 h2
    cases s with
    | un => trivial
    | im d => exact q
    | ow d =>
      obtain ⟨c, rfl, f, g, w⟩ := q
      have hca : c ≠ a := fun z => by subst z; exact hn j d h2 h1
      refine ⟨c, rfl, f, g, ?_⟩
      cases d with
      | list ds =>
        obtain ⟨vs, w1, w2⟩ := w
        exact ⟨vs, by rw [upd_ne hca]; exact w1, w2⟩
      | _ => exact w.elim
def lcL (tt : D → Option Bool) (te : D → Option D) : List D → Option (List D)
  | [] => some []
  | d :: ds => (tt d).bind fun b => if b = true then (te d).bind fun y => (lcL tt te ds).map (y :: ·) else lcL tt te ds
def fLc (f : Rho → Option (List D)) (s : D → Rho → Option Rho) (ft : Rho → Option Bool) (fe : Rho → Option D) (vs : List Nat) : Rho → Option D := fun ρ => (f ρ).bind fun ds =>
  (lcL (fun d => (s d (wipeR ρ vs)).bind ft) (fun d => (s d (wipeR ρ vs)).bind fe) ds).bind fun rs => if rs.length ≤ sizeLine then some (.list rs) else none
theorem sem_lc {w : Bool} {K : PySem.W.Frag} {W1 vs : List Nat} {wi : TI} {g : TG} {tt : TT} {te : TE} {f : Rho → Option (List D)} {s : D → Rho → Option Rho} {ft : Rho → Option Bool} {fe : Rho → Option D} (hi : SemI w K .pk wi f) (hg : SemG w K W1 g s) (ht : SemT K tt ft) (he : SemE K .fz te fe) (hW : ∀ j ∈ W1, j ∈ vs) :
    SemE K .fr (tLc wi g tt te vs) (fLc f s ft fe vs) := by
  intro B F H σ ρ z Q rel hf q
  obtain ⟨ds, h1, h2⟩ := bind_some hf
  obtain ⟨rs, h3, h4⟩ := bind_some h2
  obtain ⟨h5, rfl⟩ := if_some h4
  refine hi B F H σ ρ ds _ rel h1 fun J F1 H1 x1 it => ?_
  intro L hL
  have r1 := (rel.ext x1).wiped vs
  have gL : B.G L = none := (rel.ext x1).g.free hL
  have nL : ∀ (j : Nat) (e : D), (wipeR ρ vs)[j]? = some (.ow e) → (wipe σ vs)[j]? ≠ some (some (.ref L)) := own_ne r1 hL
  refine ⟨fun i m H' => m = ds.length - i ∧ i ≤ ds.length ∧ ∃ F' acc rr r2, Rel K B F' H' (wipe σ vs) (wipeR ρ vs) ∧ Same F1 F' ∧ Same H1 H' ∧ New F1 F' H1 ∧ F' L = none ∧ H' L = some (.lst acc) ∧ RepA K F' acc rr ∧
    lcL (fun d => (s d (wipeR ρ vs)).bind ft) (fun d => (s d (wipeR ρ vs)).bind fe) (ds.drop i) = some r2 ∧ rs = rr ++ r2,
    ⟨ds.length, by simp, Nat.zero_le _, F1, [], [], rs, r1.other (x1.s.free hL) gL nL, .refl _, same_upd hL, .refl, x1.s.free hL, upd_same, .nil, by simpa using h3, rfl⟩, ?_⟩
  rintro i m H2 ⟨rfl, hil, F2, acc, rr, r2, rel2, f2, s2, n2, fL, hH, ra, hl, hrs⟩
  by_cases hlt : i < ds.length
  · rw [List.drop_eq_getElem_cons hlt] at hl
    obtain ⟨b, e1, e2⟩ := bind_some (show ((s ds[i] (wipeR ρ vs)).bind ft).bind _ = some r2 from hl)
    obtain ⟨ρ3, e3, e4⟩ := bind_some e1
    refine .inr ⟨it.go i F2 H2 hlt f2 rel2.fh s2, fun H' => i + 1 ≤ ds.length ∧ ∃ F' acc rr r2, Rel K B F' H' (wipe σ vs) (wipeR ρ vs) ∧ Same F1 F' ∧ Same H1 H' ∧ New F1 F' H1 ∧ F' L = none ∧ H' L = some (.lst acc) ∧ RepA K F' acc rr ∧
      lcL (fun d => (s d (wipeR ρ vs)).bind ft) (fun d => (s d (wipeR ρ vs)).bind fe) (ds.drop (i + 1)) = some r2 ∧ rs = rr ++ r2, fun H' hn => ⟨ds.length - (i + 1), by omega, rfl, hn⟩, fun x H3 y => ?_⟩
    obtain ⟨F3, x3, rb⟩ := it.yld i ds[i] F2 H2 x H3 (List.getElem?_eq_getElem hlt) f2 rel2.fh s2 y
    refine hg B F3 H3 (wipe σ vs) (wipeR ρ vs) ρ3 x ds[i] _ (rel2.ext x3) rb e3 fun σ3 r3 k3 l3 => ?_
    refine ⟨wipe_back (l3.trans (wipe_length σ vs)) fun j hj => k3 j fun z => hj (hW j z), ?_⟩
    refine ht B F3 H3 σ3 ρ3 b _ r3 e4 fun F4 H4 x4 => ?_
    have x34 := x3.trans x4
    -- the state behind the turn
    have back : ∀ {F5 H5 : Hp}, Ext F2 H2 F5 H5 → Rel K B F5 H5 (wipe σ vs) (wipeR ρ vs) ∧ Same F1 F5 ∧ Same H1 H5 ∧ New F1 F5 H1 ∧ F5 L = none ∧ H5 L = some (.lst acc) := fun {F5 H5} x => by
      refine ⟨rel2.ext x, f2.trans x.f, s2.trans x.h, fun a h => ?_, x.keepNone fL (by rw [hH]; exact fun z => nomatch z), x.h _ _ hH⟩
      exact (x.n a h).elim (n2 a) fun z => .inr (s2.free z)
    cases b with
    | false =>
      obtain ⟨a1, a2, a3, a4, a5, a6⟩ := back x34
      exact ⟨hlt, F4, acc, rr, r2, a1, a2, a3, a4, a5, a6, ra.mono x34.f, e2, hrs⟩
    | true =>
      obtain ⟨y0, e5, e6⟩ := bind_some (show ((s ds[i] (wipeR ρ vs)).bind fe).bind _ = some r2 from e2)
      obtain ⟨ρ4, e7, e8⟩ := bind_some e5
      rw [e3] at e7
      cases e7
      obtain ⟨r5, e9, rfl⟩ := Option.map_eq_some_iff.mp e6
      show te σ3 H4 _
      refine he B F4 H4 σ3 ρ3 y0 _ (r3.ext x4) e8 fun v F5 H5 x5 rv => ?_
      have x35 := x34.trans x5
      obtain ⟨a1, a2, a3, a4, a5, a6⟩ := back x35
      have hlen : acc.length < sizeLine := by
        have h6 : rs.length = rr.length + (r5.length + 1) := by rw [hrs]; simp
        have h7 := ra.length
        omega
      refine ⟨acc, a6, hlen, hlt, F5, acc ++ [v], rr ++ [y0], r5, a1.other a5 gL nL, a2, fun c u hc => ?_, a4, a5, upd_same, (ra.mono x35.f).append (.cons rv .nil), e9, by rw [hrs]; simp⟩
      rw [upd_ne (ne_of_none hc hL)]
      exact a3 _ _ hc
  · have ei : i = ds.length := by omega
    subst ei
    rw [List.drop_length] at hl
    cases hl
    rw [List.append_nil] at hrs
    subst hrs
    refine .inl ⟨it.stop _ F2 H2 (Nat.le_refl _) f2 rel2.fh s2, q _ F2 H2 ⟨x1.f.trans f2, x1.h.trans s2, fun a h => ?_, rel2.fh⟩ ⟨L, rfl, x1.h.free hL, fL, acc, hH, ra⟩⟩
    exact (n2 a h).elim (x1.n a) fun z => .inr (x1.h.free z)
section
variable {X : Cx} {m : Md} {W1 : List Nat} {pos : Pos} {w : Bool}
structure DTs (X : Cx) (ifs : List Expr) (t : TT) (f : Rho → Option Bool) : Prop where
  p : PTs X ifs t
  s : SemT X.K t f
def fYes : Rho → Option Bool := fun _ => some true
theorem dts_nil : DTs X [] tYes fYes := ⟨pts_nil, fun B F H σ ρ b Q r hf q => by cases hf; exact q F H (.refl r.fh)⟩
theorem dts_one {c : Expr} {t : TT} {f : Rho → Option Bool} (h : DT X c t f) : DTs X [c] t f := ⟨pts_one h.p, h.s⟩
variable {elt tg iter : Expr} {ifs : List Expr} {scope : Scope} {own : List (Str × Nat)} {wi : TI} {g : TG} {tt : TT} {te : TE} {f : Rho → Option (List D)} {s : D → Rho → Option Rho} {ft : Rho → Option Bool} {fe : Rho → Option D}
theorem de_lc {vs : List Nat} (own : List (Str × Nat)) (hN : X.N.Nodup) (hi : DI w X m tg iter wi f) (ok : blkC X.N X.env.scope scope own = true)
    (hg : ∀ (s' : Shared) (H : Hp) (C : Addr) (cl : List (Str × Addr)) (fp : List Addr), DG w (X.blk s' H scope (compEnvC scope cl C X.env) fp) W1 tg g s) (ht : ∀ (s : Shared) (H : Hp) (C : Addr) (cl : List (Str × Addr)) (fp : List Addr), DTs (X.blk s H scope (compEnvC scope cl C X.env) fp) ifs tt ft)
    (he : ∀ (s : Shared) (H : Hp) (C : Addr) (cl : List (Str × Addr)) (fp : List Addr), DE (X.blk s H scope (compEnvC scope cl C X.env) fp) .fz elt te fe) (hW : ∀ j ∈ W1, j ∈ vs) (hc : X.calm = true := by rfl) (hs : ∀ x, foldedSetIterable iter X.env x = pure x := by intro _; rfl) (hvs : own.map (·.2) = vs := by rfl) :
    DE X .fr (.ListComp elt [⟨tg, iter, ifs, 0⟩] scope pos) (tLc wi g tt te (vs)) (fLc f s ft fe (vs)) := by
  subst hvs
  exact
  ⟨pe_lc hc hN hi.p (blkOk_by ok) (fun s H C cl fp => (hg s H C cl fp).p) (fun s H C cl fp => (ht s H C cl fp).p) (fun s H C cl fp => (he s H C cl fp).p) hs,
    sem_lc hi.pk.s (hg X.s_0 (fun _ => none) 0 [] []).s (ht X.s_0 (fun _ => none) 0 [] []).s (he X.s_0 (fun _ => none) 0 [] []).s hW⟩
/-- name = [..], the name a local on the same line -/
theorem ds_asgLc {m1 : Md} {vs : List Nat} {i : Nat} {y : Str} {py spos : Pos} (own : List (Str × Nat)) (hN : X.N.Nodup) (hi : DI w X m tg iter wi f) (ok : blkC X.N X.env.scope scope own = true)
    (hg : ∀ (s' : Shared) (H : Hp) (C : Addr) (cl : List (Str × Addr)) (fp : List Addr), DG w (X.blk s' H scope (compEnvC scope cl C X.env) fp) W1 tg g s) (ht : ∀ (s : Shared) (H : Hp) (C : Addr) (cl : List (Str × Addr)) (fp : List Addr), DTs (X.blk s H scope (compEnvC scope cl C X.env) fp) ifs tt ft)
    (he : ∀ (s : Shared) (H : Hp) (C : Addr) (cl : List (Str × Addr)) (fp : List Addr), DE (X.blk s H scope (compEnvC scope cl C X.env) fp) .fz elt te fe) (hW : ∀ j ∈ W1, j ∈ vs) (hsw : swapsWith (.ListComp elt [⟨tg, iter, ifs, 0⟩] scope pos) (some (.Name y py)) spos.line X.env = pure true)
    (hy : X.N[i]? = some y := by rfl) (hyl : X.env.scope.names.lookup y = some .local := by rfl) (hc : X.calm = true := by rfl) (hs : ∀ x, foldedSetIterable iter X.env x = pure x := by intro _; rfl) (hvs : own.map (·.2) = vs := by rfl) :
    DS X m1 [i] (.Assign [.Name y py] (.ListComp elt [⟨tg, iter, ifs, 0⟩] scope pos) spos) (tAsg (tLc wi g tt te (vs)) (gName i)) (bAsg i (fLc f s ft fe (vs))) := by
  subst hvs
  have d := de_lc (pos := pos) own hN hi ok hg ht he hW hc hs
  exact ⟨ps_setLc hc hN hy hyl hsw hi.p (blkOk_by ok) (fun s H C cl fp => (hg s H C cl fp).p) (fun s H C cl fp => (ht s H C cl fp).p) (fun s H C cl fp => (he s H C cl fp).p) hs, sem_asg d.frz.s⟩
theorem ds_ownLc {m1 : Md} {vs : List Nat} {i : Nat} {y : Str} {py spos : Pos} (own : List (Str × Nat)) (hN : X.N.Nodup) (hi : DI w X m tg iter wi f) (ok : blkC X.N X.env.scope scope own = true)
    (hg : ∀ (s' : Shared) (H : Hp) (C : Addr) (cl : List (Str × Addr)) (fp : List Addr), DG w (X.blk s' H scope (compEnvC scope cl C X.env) fp) W1 tg g s) (ht : ∀ (s : Shared) (H : Hp) (C : Addr) (cl : List (Str × Addr)) (fp : List Addr), DTs (X.blk s H scope (compEnvC scope cl C X.env) fp) ifs tt ft)
    (he : ∀ (s : Shared) (H : Hp) (C : Addr) (cl : List (Str × Addr)) (fp : List Addr), DE (X.blk s H scope (compEnvC scope cl C X.env) fp) .fz elt te fe) (hW : ∀ j ∈ W1, j ∈ vs) (hsw : swapsWith (.ListComp elt [⟨tg, iter, ifs, 0⟩] scope pos) (some (.Name y py)) spos.line X.env = pure true)
    (hy : X.N[i]? = some y := by rfl) (hyl : X.env.scope.names.lookup y = some .local := by rfl) (hc : X.calm = true := by rfl) (hs : ∀ x, foldedSetIterable iter X.env x = pure x := by intro _; rfl) (hvs : own.map (·.2) = vs := by rfl) :
    DS X m1 [i] (.Assign [.Name y py] (.ListComp elt [⟨tg, iter, ifs, 0⟩] scope pos) spos) (tAsg (tLc wi g tt te (vs)) (gName i)) (bOwn i (fLc f s ft fe (vs))) := by
  subst hvs
  have d := de_lc (pos := pos) own hN hi ok hg ht he hW hc hs
  exact ⟨ps_setLc hc hN hy hyl hsw hi.p (blkOk_by ok) (fun s H C cl fp => (hg s H C cl fp).p) (fun s H C cl fp => (ht s H C cl fp).p) (fun s H C cl fp => (he s H C cl fp).p) hs, sem_own d.s⟩
end
end Q
end

/-! part: Q8 -/
section
set_option Elab.async false
set_option linter.all false
set_option maxRecDepth 100000
set_option maxHeartbeats 4000000
set_option autoImplicit false
namespace Q
open PySem PySem.Spec PySem.Calls PyProof.Rows L2
/-! ### defs of the text -/
def spM (K : PySem.W.Frag) (m : Md) (Φ : List D → Option D) : Sp := fun vs H Q _ => ∃ F ds r, Same F H ∧ RepA K F vs ds ∧ Φ ds = some r ∧ ∀ v F' H', Ext F H F' H' → Res K m H F' H' v r → Q v H'
def runB (n : Nat) (b : Bd) : List D → Option D := fun ds => (b (ds.map .im ++ List.replicate (n - ds.length) .un)).bind fun o => match o with
  | .rt d => some d
  | .nx _ => some .none
  | _ => none
section
variable {P : Program} {w : World} {K : PySem.W.Frag} {mg : Str → Option Value} {base : Heap}
theorem start_rel {N : List Str} {F H : Hp} : ∀ {vs : List V} {ds : List D}, RepA K F vs ds → ds.length ≤ N.length → Same F H → Rel K { F0 := F, G := H } F H (L2.start N vs) (ds.map Sl.im ++ List.replicate (N.length - ds.length) .un) := fun {vs ds} ra hl fh => by
  have el := ra.length
  refine ⟨?_, .refl _, .refl _, fh, .refl, fun i o s h1 h2 => ?_, fun i j d e a hij h1 h2 h3 h4 => ?_⟩
  · unfold L2.start; simp [el]
  · unfold L2.start at h1
    by_cases hi : i < ds.length
    · rw [List.getElem?_append_left (by simpa using hi)] at h2
      rw [List.getElem?_append_left (by simpa [el] using hi)] at h1
      rw [List.getElem?_map] at h1 h2
      obtain ⟨d, e1, rfl⟩ := Option.map_eq_some_iff.mp h2
      obtain ⟨v, e2, e3⟩ := ra.get e1
      rw [e2] at h1
      cases h1
      exact ⟨v, rfl, e3⟩
    · rw [List.getElem?_append_right (by simpa using hi)] at h2
      rw [List.getElem?_replicate] at h2
      split at h2
      · cases h2; trivial
      · cases h2
  · by_cases hi : i < ds.length
    · rw [List.getElem?_append_left (by simpa using hi), List.getElem?_map] at h1
      obtain ⟨d, _, e1⟩ := Option.map_eq_some_iff.mp h1
      cases e1
    · rw [List.getElem?_append_right (by simpa using hi), List.getElem?_replicate] at h1
      split at h1 <;> cases h1
/-- A DEF KEEPS WHAT ITS BODY'S DENOTATION SAYS -/
theorem fn_den {x qual : Str} {params : Arguments} {body : List Stmt} {scope : Scope} {dvs : List V} {kws : List (Str × V)} {f : Addr} {fd : FuncData} {N ps : List Str} {k : Nat} {m : Md} {b : Bd}
    (Fd : FunD K x qual params body scope dvs kws f fd) (S : FnScope N ps scope) (Φ : List D → Option D) (hΦ : ∀ ds r, Φ ds = some r → ds.length = ps.length ∧ runB N.length b ds = some r) (hm : m = .fz ∨ ∀ ds ρ', b ds ≠ some (.nx ρ'))
    (hb : ∀ (cdv : Value) (A : Around) (outer : List Env) (s : Shared) (H : Hp) (E : XK), Room k (A.deeper (envOfC qual scope s.heap.objs.size f cdv)) →
      ∃ W t, DSs (cxOf CX0 P w K mg base N qual scope f cdv A outer s H E).nox m W body t b) : FnOk P w K mg base CX0 (k + 1) f fd ps (spM K m Φ) := by
  have lenOf : ∀ vs H Q E, spM K m Φ vs H Q E → vs.length = ps.length := fun vs H Q E h => by
    obtain ⟨F, ds, r, _, ra, hr, _⟩ := h
    rw [ra.length]
    exact (hΦ ds r hr).1
  refine Fd.ok S lenOf fun cdv A outer s H vs Q E hr h => ?_
  obtain ⟨W, t, D⟩ := hb cdv A outer s H E hr
  refine ⟨t, D.p.nox, ?_⟩
  obtain ⟨F, ds, r, fh, ra, hP, q⟩ := h
  obtain ⟨hl, hrun⟩ := hΦ ds r hP
  obtain ⟨o, e1, e2⟩ := bind_some hrun
  have hlen : ps.length ≤ N.length := by
    have e := congrArg List.length S.pre
    rw [List.length_take] at e
    omega
  refine D.s { F0 := F, G := H } F H _ _ o _ (start_rel ra (by rw [hl]; exact hlen) fh) e1 ?_
  cases o with
  | rt d =>
    cases e2
    intro v F' H' ro
    obtain ⟨a1, a2, a3, a4, a5⟩ := ro
    exact q v F' H' ⟨a1, a2, a4, a3⟩ a5
  | nx ρ' =>
    cases e2
    rcases hm with rfl | hm
    · intro σ' F' H' r' _
      exact q .non F' H' ⟨r'.f0, r'.g, r'.nw, r'.fh⟩ Rep.non
    · exact absurd e1 (hm _ _)
  | bk ρ' => cases e2
  | ct ρ' => cases e2
end
section
variable {X : Cx} {m : Md} {k : Nat} {f : Addr} {fd : FuncData} {ps : List Str} {Φ : List D → Option D} {x : Str} {p pos : Pos} {e : Expr} {es : List Expr} {t : TA} {fs : Rho → Option (List D)}
theorem sem_call {K : PySem.W.Frag} (h : SemA K .fz t fs) : SemE K m (tCall (spM K m Φ) [] E0 t) (fB Φ fs) := by
  intro B F H σ ρ z Q rel hf q
  obtain ⟨ds, h1, h2⟩ := bind_some hf
  refine h B F H σ ρ ds _ rel h1 fun vs F1 H1 x1 r1 => ?_
  rw [List.append_nil]
  exact ⟨F1, ds, z, x1.s, r1.rep, h2, fun v F' H' x2 r2 => q v F' H' (x1.trans x2) (r2.back (F1 := F1) x1.h)⟩
/-- f(e, ..), f a def of the text -/
theorem de_call (F : FnOk X.prog X.w X.K X.mg X.base CX0 k f fd ps (spM X.K m Φ)) (hr : Room k X.A) (hg : Gl X x) (hm : X.mg x = some (.ref f)) (hk : PySem.W.keepIn X.K (.ref f) = true) (hb : Binds X.K fd ps []) (ha : DA X .fz (e :: es) t fs)
    (hdb : (x == ("__debug__" : Str)) = false := by decide) (he : starEach (e :: es) X.env = (false, eval e X.env) :: starEach es X.env := by rfl) (hpl : (backTo pos (starEach es X.env)).any (·.1) = false := by rfl) :
    DE X m (.Call (.Name x p) (e :: es) [] pos) (tCall (spM X.K m Φ) [] E0 t) (fB Φ fs) := ⟨pe_call F hr hg hm hk hb .nil pass0 ha.p hdb he hpl, sem_call ha.s⟩
theorem de_call0 (F : FnOk X.prog X.w X.K X.mg X.base CX0 k f fd ps (spM X.K m Φ)) (hr : Room k X.A) (hg : Gl X x) (hm : X.mg x = some (.ref f)) (hk : PySem.W.keepIn X.K (.ref f) = true) (hb : Binds X.K fd ps [])
    (hdb : (x == ("__debug__" : Str)) = false := by decide) : DE X m (.Call (.Name x p) [] [] pos) (tCall (spM X.K m Φ) [] E0 tNil) (fB Φ aNil) := ⟨pe_call0 F hr hg hm hk hb .nil pass0 hdb, sem_call (fs := aNil) fun B F H σ ρ ds Q rel hf q => by cases hf; exact q [] F H (.refl rel.fh) .nil⟩
end
/-! a result without lists: arguments that are owned stay so -/
mutual
def nm : D → Bool
  | .none => true
  | .bool _ => true
  | .int _ => true
  | .str _ => true
  | .tuple ds => nmA ds
  | .list _ => false
  | .dict _ => false
def nmA : List D → Bool
  | [] => true
  | d :: ds => nm d && nmA ds
end
/-- of a new list: its items -/
def okR (m : Md) (d : D) : Bool := match m, d with
  | .fr, .list ds => nmA ds
  | .fr, _ => false
  | _, d => nm d
section
variable {K : PySem.W.Frag} {F F2 : Hp}
mutual
theorem Rep.less (h : ∀ a o, F a = some o → (∀ xs, o ≠ .lst xs) → F2 a = some o) : ∀ {v : V} {d : D}, Rep K F v d → nm d = true → Rep K F2 v d
  | _, _, .non, _ => .non
  | _, _, .bl b, _ => .bl b
  | _, _, .int i, _ => .int i
  | _, _, .str x, _ => .str x
  | _, _, .lst _ _, e => by simp [nm] at e
  | _, .tuple ds, .tup h1 r, e => .tup (by
      rcases h1 with ⟨o, h1, h2⟩ | h1
      · exact .inl ⟨o, h _ _ h1 (fun _ z => nomatch z), h2⟩
      · exact .inr h1) (RepA.less h r (by simpa [nm] using e))
theorem RepA.less (h : ∀ a o, F a = some o → (∀ xs, o ≠ .lst xs) → F2 a = some o) : ∀ {vs : List V} {ds : List D}, RepA K F vs ds → nmA ds = true → RepA K F2 vs ds
  | _, _, .nil, _ => .nil
  | _, d :: ds, .cons h1 r, e => by
    have e' : nm d = true ∧ nmA ds = true := by simpa [nmA] using e
    exact .cons (Rep.less h h1 e'.1) (RepA.less h r e'.2)
end
end
/-- F with the objects at L added as they stand in H -/
def plus (F H : Hp) (L : List Addr) : Hp := fun a => match F a with
  | some o => some o
  | none => if a ∈ L then H a else none
theorem plus_f {F H : Hp} {L : List Addr} : Same F (plus F H L) := fun a o h => by unfold plus; rw [h]
theorem plus_h {F H : Hp} {L : List Addr} (s : Same F H) : Same (plus F H L) H := fun a o h => by
  unfold plus at h
  split at h
  · rename_i o' e; cases h; exact s _ _ e
  · split at h
    · exact h
    · cases h
theorem plus_mono {F H : Hp} {L L' : List Addr} (h : ∀ a ∈ L, a ∈ L') : Same (plus F H L) (plus F H L') := fun a o q => by
  unfold plus at q ⊢
  cases e : F a with
  | some o' => rw [e] at q; exact q
  | none =>
    rw [e] at q
    have q' : (if a ∈ L then H a else none) = some o := q
    show (if a ∈ L' then H a else none) = some o
    by_cases hm : a ∈ L
    · rw [if_pos hm] at q'; rw [if_pos (h a hm)]; exact q'
    · rw [if_neg hm] at q'; cases q'
theorem args_plus {K : PySem.W.Frag} {H0 F H : Hp} : ∀ {vs : List V} {ds : List D}, ResA K .pk H0 F H vs ds → ∃ L : List Addr, (∀ a ∈ L, F a = none ∧ ∃ xs, H a = some (.lst xs)) ∧ RepA K (plus F H L) vs ds
  | _, _, .nil => ⟨[], by simp, .nil⟩
  | _, _, .cons h r => by
    obtain ⟨L, h1, h2⟩ := args_plus r
    rcases h with h | ⟨a, rfl, hf, o⟩
    · exact ⟨L, h1, .cons (h.mono plus_f) h2⟩
    · rename_i d ds
      cases d with
      | list es =>
        obtain ⟨xs, e, ra⟩ := o
        refine ⟨a :: L, fun b hb => ?_, .cons (.lst (.of ?_) (ra.mono plus_f)) (h2.mono (plus_mono fun b hb => List.mem_cons_of_mem _ hb))⟩
        · rcases List.mem_cons.mp hb with rfl | hb
          · exact ⟨hf, xs, e⟩
          · exact h1 b hb
        · unfold plus; rw [hf]; show (if a ∈ a :: L then H a else none) = _; rw [if_pos List.mem_cons_self]; exact e
      | _ => exact o.elim
def fBP (m : Md) (Φ : List D → Option D) (fs : Rho → Option (List D)) : Rho → Option D := fun ρ => (fs ρ).bind fun ds => (Φ ds).bind fun r => if okR m r = true then some r else none
section
variable {X : Cx} {m m1 : Md} {k : Nat} {f : Addr} {fd : FuncData} {ps : List Str} {Φ : List D → Option D} {x : Str} {p pos : Pos} {e : Expr} {es : List Expr} {t : TA} {fs : Rho → Option (List D)}
theorem sem_callP {K : PySem.W.Frag} (hm : m = .fz ∨ m = .fr) (h : SemA K m1 t fs) : SemE K m (tCall (spM K m Φ) [] E0 t) (fBP m Φ fs) := by
  intro B F H σ ρ z Q rel hf q
  obtain ⟨ds, h1, h2⟩ := bind_some hf
  obtain ⟨r, h3, h4⟩ := bind_some h2
  obtain ⟨hn, rfl⟩ := if_some h4
  refine h B F H σ ρ ds _ rel h1 fun vs F1 H1 x1 r1 => ?_
  rw [List.append_nil]
  obtain ⟨L, hL, ra⟩ := args_plus r1.any
  refine ⟨plus F1 H1 L, ds, r, plus_h x1.s, ra, h3, fun v F' H' x2 r2 => ?_⟩
  -- what the callee froze, without the caller's own
  have hex : ∃ F3 : Hp, Ext F1 H1 F3 H' ∧ (∀ a o, F' a = some o → (∀ xs, o ≠ .lst xs) → F3 a = some o) ∧ ∀ a, F' a = none → F3 a = none := by
    refine ⟨fun a => if a ∈ L then none else F' a, ⟨fun a o h => ?_, x2.h, fun a h => ?_, fun a o h => ?_⟩, fun a o h1 h2 => ?_, fun a h => ?_⟩
    · have : a ∉ L := fun z => by rw [(hL a z).1] at h; cases h
      rw [if_neg this]
      exact x2.f _ _ (plus_f _ _ h)
    · by_cases z : a ∈ L
      · exact absurd (if_pos z) h
      · have h' : F' a ≠ none := by intro e; exact h (by rw [if_neg z]; exact e)
        rcases x2.n a h' with w | w
        · left
          intro e
          apply w
          unfold plus
          rw [e]
          exact if_neg z
        · exact .inr w
    · by_cases z : a ∈ L
      · have h' : (none : Option HO) = some o := by rw [← h]; exact (if_pos z).symm
        cases h'
      · have h' : F' a = some o := by rw [← h]; exact (if_neg z).symm
        exact x2.s _ _ h'
    · have : a ∉ L := fun z => by
        obtain ⟨f1, xs, e⟩ := hL a z
        have : plus F1 H1 L a = some (.lst xs) := by unfold plus; rw [f1]; show (if a ∈ L then H1 a else none) = _; rw [if_pos z]; exact e
        have q := x2.f _ _ this
        rw [h1] at q
        exact h2 xs (Option.some.inj q)
      exact (if_neg this).trans h1
    · by_cases z : a ∈ L
      · exact if_pos z
      · exact (if_neg z).trans h
  obtain ⟨F3, x3, k1, k2⟩ := hex
  refine q v F3 H' (x1.trans x3) ?_
  rcases hm with rfl | rfl
  · exact Rep.less k1 r2 hn
  · obtain ⟨a, rfl, h0, hf0, o⟩ := r2
    refine ⟨a, rfl, x1.h.free h0, k2 a hf0, ?_⟩
    cases r with
    | list es =>
      obtain ⟨ws, e1, e2⟩ := o
      exact ⟨ws, e1, e2.less k1 hn⟩
    | _ => exact o.elim
/-- f(e, ..), owned names among the arguments, no list in what comes back -/
theorem de_callP (hm0 : m = .fz ∨ m = .fr) (F : FnOk X.prog X.w X.K X.mg X.base CX0 k f fd ps (spM X.K m Φ)) (hr : Room k X.A) (hg : Gl X x) (hm : X.mg x = some (.ref f)) (hk : PySem.W.keepIn X.K (.ref f) = true) (hb : Binds X.K fd ps []) (ha : DA X .pk (e :: es) t fs)
    (hdb : (x == ("__debug__" : Str)) = false := by decide) (he : starEach (e :: es) X.env = (false, eval e X.env) :: starEach es X.env := by rfl) (hpl : (backTo pos (starEach es X.env)).any (·.1) = false := by rfl) :
    DE X m (.Call (.Name x p) (e :: es) [] pos) (tCall (spM X.K m Φ) [] E0 t) (fBP m Φ fs) := ⟨pe_call F hr hg hm hk hb .nil pass0 ha.p hdb he hpl, sem_callP hm0 ha.s⟩
end
end Q
end

/-! part: Q9 -/
section
set_option Elab.async false
set_option linter.all false
set_option maxRecDepth 100000
set_option maxHeartbeats 4000000
set_option autoImplicit false
namespace PySem
set_option maxHeartbeats 1000000 in
theorem meets_enumerate_new1 {v : Value} {o : Obj} {H : Heap → Prop} (B : Begins v o H) :
    Meets (Builtin.«enumerate.__new__» ⟨[.type "enumerate", v], []⟩) (fun _ R s => H s.heap ∧
      R (.ok (.ret (.ref (s.heap.push o).objs.size))) { s with heap := (s.heap.push o).push { cls := .type "enumerate", data := .fields #[.none, .bool false, .ref s.heap.objs.size, rawInt 0, .none, .none] } }) :=
  .of_wp fun prog w A R s h => by
    obtain ⟨hp, g, d, tk, os⟩ := s; obtain ⟨h1, h⟩ := h
    have hsub := sub_enumerate
    have q1 : ∀ {A' : Around} {E : Value → Shared → Prop} {Q : Value → Shared → Prop}, Q (.ref hp.objs.size) ⟨hp.push o, g, d, tk, os⟩ → wpAny (model prog w) A' (pyIter v) Q E ⟨hp, g, d, tk, os⟩ :=
      fun q => B.iter prog w _ _ ⟨hp, g, d, tk, os⟩ _ h1 q
    wp_walk using q1
    refine wpAny_stack_any fun st => wpAny_pure ?_
    split
    · rename_i c _ _ _ _ _
      cases (c == Value.type "enumerate")
      · wp_walk using q1
        exact ⟨_, rfl, h⟩
      · wp_walk using q1
        exact ⟨_, rfl, h⟩
    · wp_walk using q1
      exact ⟨_, rfl, h⟩
theorem enum_begins1 {prog : Program} {w : World} {A : Around} {E : Value → Shared → Prop} {s : Shared} {v : Value} {o : Obj} {H : Heap → Prop} {Q : Value → Shared → Prop} (B : Begins v o H) (h1 : H s.heap)
    (h : ∀ h', IsEnum h' (s.heap.objs.size + 1) s.heap.objs.size 0 .none → h'.get? s.heap.objs.size = some o → h'.objs.size = s.heap.objs.size + 2 →
      (∀ b o, s.heap.get? b = some o → h'.get? b = some o) → Q (.ref (s.heap.objs.size + 1)) { s with heap := h' }) :
    wpAny (model prog w) A (call (.type "enumerate") [v]) Q E s := by
  refine callType_new F.called_enumerate (by decide) (F.typeCall_enumerate_1 _) (F.newCall_enumerate_1 _) (fun obj => F.args_object_init_2 obj _) F.entry_enumerate_new
    (meets_enumerate_new1 B) ⟨h1, ?_⟩
  have hz : (s.heap.push o).objs.size = s.heap.objs.size + 1 := Heap.size_push ..
  show _ ∧ _
  rw [hz]
  have he : IsEnum ((s.heap.push o).push { cls := .type "enumerate", data := .fields #[.none, .bool false, .ref s.heap.objs.size, rawInt 0, .none, .none] }) (s.heap.objs.size + 1) s.heap.objs.size 0 .none := by
    have := Heap.get?_push_size (s.heap.push o) (o := { cls := .type "enumerate", data := .fields #[.none, .bool false, .ref s.heap.objs.size, rawInt 0, .none, .none] }) rfl
    rw [hz] at this; exact this
  refine ⟨⟨_, he, rfl⟩, h _ he (Heap.get?_push_of_some _ (Heap.get?_push_size _ B.free)) (by rw [Heap.size_push, hz]) fun b o x => Heap.get?_push_of_some _ (Heap.get?_push_of_some _ x)⟩
end PySem
namespace Q
open PySem PySem.Spec PySem.Calls PyProof.Rows L2
/-! ### enumerate over a tuple -/
def IteT (K : PySem.W.Frag) (a : Addr) (n : Nat) : It :=
  ⟨fun i H => i < n ∧ ∃ (xs : List V) (x : V), SqT K H a xs ∧ xs[i]? = some x, fun i H v H' => ∃ T x, v = .ref T ∧ H T = none ∧ H' = upd H T (.tup [.int (i : Nat), x]) ∧ ∀ xs, SqT K H a xs → xs[i]? = some x, fun i H => n ≤ i ∧ ∃ xs : List V, SqT K H a xs ∧ xs.length = n⟩
theorem turn_enumT {P : Program} {w : World} {K : PySem.W.Frag} {elts : List Expr} {kk : Nat} {tpos : Pos} (a e it : Addr) (n : Nat) :
    Turn P w K (.Tuple elts kk tpos) (IteT K a n) [e, it] e (fun i h => i ≤ n ∧ (∃ old, IsEnum h e it ((i : Nat) : Int) old) ∧ h.IsTupleIter it a i ∧ e ≠ it ∧ a ≠ it ∧ a ≠ e) where
  mem := by simp
  obj := fun i h st b hb => by
    obtain ⟨_, ⟨old, he⟩, ⟨o, ho, hc, hd⟩, _⟩ := st
    have e' : b = e ∨ b = it := by simpa using hb
    rcases e' with z | z
    · rw [z]; exact ⟨_, he, fun v q => nomatch q⟩
    · rw [z]; exact ⟨o, ho, fun v q => by rw [hd] at q; cases q⟩
  keep := fun i h h' st k => let ⟨hn, ⟨old, he⟩, hi, hne⟩ := st; ⟨hn, ⟨old, k e (by simp) _ he⟩, hi.at fun o q => k it (by simp) o q, hne⟩
  item := by
    intro X hP hw hK hc i pins s σ H E I hf st hg
    subst hP hw hK
    obtain ⟨_, ⟨old, he⟩, hit, hne, hai, hae⟩ := st
    obtain ⟨hin, xs, x, hq, hx⟩ := hg
    obtain ⟨its, rv, p, hz⟩ := I.tuple hq
    obtain ⟨u, hu, ru⟩ := rv.get hx
    have hel : e < s.heap.objs.size := Heap.lt_size he
    have hil : it < s.heap.objs.size := by obtain ⟨_, q, _⟩ := hit; exact Heap.lt_size q
    have Dr := Draws.tuple (prog := X.prog) (w := X.w) (A := X.A.in1) (I.ok.hd hc) it a hai its.toArray
    have hlt : i < its.toArray.size := by rw [List.size_toArray, ← rv.length]; exact (List.getElem?_eq_some_iff.mp hx).1
    refine wpAny_pyNext_enum_itemD Dr he ⟨hit, p⟩ hlt hne (by simp [hne, Ne.symm hae]) fun u' h' tk hP' ho hit' hT hsz hk => ?_
    have eu : u' = u := by
      have h1 : its.toArray[i]? = some u := by simpa using hu
      rw [h1] at hP'
      exact (Option.some.inj hP').symm
    subst eu
    refine ⟨_, rfl, wpAny_letOwnedTupleGo_enum (s := { s with heap := h', toks := tk + 1 }) ho fun h'' he' sb => ?_⟩
    have hT2 : h''.get? s.heap.objs.size = some { cls := .type "tuple", data := .seq #[.int i tk, u'] } := (sb.2 _ (Nat.ne_of_gt hel)).trans hT
    have new : ObjOk X.prog X.w (upd H s.heap.objs.size (.tup [.int (i : Nat), x])) h'' s.heap.objs.size (.tup [.int (i : Nat), x]) :=
      ⟨by show 2 ≤ sizeLine; decide, [.int i tk, u'], .cons ⟨_, rfl⟩ (.cons ru .nil), ⟨_, hT2, rfl, _, rfl⟩⟩
    have I1 : Inv X pins σ (upd H s.heap.objs.size (.tup [.int (i : Nat), x])) { s with heap := h'', toks := tk + 1 } :=
      I.turnedNew (ch := [e, it]) (fun b ob hb q => (sb.2 b (fun z => hb (by simp [z]))).trans (hk b ob (fun z => hb (by simp [z])) (fun z => hb (by simp [z])) q)) hf (Nat.le_refl _) new
    refine ⟨.ref s.heap.objs.size, _, I1, rfl, ⟨_, x, rfl, I.hok.fresh (Nat.le_refl _), rfl, fun ys hy => by rw [I.tuple_inj hy hq]; exact hx⟩, ⟨hin, ⟨u', ?_⟩, hit'.1.at fun o q => (sb.2 it (Ne.symm hne)).trans q, hne, hai, hae⟩, fun b hb => ?_⟩
    · have e1 : ((i + 1 : Nat) : Int) = (i : Int) + 1 := by omega
      rw [e1]; exact he'
    · have hb' : b < s.heap.objs.size := by
        have e' : b = e ∨ b = it := by simpa using hb
        rcases e' with z | z
        · rw [z]; exact hel
        · rw [z]; exact hil
      rw [upd_ne (Nat.ne_of_lt hb')]
      exact (hf b hb).1
  done := by
    intro X hP hw hK hc i pins s σ H E I hf st hg
    subst hP hw hK
    obtain ⟨hin, ⟨old, he⟩, hit, hne, hai, hae⟩ := st
    obtain ⟨hge, xs, hq, hx⟩ := hg
    obtain ⟨its, rv, p, hz⟩ := I.tuple hq
    obtain ⟨f0, f1, f2, f3, f4, f5⟩ := hf it (by simp)
    have Dr := Draws.tuple (prog := X.prog) (w := X.w) (A := X.A.in1) (I.ok.hd hc) it a hai its.toArray
    have ei : i = its.toArray.size := by rw [List.size_toArray, ← rv.length]; omega
    subst ei
    exact wpAny_pyNext_enum_endD Dr he ⟨hit, p⟩ fun h' eb => ⟨rfl, I.turned (t' := s.toks) (fun b o hb q => eb b o hb q) f0 f1 f3 f4 f5⟩
  self := fun A i s Q E st h => let ⟨_, ⟨_, he⟩, _⟩ := st; wpAny_pyIter_enum he h
/-- enumerate(x), x a list or a tuple -/
def iEnumA (K : PySem.W.Frag) (te : TE) : TI := fun σ H R => te σ H fun v H1 => ∃ a xs, v = .ref a ∧ ((SqL K H1 a xs ∧ R (Ite K a) H1) ∨ (SqT K H1 a xs ∧ R (IteT K a xs.length) H1))
theorem pi_enumA {X : Cx} {e : Expr} {te : TE} {p pos tpos : Pos} {elts : List Expr} {kk : Nat} (hg : Gl X "enumerate") (hm : X.mg "enumerate" = none) (he : PE X e te) (hs : starEach [e] X.env = (false, eval e X.env) :: starEach [] X.env := by rfl) :
    PI X (.Tuple elts kk tpos) (.Call (.Name "enumerate" p) [e] [] pos) (iEnumA X.K te) := by
  refine ⟨fun pins s σ H R I h => ?_⟩
  refine Call_ (ld_blt I hg hm boot_enumerate (PyProof.Rows.callWith_type1 (args_cons (thn (he.run pins s σ H _ I h) fun u s1 ⟨v, H1, I1, r1, q1⟩ => args_nil ?_) hs) hs rfl))
  obtain ⟨a, xs, ev, q⟩ := q1
  subst ev
  obtain rfl : u = Value.ref a := r1
  have fresh2 : ∀ b, b ∈ [s1.heap.objs.size + 1, s1.heap.objs.size] → FpOk X pins H1 b := fun b hb => by
    have e' : b = s1.heap.objs.size + 1 ∨ b = s1.heap.objs.size := by simpa using hb
    have hle : s1.heap.objs.size ≤ b := by
      rcases e' with z | z
      · rw [z]; exact Nat.le_add_right _ _
      · rw [z]; exact Nat.le_refl _
    exact I1.fpOk hle (I1.hok.fresh hle)
  rcases q with ⟨hq, q⟩ | ⟨hq, q⟩
  · obtain ⟨its, rv, p', hz⟩ := I1.list hq
    refine call_enumerate_list p'.isList fun h' he hit hsz hk => wpAny_pyIter_enum he ?_
    have I2 : Inv X pins σ H1 { s1 with heap := h' } := I1.kept (t' := s1.toks) hk
    exact ⟨s1.heap.objs.size + 1, [s1.heap.objs.size + 1, s1.heap.objs.size], _, _, H1, rfl, I2, turn_enum a (s1.heap.objs.size + 1) s1.heap.objs.size, ⟨⟨.none, he⟩, hit, Nat.succ_ne_self _⟩, fresh2, q⟩
  · obtain ⟨its, rv, p', hz⟩ := I1.tuple hq
    have hal : a < s1.heap.objs.size := by obtain ⟨o, e, _⟩ := p'; exact Heap.lt_size e
    refine enum_begins1 (begins_tuple a its.toArray) p' fun h' he hit hsz hk => wpAny_pyIter_enum he ?_
    have I2 : Inv X pins σ H1 { s1 with heap := h' } := I1.kept (t' := s1.toks) hk
    exact ⟨s1.heap.objs.size + 1, [s1.heap.objs.size + 1, s1.heap.objs.size], _, _, H1, rfl, I2, turn_enumT a (s1.heap.objs.size + 1) s1.heap.objs.size xs.length, ⟨Nat.zero_le _, ⟨.none, he⟩, ⟨_, hit, rfl, rfl⟩, Nat.succ_ne_self _, Nat.ne_of_lt hal, Nat.ne_of_lt (Nat.lt_succ_of_lt hal)⟩, fresh2, q⟩
def numL : Nat → List D → List D
  | _, [] => []
  | i, d :: ds => .tuple [.int (i : Nat), d] :: numL (i + 1) ds
theorem numL_at : ∀ {ds : List D} {k i : Nat} {d : D}, (numL k ds)[i]? = some d → ∃ x, ds[i]? = some x ∧ d = .tuple [.int ((k + i : Nat) : Int), x]
  | [], _, _, _, h => by simp [numL] at h
  | x :: ds, k, 0, d, h => by simp [numL] at h; subst h; exact ⟨x, rfl, rfl⟩
  | x :: ds, k, i + 1, d, h => by
    have h' : (numL (k + 1) ds)[i]? = some d := by simpa [numL] using h
    obtain ⟨y, h1, h2⟩ := numL_at h'
    refine ⟨y, by simpa using h1, ?_⟩
    rw [h2, show k + 1 + i = k + (i + 1) by omega]
theorem numL_length : ∀ (ds : List D) (k : Nat), (numL k ds).length = ds.length
  | [], _ => rfl
  | x :: ds, k => by simp [numL, numL_length ds]
theorem ite_ok {K : PySem.W.Frag} {F : Hp} {a : Addr} {xs : List V} {ds : List D} {st : Hp → Prop} (hs : ∀ H, Same F H → st H → SqL K H a xs) (r : RepA K F xs ds) : ItO true K (Ite K a) F st (numL 0 ds) :=
  ⟨fun i F' H' hi s1 s2 s3 => by
    obtain ⟨x, h1, _⟩ := numL_at (List.getElem?_eq_getElem hi)
    obtain ⟨y, h3, _⟩ := r.get h1
    exact ⟨xs, y, hs H' (s1.trans s2) s3, h3⟩, fun i d F' H' v H3 hd s1 s2 s3 yy => by
    obtain ⟨T, x, rfl, hT, rfl, y1⟩ := yy
    obtain ⟨dx, h1, rfl⟩ := numL_at hd
    obtain ⟨x', h3, h5⟩ := r.get h1
    have e1 := y1 xs (hs H' (s1.trans s2) s3)
    rw [h3] at e1
    cases e1
    rw [Nat.zero_add]
    exact pair_ok s2 hT (Rep.int _) (h5.mono s1), fun i F' H' hi s1 s2 s3 => by
    rw [numL_length] at hi
    exact ⟨xs, hs H' (s1.trans s2) s3, by rw [r.length]; exact hi⟩⟩
theorem iteT_ok {K : PySem.W.Frag} {F : Hp} {a : Addr} {xs : List V} {ds : List D} {st : Hp → Prop} (hs : ∀ H, Same F H → st H → SqT K H a xs) (r : RepA K F xs ds) : ItO true K (IteT K a xs.length) F st (numL 0 ds) :=
  ⟨fun i F' H' hi s1 s2 s3 => by
    obtain ⟨x, h1, _⟩ := numL_at (List.getElem?_eq_getElem hi)
    obtain ⟨y, h3, _⟩ := r.get h1
    rw [numL_length, ← r.length] at hi
    exact ⟨hi, xs, y, hs H' (s1.trans s2) s3, h3⟩, fun i d F' H' v H3 hd s1 s2 s3 yy => by
    obtain ⟨T, x, rfl, hT, rfl, y1⟩ := yy
    obtain ⟨dx, h1, rfl⟩ := numL_at hd
    obtain ⟨x', h3, h5⟩ := r.get h1
    have e1 := y1 xs (hs H' (s1.trans s2) s3)
    rw [h3] at e1
    cases e1
    rw [Nat.zero_add]
    exact pair_ok s2 hT (Rep.int _) (h5.mono s1), fun i F' H' hi s1 s2 s3 => by
    rw [numL_length] at hi
    exact ⟨by rw [r.length]; exact hi, xs, hs H' (s1.trans s2) s3, rfl⟩⟩
def enumD (d : D) : Option (List D) := (itemsD d).map (numL 0)
def fEnum (f : Rho → Option D) : Rho → Option (List D) := fun ρ => (f ρ).bind enumD
section
variable {X : Cx} {m : Md} {e : Expr} {te : TE} {f : Rho → Option D} {p pos tpos : Pos} {elts : List Expr} {kk : Nat}
theorem sem_enum {K : PySem.W.Frag} (h : SemE K .fz te f) : SemI true K .fz (iEnumA K te) (fEnum f) := by
  intro B F H σ ρ ds R rel hf q
  obtain ⟨d, h1, h2⟩ := bind_some hf
  obtain ⟨es, h3, rfl⟩ := Option.map_eq_some_iff.mp h2
  refine h B F H σ ρ d _ rel h1 fun v F1 H1 x1 r1 => ?_
  cases d with
  | list es =>
    cases h3
    cases r1 with
    | lst hs hr => exact ⟨_, _, rfl, .inl ⟨x1.s.seq hs, q _ F1 H1 x1 (ite_ok (fun H s _ => s.seq hs) hr)⟩⟩
  | tuple es =>
    cases h3
    cases r1 with
    | tup hs hr => exact ⟨_, _, rfl, .inr ⟨(hs.mono x1.s).sq, q _ F1 H1 x1 (iteT_ok (fun H s _ => (hs.mono s).sq) hr)⟩⟩
  | _ => cases h3
theorem sem_enumP {K : PySem.W.Frag} (h : SemE K m te f) : SemI true K .pk (iEnumA K te) (fEnum f) := by
  intro B F H σ ρ ds R rel hf q
  obtain ⟨d, h1, h2⟩ := bind_some hf
  obtain ⟨es, h3, rfl⟩ := Option.map_eq_some_iff.mp h2
  refine h B F H σ ρ d _ rel h1 fun v F1 H1 x1 r1 => ?_
  cases d with
  | list es =>
    cases h3
    obtain ⟨a, xs, rfl, hs, hr⟩ := r1.list x1.s
    exact ⟨_, _, rfl, .inl ⟨hs, q _ F1 H1 x1 (ite_ok (fun H _ s => s.seq hs) hr)⟩⟩
  | tuple es =>
    cases h3
    obtain ⟨a, xs, rfl, hs, hr⟩ := r1.tup x1.s
    exact ⟨_, _, rfl, .inr ⟨hs.sq, q _ F1 H1 x1 (iteT_ok (fun H _ s => (hs.mono s).sq) hr)⟩⟩
  | _ => cases h3
theorem di_enum (hg : Gl X "enumerate") (hm : X.mg "enumerate" = none) (he : DE X .fz e te f) (hs : starEach [e] X.env = (false, eval e X.env) :: starEach [] X.env := by rfl) :
    DI true X .fz (.Tuple elts kk tpos) (.Call (.Name "enumerate" p) [e] [] pos) (iEnumA X.K te) (fEnum f) := ⟨pi_enumA hg hm he.p hs, sem_enum he.s⟩
theorem di_enumK (K' : PySem.W.Frag) (hg : Gl X "enumerate") (hm : X.mg "enumerate" = none) (he : DE X .fz e te f) (hs : starEach [e] X.env = (false, eval e X.env) :: starEach [] X.env := by rfl) (hK : X.K = K' := by rfl) : DI true X .fz (.Tuple elts kk tpos) (.Call (.Name "enumerate" p) [e] [] pos) (iEnumA K' te) (fEnum f) := by
  subst hK
  exact di_enum (hg := hg) (hm := hm) (he := he) (hs := hs)
theorem di_enumP (hg : Gl X "enumerate") (hm : X.mg "enumerate" = none) (he : DE X m e te f) (hs : starEach [e] X.env = (false, eval e X.env) :: starEach [] X.env := by rfl) :
    DI true X .pk (.Tuple elts kk tpos) (.Call (.Name "enumerate" p) [e] [] pos) (iEnumA X.K te) (fEnum f) := ⟨pi_enumA hg hm he.p hs, sem_enumP he.s⟩
theorem di_enumPK (K' : PySem.W.Frag) (hg : Gl X "enumerate") (hm : X.mg "enumerate" = none) (he : DE X m e te f) (hs : starEach [e] X.env = (false, eval e X.env) :: starEach [] X.env := by rfl) (hK : X.K = K' := by rfl) : DI true X .pk (.Tuple elts kk tpos) (.Call (.Name "enumerate" p) [e] [] pos) (iEnumA K' te) (fEnum f) := by
  subst hK
  exact di_enumP (hg := hg) (hm := hm) (he := he) (hs := hs)
end
end Q
end

/-! part: Q10 -/
section
set_option Elab.async false
set_option linter.all false
set_option maxRecDepth 100000
set_option maxHeartbeats 4000000
set_option autoImplicit false
namespace Q
open PySem PySem.Spec PySem.Calls PyProof.Rows L2
theorem DE.pk {X : Cx} {m : Md} {e : Expr} {t : TE} {f : Rho → Option D} (h : DE X m e t f) : DE X .pk e t f := ⟨h.p, fun B F H σ ρ d Q r hf q => h.s B F H σ ρ d Q r hf fun v F' H' x rs => q v F' H' x rs.any⟩
/-! ### slices -/
def SemO (K : PySem.W.Frag) (t : TO) (f : Rho → Option (Option Int)) : Prop :=
  ∀ (B : Bs) (F H : Hp) (σ : L2.St) (ρ : Rho) (o : Option Int) (Q : Option Int → Hp → Prop), Rel K B F H σ ρ → f ρ = some o → (∀ F' H', Ext F H F' H' → Q o H') → t σ H Q
structure DO (X : Cx) (e : Option Expr) (t : TO) (f : Rho → Option (Option Int)) : Prop where
  p : PO X e t
  s : SemO X.K t f
def oNo : Rho → Option (Option Int) := fun _ => some none
def oIs (f : Rho → Option D) : Rho → Option (Option Int) := fun ρ => (f ρ).bind fun d => match d with
  | .int i => some (some i)
  | _ => none
section
variable {X : Cx} {m m1 : Md} {e : Expr} {te : TE} {f : Rho → Option D} {p p2 pos : Pos} {lo hi : Option Expr} {tl th : TO} {fl fh : Rho → Option (Option Int)}
theorem do_no : DO X none tNoPart oNo := ⟨po_none, fun B F H σ ρ o Q r hf q => by cases hf; exact q F H (.refl r.fh)⟩
theorem do_is (h : DE X m e te f) : DO X (some e) (tPart te) (oIs f) := ⟨po_some h.p, fun B F H σ ρ o Q r hf q => by
  obtain ⟨d, h1, h2⟩ := bind_some hf
  refine h.s B F H σ ρ d _ r h1 fun v F1 H1 x1 r1 => ?_
  cases d with
  | int i => cases h2; exact ⟨i, r1.int, q F1 H1 x1⟩
  | _ => cases h2⟩
def cutL (ds : List D) (lo hi : Option Int) : List D := (ds.drop (HT.sIx ds.length 0 lo)).take (HT.sIx ds.length ds.length hi - HT.sIx ds.length 0 lo)
theorem repA_cut {K : PySem.W.Frag} {F : Hp} {xs : List V} {ds : List D} (r : RepA K F xs ds) (lo hi : Option Int) : RepA K F (cutV xs lo hi) (cutL ds lo hi) := by
  unfold cutV cutL
  rw [r.length]
  exact (r.drop _).take _
/-- t[lo:hi]: the whole of it is t itself -/
def rSlF (K : PySem.W.Frag) : V → Option Int → Option Int → Hp → VK → Prop := fun x lo hi H Q => ∃ a xs, x = .ref a ∧ SqT K H a xs ∧
  (HT.sIx xs.length 0 lo = 0 ∧ HT.sIx xs.length xs.length hi = xs.length → Q (.ref a) H) ∧ (¬ (HT.sIx xs.length 0 lo = 0 ∧ HT.sIx xs.length xs.length hi = xs.length) → NewT (cutV xs lo hi) H Q)
theorem sl_tupF : SlR X (rSlF X.K) := by
  intro pins s σ H x v vl vu lo hi sl Q I rx hs pl pu h
  obtain ⟨a, xs, rfl, hx, q1, q2⟩ := h
  cases rx
  obtain ⟨its, r, ht, hz⟩ := I.tuple hx
  have hlen : its.toArray.size = xs.length := by rw [List.size_toArray]; exact r.length.symm
  refine ⟨"tuple", _, PyProof.Rows.slot_tuple_getitem.lookup, ht.typeIs, ?_⟩
  by_cases hw : HT.sIx xs.length 0 lo = 0 ∧ HT.sIx xs.length xs.length hi = xs.length
  · exact getItem_tuple_whole ht hs pl pu (by rw [hlen]; exact hw) ⟨.ref a, H, I, rfl, q1 hw⟩
  · refine HT.getItem_tuple_cut ht hs pl pu (by rw [hlen]; exact hw) ?_ (by rw [hlen]; exact hz)
    rw [hlen]
    exact ⟨.ref s.heap.objs.size, _, I.laidT (t' := s.toks) ((r.drop (HT.sIx xs.length 0 lo)).take (HT.sIx xs.length xs.length hi - HT.sIx xs.length 0 lo)) (Nat.le_trans (cutV_length xs lo hi) hz), rfl, q2 hw _ _ (I.hok.fresh (Nat.le_refl _)) rfl rfl⟩
def rSlC (K : PySem.W.Frag) : V → Option Int → Option Int → Hp → VK → Prop := fun x lo hi H Q => rSlF K x lo hi H Q ∨ (rSlL K x lo hi H Q ∨ rSlS x lo hi H Q)
theorem sl_all : SlR X (rSlC X.K) := sl_tupF.or (sl_list.or sl_str)
def cutD (d : D) (lo hi : Option Int) : Option D := match d with
  | .tuple ds => some (.tuple (cutL ds lo hi))
  | .list ds => some (.list (cutL ds lo hi))
  | .str z => if z.length ≤ sizeLine then some (.str (cutS z lo hi)) else none
  | _ => none
def fSl (f : Rho → Option D) (fl fh : Rho → Option (Option Int)) : Rho → Option D := fun ρ => (f ρ).bind fun d => (fl ρ).bind fun l => (fh ρ).bind fun h => cutD d l h
theorem cut_whole {ds : List D} {lo hi : Option Int} (h : HT.sIx ds.length 0 lo = 0 ∧ HT.sIx ds.length ds.length hi = ds.length) : cutL ds lo hi = ds := by
  unfold cutL
  rw [h.1, h.2]
  simp
theorem de_sl (he : DE X m e te f) (hl : DO X lo tl fl) (hh : DO X hi th fh) : DE X .fz (.Subscript e (.Slice lo hi none p2) pos) (tSl (rSlC X.K) te tl th) (fSl f fl fh) := ⟨pe_slice sl_all he.p hl.p hh.p, fun B F H σ ρ z Q r hf q => by
  obtain ⟨d, h1, h2⟩ := bind_some hf
  obtain ⟨l, h3, h4⟩ := bind_some h2
  obtain ⟨h, h5, h6⟩ := bind_some h4
  refine he.s B F H σ ρ d _ r h1 fun v F1 H1 x1 r1 => ?_
  refine hl.s B F1 H1 σ ρ l _ (r.ext x1) h3 fun F2 H2 x2 => ?_
  refine hh.s B F2 H2 σ ρ h _ ((r.ext x1).ext x2) h5 fun F3 H3 x3 => ?_
  have r3 := (r1.mono x2).mono x3
  have x13 := (x1.trans x2).trans x3
  cases d with
  | tuple ds =>
    cases h6
    have rt := Res.rep r3 (fun _ z => nomatch z)
    obtain ⟨a, xs, rfl, s1, p1⟩ := r3.tup x3.s
    refine .inl ⟨a, xs, rfl, s1.sq, fun hw => ?_, fun _ => newT_rep x13 (repA_cut p1 l h) q⟩
    rw [p1.length] at hw
    rw [cut_whole hw] at q
    exact q _ F3 H3 x13 rt
  | list ds =>
    cases h6
    obtain ⟨a, xs, rfl, s1, p1⟩ := r3.list x3.s
    refine .inr (.inl ⟨a, xs, rfl, s1, ?_⟩)
    refine newL_res x13 (repA_cut p1 l h) fun v F' H' x' r' => ?_
    obtain ⟨F5, x5, r5⟩ := fr_fz x' r'
    exact q v F5 H' x5 r5
  | str z =>
    obtain ⟨hz, rfl⟩ := if_some h6
    exact .inr (.inr ⟨z, r3.str, hz, q _ F3 H3 x13 (Rep.str _)⟩)
  | _ => cases h6⟩
theorem de_slK (K' : PySem.W.Frag) (he : DE X m e te f) (hl : DO X lo tl fl) (hh : DO X hi th fh) (hK : X.K = K' := by rfl) : DE X .fz (.Subscript e (.Slice lo hi none p2) pos) (tSl (rSlC K') te tl th) (fSl f fl fh) := by
  subst hK
  exact de_sl (he := he) (hl := hl) (hh := hh)
/-! ### list(range(..)) -/
theorem repA_rg {K : PySem.W.Frag} {F : Hp} (a b : Int) : RepA K F (rgV a b) (rgD a (b - a).toNat) := by
  unfold rgV rgD
  have e1 : (List.range (b - a).toNat).map (fun i => V.int (a + (i : Nat))) = ((List.range (b - a).toNat).map fun i => (a + (i : Nat))).map V.int := by rw [List.map_map]; rfl
  have e2 : (List.range (b - a).toNat).map (fun i => (.int (a + (i : Nat)) : D)) = ((List.range (b - a).toNat).map fun i => (a + (i : Nat))).map .int := by rw [List.map_map]; rfl
  rw [e1, e2]
  exact RepA.of_ints _
def fLr1 (f : Rho → Option D) : Rho → Option D := fun ρ => (f ρ).bind fun d => match d with
  | .int n => if -(2 ^ 62) ≤ n ∧ n ≤ 16777216 then some (.list (rgD 0 n.toNat)) else none
  | _ => none
theorem de_lr1 {q : Pos} (hg : Gl X "list") (hm : X.mg "list" = none) (hg2 : Gl X "range") (hm2 : X.mg "range" = none) (he : DE X m e te f) (hc : X.calm = true := by rfl) (na : starEach [.Call (.Name "range" p2) [e] [] q] X.env = (false, eval (.Call (.Name "range" p2) [e] [] q) X.env) :: starEach [] X.env := by rfl)
    (na2 : starEach [e] X.env = (false, eval e X.env) :: starEach [] X.env := by rfl) : DE X .fr (.Call (.Name "list" p) [.Call (.Name "range" p2) [e] [] q] [] pos) (tLstRg (tRg1 te)) (fLr1 f) := ⟨pe_listRg hc hg hm (prg_1 hg2 hm2 he.p na2) na, fun B F H σ ρ z Q r hf q => by
  obtain ⟨d, h1, h2⟩ := bind_some hf
  refine he.s B F H σ ρ d _ r h1 fun v F1 H1 x1 r1 => ?_
  cases d with
  | int n =>
    obtain ⟨hn, rfl⟩ := if_some h2
    refine ⟨n, r1.int, ⟨by omega, by omega, by omega, by omega, by omega⟩, ?_⟩
    have ra : RepA X.K F1 (rgV 0 n) (rgD 0 n.toNat) := by have := repA_rg (K := X.K) (F := F1) 0 n; rwa [Int.sub_zero] at this
    exact newL_res x1 ra q
  | _ => cases h2⟩
/-! ### isinstance -/
def tyName : D → String
  | .none => "NoneType"
  | .bool _ => "bool"
  | .int _ => "int"
  | .str _ => "str"
  | .list _ => "list"
  | .tuple _ => "tuple"
  | .dict _ => "dict"
def isiN (a b : String) : Bool := a == b || (a == "bool" && b == "int")
def tyB (b : String) : Bool := ["int", "bool", "str", "list", "tuple", "dict"].contains b
theorem kit_all : (["NoneType", "bool", "int", "str", "list", "tuple"].all fun a => ["int", "bool", "str", "list", "tuple", "dict"].all fun b => decide (kitB a b = some (isiN a b))) = true := by decide +kernel
theorem kit_of2 {K : PySem.W.Frag} {d : D} {b : String} (hd : tyName d ≠ "dict") (hb : tyB b = true) : PySem.W.kitOne K (.type (tyName d)) (.type b) = some (isiN (tyName d) b) := by
  refine kit_ty ?_
  have h := List.all_eq_true.mp kit_all (tyName d) (by cases d <;> first | (simp [tyName]; done) | exact absurd rfl hd)
  exact of_decide_eq_true (List.all_eq_true.mp h b (by simpa [tyB, List.contains_iff_mem] using hb))
theorem tyX_of {K : PySem.W.Frag} {m : Md} {H0 F H : Hp} {x : V} {d : D} (r : Res K m H0 F H x d) (fh : Same F H) (hd : tyName d ≠ "dict") : TyX K H x (.type (tyName d)) := by
  rcases r.any with r | ⟨a, rfl, _, o⟩
  · cases r with
    | non => exact .base .non
    | bl b => exact .base (.bl b)
    | int i => exact .base (.int i)
    | str x => exact .base (.str x)
    | lst h _ =>
      rcases h with (h | ⟨o, h⟩) | ⟨o, its, n, h1, h2, _⟩
      · exact .base (.lst (fh _ _ h))
      · exact .base (.frz (fh _ _ h))
      · exact .kList h1 h2
    | tup h _ =>
      rcases h with ⟨o, h, _⟩ | ⟨o, its, n, h1, h2, _⟩
      · exact .fTuple (fh _ _ h)
      · exact .kTuple h1 h2
  · cases d with
    | list ds => obtain ⟨vs, e, _⟩ := o; exact .base (.lst e)
    | _ => exact o.elim
/-- isinstance(x, T) -/
def fIsi (b : String) (f : Rho → Option D) : Rho → Option D := fun ρ => (f ρ).bind fun d => match d with
  | .dict _ => none
  | d => some (.bool (isiN (tyName d) b))
theorem isi_some {b : String} {d z : D} (h : (match d with
  | .dict _ => none
  | d => some (.bool (isiN (tyName d) b))) = some z) : tyName d ≠ "dict" ∧ z = .bool (isiN (tyName d) b) := by
  cases d <;> first | (cases h; done) | (cases h; exact ⟨by simp [tyName], rfl⟩)
theorem ld_ty {b : String} {x : Str} {pos : Pos} (hg : Gl X x) (hm : X.mg x = none) (hv : bootBuiltins x = some (.type b)) (hn : x ≠ "__name__") (hdb : (x == ("__debug__" : Str)) = false) : PE X (.Name x pos) (tC (.ty b)) := pe_bltn hg hm hv (show RelV (.ty b) (.type b) from rfl) hn hdb
theorem de_isi {x y : Str} {b : String} {p3 : Pos} (hx : x = "isinstance") (hgi : Gl X x) (hmi : X.mg x = none) (hv0 : bootBuiltins x = some (.builtin "isinstance")) (hg : Gl X y) (hm : X.mg y = none) (hv : bootBuiltins y = some (.type b)) (he : DE X m e te f) (hb : tyB b = true := by decide) (hn0 : x ≠ "__name__" := by decide) (hdb0 : (x == ("__debug__" : Str)) = false := by decide) (hn : y ≠ "__name__" := by decide) (hdb : (y == ("__debug__" : Str)) = false := by decide)
    (s1 : starEach [e, .Name y p3] X.env = (false, eval e X.env) :: starEach [.Name y p3] X.env := by rfl) (s2 : starEach [.Name y p3] X.env = (false, eval (.Name y p3) X.env) :: starEach [] X.env := by rfl) (hpl : (backTo pos (starEach [.Name y p3] X.env)).any (·.1) = false := by rfl) :
    DE X .fz (.Call (.Name x p) [e, .Name y p3] [] pos) (tCB (rIsi X.K) (tCons te (tCons (tC (.ty b)) tNil))) (fIsi b f) :=
  ⟨pe_callB call_isi hgi hmi hv0 (pa_cons he.p (pa_cons (ld_ty hg hm hv hn hdb) pa_nil s2) s1) hn0 hdb0 s1 hpl, fun B F H σ ρ z Q r hf q => by
    obtain ⟨d, h1, h2⟩ := bind_some hf
    obtain ⟨hd, rfl⟩ := isi_some h2
    refine he.s B F H σ ρ d _ r h1 fun v F1 H1 x1 r1 => ?_
    exact ⟨v, .ty b, _, _, _, rfl, .ty b, tyX_of r1 x1.s hd, kit_of2 hd hb, q _ F1 H1 x1 (Rep.bl _)⟩⟩
theorem de_isiK (K' : PySem.W.Frag) {x y : Str} {b : String} {p3 : Pos} (hx : x = "isinstance") (hgi : Gl X x) (hmi : X.mg x = none) (hv0 : bootBuiltins x = some (.builtin "isinstance")) (hg : Gl X y) (hm : X.mg y = none) (hv : bootBuiltins y = some (.type b)) (he : DE X m e te f) (hb : tyB b = true := by decide) (hn0 : x ≠ "__name__" := by decide) (hdb0 : (x == ("__debug__" : Str)) = false := by decide) (hn : y ≠ "__name__" := by decide) (hdb : (y == ("__debug__" : Str)) = false := by decide) (s1 : starEach [e, .Name y p3] X.env = (false, eval e X.env) :: starEach [.Name y p3] X.env := by rfl) (s2 : starEach [.Name y p3] X.env = (false, eval (.Name y p3) X.env) :: starEach [] X.env := by rfl) (hpl : (backTo pos (starEach [.Name y p3] X.env)).any (·.1) = false := by rfl) (hK : X.K = K' := by rfl) : DE X .fz (.Call (.Name x p) [e, .Name y p3] [] pos) (tCB (rIsi K') (tCons te (tCons (tC (.ty b)) tNil))) (fIsi b f) := by
  subst hK
  exact de_isi (hx := hx) (hgi := hgi) (hmi := hmi) (hv0 := hv0) (hg := hg) (hm := hm) (hv := hv) (he := he) (hb := hb) (hn0 := hn0) (hdb0 := hdb0) (hn := hn) (hdb := hdb) (s1 := s1) (s2 := s2) (hpl := hpl)
/-- isinstance(x, (T, U)) -/
def fIsi2 (b c : String) (f : Rho → Option D) : Rho → Option D := fun ρ => (f ρ).bind fun d => match d with
  | .dict _ => none
  | d => some (.bool (isiN (tyName d) b || isiN (tyName d) c))
theorem de_isi2 {x y z : Str} {b c : String} {p3 p4 p5 : Pos} {k : Nat} (hx : x = "isinstance") (hgi : Gl X x) (hmi : X.mg x = none) (hv0 : bootBuiltins x = some (.builtin "isinstance")) (hg : Gl X y) (hm : X.mg y = none) (hv : bootBuiltins y = some (.type b)) (hg' : Gl X z) (hm' : X.mg z = none) (hv' : bootBuiltins z = some (.type c)) (he : DE X m e te f) (hb : tyB b = true := by decide) (hc : tyB c = true := by decide)
    (hn0 : x ≠ "__name__" := by decide) (hdb0 : (x == ("__debug__" : Str)) = false := by decide) (hn : y ≠ "__name__" := by decide) (hdb : (y == ("__debug__" : Str)) = false := by decide) (hn' : z ≠ "__name__" := by decide) (hdb' : (z == ("__debug__" : Str)) = false := by decide)
    (s1 : starEach [e, .Tuple [.Name y p3, .Name z p4] k p5] X.env = (false, eval e X.env) :: starEach [.Tuple [.Name y p3, .Name z p4] k p5] X.env := by rfl) (s2 : starEach [.Tuple [.Name y p3, .Name z p4] k p5] X.env = (false, eval (.Tuple [.Name y p3, .Name z p4] k p5) X.env) :: starEach [] X.env := by rfl) (hpl : (backTo pos (starEach [.Tuple [.Name y p3, .Name z p4] k p5] X.env)).any (·.1) = false := by rfl)
    (s3 : starEach [.Name y p3, .Name z p4] X.env = (false, eval (.Name y p3) X.env) :: starEach [.Name z p4] X.env := by rfl) (s4 : starEach [.Name z p4] X.env = (false, eval (.Name z p4) X.env) :: starEach [] X.env := by rfl) :
    DE X .fz (.Call (.Name x p) [e, .Tuple [.Name y p3, .Name z p4] k p5] [] pos) (tCB (rIsiT X.K) (tCons te (tCons (tTup (tCons (tC (.ty b)) (tCons (tC (.ty c)) tNil))) tNil))) (fIsi2 b c f) :=
  ⟨pe_callB call_isiT hgi hmi hv0 (pa_cons he.p (pa_cons (pe_tup (pa_cons (ld_ty hg hm hv hn hdb) (pa_cons (ld_ty hg' hm' hv' hn' hdb') pa_nil s4) s3)) pa_nil s2) s1) hn0 hdb0 s1 hpl, fun B F H σ ρ zz Q r hf q => by
    obtain ⟨d, h1, h2⟩ := bind_some hf
    have hd : tyName d ≠ "dict" ∧ zz = .bool (isiN (tyName d) b || isiN (tyName d) c) := by
      cases d <;> first | (cases h2; done) | (cases h2; exact ⟨by simp [tyName], rfl⟩)
    obtain ⟨hd, rfl⟩ := hd
    refine he.s B F H σ ρ d _ r h1 fun v F1 H1 x1 r1 => ⟨by show 2 ≤ sizeLine; decide, fun tp htp => ?_⟩
    have x2 := ext_own (o := .tup [.ty b, .ty c]) x1 htp
    have ty : TyX X.K (upd H1 tp (.tup [.ty b, .ty c])) v (.type (tyName d)) := tyX_of (r1.mono (ext_own (o := .tup [.ty b, .ty c]) (.refl x1.s) htp)) x2.s hd
    refine ⟨v, tp, _, _, [.type b, .type c], isiN (tyName d) b || isiN (tyName d) c, rfl, upd_same, .cons (.ty b) (.cons (.ty c) .nil), ty, ?_, q _ F1 _ x2 (Rep.bl _)⟩
    refine kitAny_cons (kit_of2 hd hb) (fun e1 => ?_) (fun e1 => by rw [e1]; rfl)
    rw [e1, Bool.false_or]
    refine kitAny_cons (kit_of2 hd hc) (fun e2 => ?_) (fun e2 => e2)
    rw [e2]
    rfl⟩
theorem de_isi2K (K' : PySem.W.Frag) {x y z : Str} {b c : String} {p3 p4 p5 : Pos} {k : Nat} (hx : x = "isinstance") (hgi : Gl X x) (hmi : X.mg x = none) (hv0 : bootBuiltins x = some (.builtin "isinstance")) (hg : Gl X y) (hm : X.mg y = none) (hv : bootBuiltins y = some (.type b)) (hg' : Gl X z) (hm' : X.mg z = none) (hv' : bootBuiltins z = some (.type c)) (he : DE X m e te f) (hb : tyB b = true := by decide) (hc : tyB c = true := by decide) (hn0 : x ≠ "__name__" := by decide) (hdb0 : (x == ("__debug__" : Str)) = false := by decide) (hn : y ≠ "__name__" := by decide) (hdb : (y == ("__debug__" : Str)) = false := by decide) (hn' : z ≠ "__name__" := by decide) (hdb' : (z == ("__debug__" : Str)) = false := by decide) (s1 : starEach [e, .Tuple [.Name y p3, .Name z p4] k p5] X.env = (false, eval e X.env) :: starEach [.Tuple [.Name y p3, .Name z p4] k p5] X.env := by rfl) (s2 : starEach [.Tuple [.Name y p3, .Name z p4] k p5] X.env = (false, eval (.Tuple [.Name y p3, .Name z p4] k p5) X.env) :: starEach [] X.env := by rfl) (hpl : (backTo pos (starEach [.Tuple [.Name y p3, .Name z p4] k p5] X.env)).any (·.1) = false := by rfl) (s3 : starEach [.Name y p3, .Name z p4] X.env = (false, eval (.Name y p3) X.env) :: starEach [.Name z p4] X.env := by rfl) (s4 : starEach [.Name z p4] X.env = (false, eval (.Name z p4) X.env) :: starEach [] X.env := by rfl) (hK : X.K = K' := by rfl) : DE X .fz (.Call (.Name x p) [e, .Tuple [.Name y p3, .Name z p4] k p5] [] pos) (tCB (rIsiT K') (tCons te (tCons (tTup (tCons (tC (.ty b)) (tCons (tC (.ty c)) tNil))) tNil))) (fIsi2 b c f) := by
  subst hK
  exact de_isi2 (hx := hx) (hgi := hgi) (hmi := hmi) (hv0 := hv0) (hg := hg) (hm := hm) (hv := hv) (hg' := hg') (hm' := hm') (hv' := hv') (he := he) (hb := hb) (hc := hc) (hn0 := hn0) (hdb0 := hdb0) (hn := hn) (hdb := hdb) (hn' := hn') (hdb' := hdb') (s1 := s1) (s2 := s2) (hpl := hpl) (s3 := s3) (s4 := s4)
end
/-! ### methods that change a list -/
section
variable {X : Cx} {m m1 : Md} {e : Expr} {te : TE} {f : Rho → Option D} {p p2 pos apos : Pos} {j : Nat} {x : Str}
theorem tyL {K : PySem.W.Frag} {H : Hp} {a : Addr} {xs : List V} (h : H a = some (.lst xs)) : tyV K "list" (.ref a) H := .inl ⟨rfl, xs, .of h⟩
/-- the owned list of a name -/
theorem Rel.own {K : PySem.W.Frag} {B : Bs} {F H : Hp} {σ : L2.St} {ρ : Rho} (r : Rel K B F H σ ρ) {ds : List D} (h : ρ[j]? = some (.ow (.list ds))) : ∃ a vs, σ[j]? = some (some (.ref a)) ∧ F a = none ∧ B.G a = none ∧ H a = some (.lst vs) ∧ RepA K F vs ds := by
  obtain ⟨o, e, a, rfl, h1, h2, vs, h3, h4⟩ := r.at h
  exact ⟨a, vs, e, h1, h2, h3, h4⟩
def bApp (j : Nat) (f : Rho → Option D) : Bd := fun ρ => match ρ[j]? with
  | some (.ow (.list ds)) => (f ρ).bind fun d => if ds.length < sizeLine then some (.nx (ρ.set j (.ow (.list (ds ++ [d]))))) else none
  | _ => none
theorem app_some {j : Nat} {f : Rho → Option D} {ρ : Rho} {o : Out} (h : bApp j f ρ = some o) : ∃ ds d, ρ[j]? = some (.ow (.list ds)) ∧ f ρ = some d ∧ ds.length < sizeLine ∧ o = .nx (ρ.set j (.ow (.list (ds ++ [d])))) := by
  unfold bApp at h
  split at h
  · rename_i ds e
    obtain ⟨d, h1, h2⟩ := bind_some h
    obtain ⟨h3, rfl⟩ := if_some h2
    exact ⟨ds, d, e, h1, h3, rfl⟩
  · cases h
theorem sem_app {K : PySem.W.Frag} (h : SemE K .fz te f) : SemS K m [] (tDrop (tBM K "list" rAppend (tVar j) (tCons te tNil))) (bApp j f) := by
  intro B F H σ ρ o D r hb q
  obtain ⟨ds, d, e1, e2, hl, rfl⟩ := app_some hb
  obtain ⟨a, vs, h1, h2, h3, h4, h5⟩ := r.own e1
  refine ⟨_, h1, tyL h4, ?_⟩
  refine h B F H σ ρ d _ r e2 fun v F1 H1 x1 r1 => ?_
  have h6 := x1.h _ _ h4
  refine ⟨a, vs, v, rfl, rfl, h6, by rw [h5.length]; exact hl, ?_⟩
  have hF1 : F1 a = none := x1.keepNone h2 (by rw [h4]; exact fun z => nomatch z)
  exact q σ F1 _ ((r.ext x1).write e1 h1 hF1 h3 ⟨vs ++ [v], upd_same, (h5.mono x1.f).append (.cons r1 .nil)⟩) fun _ _ => rfl
theorem pe_app {a : Expr} {r : V → List V → Hp → VK → Prop} {id : String} {name : Str} {ta : TE} {t : TA} {e : Expr} {es : List Expr} (slot : Slot "list" name id) (hty : typeOf (.builtin id) = pure (.type "method_descriptor")) (hm : MtR X id r) (ho : PE X a ta) (ha : PA X (e :: es) t)
    (hbase : attributeBase a name X.env (eval a X.env) = eval a X.env := by rfl)
    (hfew : ((backTo p (starEach (e :: es) X.env)).all (fun x => !x.1) && (backToKw p (keywordEach [] X.env)).all (fun x => x.1.isSome)
      && decide ((e :: es).length + ([] : List Keyword).length + (if ([] : List Keyword).isEmpty then 0 else 1) < 30)) = true := by rfl)
    (hline : (apos.endLine == p.line) = true := by rfl) (hs : starEach (e :: es) X.env = (false, eval e X.env) :: starEach es X.env := by rfl) (hplain : (backTo p (starEach es X.env)).any (·.1) = false := by rfl) :
    PE X (.Call (.Attribute a name apos) (e :: es) [] p) (tBM X.K "list" r ta t) := pe_bm PySem.F.plainAttrs_list slot hty hm ho ha hbase hfew hline hs hplain
/-- x.append(e) -/
theorem ds_app {pn : Pos} (he : DE X .fz e te f) (hN : X.N[j]? = some x := by rfl) (hv : Vis X.env.scope x := by first | exact Or.inl rfl | exact Or.inr (Or.inl rfl) | exact Or.inr (Or.inr rfl)) (hd : (x == ("__debug__" : Str)) = false := by decide) (hcd : (x == ("__classdict__" : Str)) = false := by decide)
    (hbase : attributeBase (.Name x pn) "append" X.env (eval (.Name x pn) X.env) = eval (.Name x pn) X.env := by rfl)
    (hfew : ((backTo p (starEach [e] X.env)).all (fun x => !x.1) && (backToKw p (keywordEach [] X.env)).all (fun x => x.1.isSome)
      && decide ([e].length + ([] : List Keyword).length + (if ([] : List Keyword).isEmpty then 0 else 1) < 30)) = true := by rfl)
    (hline : (apos.endLine == p.line) = true := by rfl) (hs : starEach [e] X.env = (false, eval e X.env) :: starEach [] X.env := by rfl) (hsw : swapsWith (.Call (.Attribute (.Name x pn) "append" apos) [e] [] p) none pos.line X.env = pure false := by rfl) :
    DS X m [] (.Expr (.Call (.Attribute (.Name x pn) "append" apos) [e] [] p) pos) (tDrop (tBM X.K "list" rAppend (tVar j) (tCons te tNil))) (bApp j f) :=
  ⟨ps_expr (pe_bm PySem.F.plainAttrs_list PySem.F.slot_list_append PySem.F.type_list_append mt_append (pe_var hN hv hd hcd) (pa_cons he.p pa_nil hs) hbase hfew hline hs rfl) hsw, sem_app he.s⟩
/-! effects within expressions -/
def SemX (K : PySem.W.Frag) (t : TE) (f : Rho → Option (D × Rho)) : Prop :=
  ∀ (B : Bs) (F H : Hp) (σ : L2.St) (ρ ρ' : Rho) (d : D) (Q : VK), Rel K B F H σ ρ → f ρ = some (d, ρ') → (∀ v F' H', Rel K B F' H' σ ρ' → Same F F' → Rep K F' v d → Q v H') → t σ H Q
structure DX (X : Cx) (e : Expr) (t : TE) (f : Rho → Option (D × Rho)) : Prop where
  p : PE X e t
  s : SemX X.K t f
def xPop (j : Nat) : Rho → Option (D × Rho) := fun ρ => match ρ[j]? with
  | some (.ow (.list ds)) => (ds[ds.length - 1]?).map fun d => (d, ρ.set j (.ow (.list ds.dropLast)))
  | _ => none
theorem dx_pop {pn : Pos} (hN : X.N[j]? = some x := by rfl) (hv : Vis X.env.scope x := by first | exact Or.inl rfl | exact Or.inr (Or.inl rfl) | exact Or.inr (Or.inr rfl)) (hd : (x == ("__debug__" : Str)) = false := by decide) (hcd : (x == ("__classdict__" : Str)) = false := by decide)
    (hbase : attributeBase (.Name x pn) "pop" X.env (eval (.Name x pn) X.env) = eval (.Name x pn) X.env := by rfl) (hline : (apos.endLine == p.line) = true := by rfl) :
    DX X (.Call (.Attribute (.Name x pn) "pop" apos) [] [] p) (tBM0 X.K "list" rPop (tVar j)) (xPop j) :=
  ⟨pe_bm0 PySem.F.plainAttrs_list PySem.F.slot_list_pop PySem.F.type_list_pop mt_pop (pe_var hN hv hd hcd) hbase hline, fun B F H σ ρ ρ' d Q r hf q => by
    unfold xPop at hf
    split at hf
    · rename_i ds e1
      obtain ⟨d', e2, e3⟩ := Option.map_eq_some_iff.mp hf
      cases e3
      obtain ⟨a, vs, h1, h2, h3, h4, h5⟩ := r.own e1
      obtain ⟨v, h6, h7⟩ := h5.get e2
      refine ⟨_, h1, tyL h4, a, vs, v, rfl, rfl, h4, by rw [h5.length]; exact h6, ?_⟩
      exact q v F _ (r.write e1 h1 h2 h3 ⟨vs.dropLast, upd_same, h5.dropLast⟩) (.refl _) h7
    · cases hf⟩
def xPopAt (j : Nat) (f : Rho → Option D) : Rho → Option (D × Rho) := fun ρ => match ρ[j]? with
  | some (.ow (.list ds)) => (f ρ).bind fun i => match i with
    | .int i => if -(2 ^ 63) ≤ i ∧ i < 2 ^ 63 then (seqIndex? i ds.length).bind fun k => (ds[k]?).map fun d => (d, ρ.set j (.ow (.list (ds.eraseIdx k)))) else none
    | _ => none
  | _ => none
theorem dx_popAt {pn : Pos} (he : DE X m e te f) (hN : X.N[j]? = some x := by rfl) (hv : Vis X.env.scope x := by first | exact Or.inl rfl | exact Or.inr (Or.inl rfl) | exact Or.inr (Or.inr rfl)) (hd : (x == ("__debug__" : Str)) = false := by decide) (hcd : (x == ("__classdict__" : Str)) = false := by decide)
    (hbase : attributeBase (.Name x pn) "pop" X.env (eval (.Name x pn) X.env) = eval (.Name x pn) X.env := by rfl)
    (hfew : ((backTo p (starEach [e] X.env)).all (fun x => !x.1) && (backToKw p (keywordEach [] X.env)).all (fun x => x.1.isSome)
      && decide ([e].length + ([] : List Keyword).length + (if ([] : List Keyword).isEmpty then 0 else 1) < 30)) = true := by rfl)
    (hline : (apos.endLine == p.line) = true := by rfl) (hs : starEach [e] X.env = (false, eval e X.env) :: starEach [] X.env := by rfl) :
    DX X (.Call (.Attribute (.Name x pn) "pop" apos) [e] [] p) (tBM X.K "list" rPopAt (tVar j) (tCons te tNil)) (xPopAt j f) :=
  ⟨pe_bm PySem.F.plainAttrs_list PySem.F.slot_list_pop PySem.F.type_list_pop mt_popAt (pe_var hN hv hd hcd) (pa_cons he.p pa_nil hs) hbase hfew hline hs rfl, fun B F H σ ρ ρ' d Q r hf q => by
    unfold xPopAt at hf
    split at hf
    · rename_i ds e1
      obtain ⟨i, e2, e3⟩ := bind_some hf
      obtain ⟨a, vs, h1, h2, h3, h4, h5⟩ := r.own e1
      refine ⟨_, h1, tyL h4, ?_⟩
      refine he.s B F H σ ρ i _ r e2 fun v F1 H1 x1 r1 => ?_
      cases i with
      | int i =>
        have e3' : (if -(2 ^ 63) ≤ i ∧ i < 2 ^ 63 then (seqIndex? i ds.length).bind fun k => (ds[k]?).map fun d => (d, ρ.set j (.ow (.list (ds.eraseIdx k)))) else none) = some (d, ρ') := e3
        by_cases hb : -(2 ^ 63) ≤ i ∧ i < 2 ^ 63
        · rw [if_pos hb] at e3'
          obtain ⟨k, e4, e5⟩ := bind_some e3'
          obtain ⟨d', e6, e7⟩ := Option.map_eq_some_iff.mp e5
          cases e7
          obtain ⟨w, h6, h7⟩ := h5.get e6
          have h8 := x1.h _ _ h4
          have hF1 : F1 a = none := x1.keepNone h2 (by rw [h4]; exact fun z => nomatch z)
          refine ⟨a, vs, i, k, w, rfl, by rw [r1.int], h8, hb.1, hb.2, by rw [h5.length]; exact e4, h6, ?_⟩
          exact q w F1 _ ((r.ext x1).write e1 h1 hF1 h3 ⟨vs.eraseIdx k, upd_same, (h5.mono x1.f).eraseIdx k⟩) x1.f (h7.mono x1.f)
        · rw [if_neg hb] at e3'; cases e3'
      | _ => cases e3
    · cases hf⟩
variable {fx : Rho → Option (D × Rho)}
/-- x = (an expression with an effect) -/
def bAsgX (i : Nat) (f : Rho → Option (D × Rho)) : Bd := fun ρ => (f ρ).bind fun z => some (.nx (z.2.set i (.im z.1)))
theorem sem_asgX {K : PySem.W.Frag} {i : Nat} (h : SemX K te fx) : SemS K m [i] (tAsg te (gName i)) (bAsgX i fx) := by
  intro B F H σ ρ o D r hb q
  obtain ⟨⟨d, ρ'⟩, h1, h2⟩ := bind_some hb
  cases h2
  exact h B F H σ ρ ρ' d _ r h1 fun v F1 H1 r1 _ rv => q _ F1 H1 (r1.setIm rv) set_keep
theorem ds_asgX {i : Nat} {x : Str} {pos' : Pos} (he : DX X e te fx) (hN : X.N.Nodup) (hi : X.N[i]? = some x := by rfl) (hx : Loc X.env.scope x := by first | exact Or.inl rfl | exact Or.inr rfl) (hs : swapsWith e (some (.Name x pos')) pos.line X.env = pure false := by rfl)
    (hf : X.fn x = true ∨ X.env.scope.names.lookup x = some .local := by first | exact .inl rfl | exact .inr rfl) : DS X m [i] (.Assign [.Name x pos'] e pos) (tAsg te (gName i)) (bAsgX i fx) := ⟨ps_set hN hi hx he.p hs hf, sem_asgX he.s⟩
/-- y.append(an expression with an effect) -/
def bAppX (j : Nat) (f : Rho → Option (D × Rho)) : Bd := fun ρ => (f ρ).bind fun z => match ρ[j]?, z.2[j]? with
  | some (.ow (.list _)), some (.ow (.list ds)) => if ds.length < sizeLine then some (.nx (z.2.set j (.ow (.list (ds ++ [z.1]))))) else none
  | _, _ => none
theorem sem_appX {K : PySem.W.Frag} (h : SemX K te fx) : SemS K m [] (tDrop (tBM K "list" rAppend (tVar j) (tCons te tNil))) (bAppX j fx) := by
  intro B F H σ ρ o D r hb q
  obtain ⟨⟨d, ρ'⟩, h1, h2⟩ := bind_some hb
  simp only at h2
  split at h2
  · rename_i ds0 ds e0 e1
    obtain ⟨hl, rfl⟩ := if_some h2
    obtain ⟨a, vs0, g1, g2, g3, g4, g5⟩ := r.own e0
    refine ⟨_, g1, tyL g4, ?_⟩
    refine h B F H σ ρ ρ' d _ r h1 fun v F1 H1 r1 s1 rv => ?_
    obtain ⟨a', vs, k1, k2, k3, k4, k5⟩ := r1.own e1
    rw [g1] at k1
    cases k1
    refine ⟨a, vs, v, rfl, rfl, k4, by rw [k5.length]; exact hl, ?_⟩
    exact q σ F1 _ (r1.write e1 g1 k2 k3 ⟨vs ++ [v], upd_same, k5.append (.cons rv .nil)⟩) fun _ _ => rfl
  · cases h2
theorem ds_appX {pn : Pos} (he : DX X e te fx) (hN : X.N[j]? = some x := by rfl) (hv : Vis X.env.scope x := by first | exact Or.inl rfl | exact Or.inr (Or.inl rfl) | exact Or.inr (Or.inr rfl)) (hd : (x == ("__debug__" : Str)) = false := by decide) (hcd : (x == ("__classdict__" : Str)) = false := by decide)
    (hbase : attributeBase (.Name x pn) "append" X.env (eval (.Name x pn) X.env) = eval (.Name x pn) X.env := by rfl)
    (hfew : ((backTo p (starEach [e] X.env)).all (fun x => !x.1) && (backToKw p (keywordEach [] X.env)).all (fun x => x.1.isSome)
      && decide ([e].length + ([] : List Keyword).length + (if ([] : List Keyword).isEmpty then 0 else 1) < 30)) = true := by rfl)
    (hline : (apos.endLine == p.line) = true := by rfl) (hs : starEach [e] X.env = (false, eval e X.env) :: starEach [] X.env := by rfl) (hsw : swapsWith (.Call (.Attribute (.Name x pn) "append" apos) [e] [] p) none pos.line X.env = pure false := by rfl) :
    DS X m [] (.Expr (.Call (.Attribute (.Name x pn) "append" apos) [e] [] p) pos) (tDrop (tBM X.K "list" rAppend (tVar j) (tCons te tNil))) (bAppX j fx) :=
  ⟨ps_expr (pe_bm PySem.F.plainAttrs_list PySem.F.slot_list_append PySem.F.type_list_append mt_append (pe_var hN hv hd hcd) (pa_cons he.p pa_nil hs) hbase hfew hline hs rfl) hsw, sem_appX he.s⟩
/-- y.append(x), x owned: frozen first -/
def bAppMv (j i : Nat) : Bd := fun ρ => match ρ[j]?, ρ[i]? with
  | some (.ow (.list ds)), some (.ow d) => if i ≠ j ∧ ds.length < sizeLine then some (.nx ((ρ.set i (.im d)).set j (.ow (.list (ds ++ [d]))))) else none
  | some (.ow (.list ds)), some (.im d) => if ds.length < sizeLine then some (.nx (ρ.set j (.ow (.list (ds ++ [d]))))) else none
  | _, _ => none
theorem sem_appMv {K : PySem.W.Frag} {i : Nat} : SemS K m [] (tDrop (tBM K "list" rAppend (tVar j) (tCons (tVar i) tNil))) (bAppMv j i) := by
  intro B F H σ ρ o D r hb q
  unfold bAppMv at hb
  split at hb
  · rename_i ds d e0 e1
    obtain ⟨⟨hij, hl⟩, rfl⟩ := if_some hb
    obtain ⟨a, vs, h1, h2, h3, h4, h5⟩ := r.own e0
    obtain ⟨F', v, s1, g1, g2, r2⟩ := r.freeze e1
    have e0' : (ρ.set i (.im d))[j]? = some (.ow (.list ds)) := by rw [List.getElem?_set_ne hij]; exact e0
    obtain ⟨a', vs', k1, k2, k3, k4, k5⟩ := r2.own e0'
    rw [h1] at k1
    cases k1
    refine ⟨_, h1, tyL h4, v, g1, a, vs', v, rfl, rfl, k4, by rw [k5.length]; exact hl, ?_⟩
    exact q σ F' _ (r2.write e0' h1 k2 k3 ⟨vs' ++ [v], upd_same, k5.append (.cons g2 .nil)⟩) fun _ _ => rfl
  · rename_i ds d e0 e1
    obtain ⟨hl, rfl⟩ := if_some hb
    obtain ⟨a, vs, h1, h2, h3, h4, h5⟩ := r.own e0
    obtain ⟨oo, g1, v, rfl, g2⟩ := r.at e1
    refine ⟨_, h1, tyL h4, v, g1, a, vs, v, rfl, rfl, h4, by rw [h5.length]; exact hl, ?_⟩
    exact q σ F _ (r.write e0 h1 h2 h3 ⟨vs ++ [v], upd_same, h5.append (.cons g2 .nil)⟩) fun _ _ => rfl
  · cases hb
theorem ds_appMv {i : Nat} {y : Str} {pn pm : Pos} (hN : X.N[j]? = some x := by rfl) (hv : Vis X.env.scope x := by first | exact Or.inl rfl | exact Or.inr (Or.inl rfl) | exact Or.inr (Or.inr rfl)) (hd : (x == ("__debug__" : Str)) = false := by decide) (hcd : (x == ("__classdict__" : Str)) = false := by decide)
    (hNi : X.N[i]? = some y := by rfl) (hvi : Vis X.env.scope y := by first | exact Or.inl rfl | exact Or.inr (Or.inl rfl) | exact Or.inr (Or.inr rfl)) (hdi : (y == ("__debug__" : Str)) = false := by decide) (hcdi : (y == ("__classdict__" : Str)) = false := by decide)
    (hbase : attributeBase (.Name x pn) "append" X.env (eval (.Name x pn) X.env) = eval (.Name x pn) X.env := by rfl)
    (hfew : ((backTo p (starEach [.Name y pm] X.env)).all (fun x => !x.1) && (backToKw p (keywordEach [] X.env)).all (fun x => x.1.isSome)
      && decide ([Expr.Name y pm].length + ([] : List Keyword).length + (if ([] : List Keyword).isEmpty then 0 else 1) < 30)) = true := by rfl)
    (hline : (apos.endLine == p.line) = true := by rfl) (hs : starEach [.Name y pm] X.env = (false, eval (.Name y pm) X.env) :: starEach [] X.env := by rfl) (hsw : swapsWith (.Call (.Attribute (.Name x pn) "append" apos) [.Name y pm] [] p) none pos.line X.env = pure false := by rfl) :
    DS X m [] (.Expr (.Call (.Attribute (.Name x pn) "append" apos) [.Name y pm] [] p) pos) (tDrop (tBM X.K "list" rAppend (tVar j) (tCons (tVar i) tNil))) (bAppMv j i) :=
  ⟨ps_expr (pe_bm PySem.F.plainAttrs_list PySem.F.slot_list_append PySem.F.type_list_append mt_append (pe_var hN hv hd hcd) (pa_cons (pe_var hNi hvi hdi hcdi) pa_nil hs) hbase hfew hline hs rfl) hsw, sem_appMv⟩
/-! x[i] = e -/
def bSet (j : Nat) (fi f : Rho → Option D) : Bd := fun ρ => (f ρ).bind fun d => match ρ[j]? with
  | some (.ow (.list ds)) => (fi ρ).bind fun i => match i with
    | .int i => (ixN ds.length i).bind fun k => some (.nx (ρ.set j (.ow (.list (ds.set k d)))))
    | _ => none
  | _ => none
theorem sem_set {K : PySem.W.Frag} {ti : TE} {fi : Rho → Option D} (h : SemE K .fz te f) (hi : SemE K m1 ti fi) : SemS K m [] (tAsg te (gSub (tVar j) ti rSetL)) (bSet j fi f) := by
  intro B F H σ ρ o D r hb q
  obtain ⟨d, h1, h2⟩ := bind_some hb
  split at h2
  · rename_i ds e1
    obtain ⟨i, h3, h4⟩ := bind_some h2
    refine h B F H σ ρ d _ r h1 fun v F1 H1 x1 r1 => ?_
    obtain ⟨a, vs, g1, g2, g3, g4, g5⟩ := (r.ext x1).own e1
    refine ⟨_, g1, ?_⟩
    refine hi B F1 H1 σ ρ i _ (r.ext x1) h3 fun w F2 H2 x2 r2 => ?_
    cases i with
    | int i =>
      obtain ⟨k, h5, h6⟩ := bind_some h4
      cases h6
      have hF2 : F2 a = none := x2.keepNone g2 (by rw [g4]; exact fun z => nomatch z)
      refine ⟨a, vs, i, k, rfl, r2.int, x2.h _ _ g4, by rw [g5.length]; exact h5, ?_⟩
      exact q σ F2 _ (((r.ext x1).ext x2).write e1 g1 hF2 g3 ⟨vs.set k v, upd_same, (g5.mono x2.f).set k (Rep.mono x2.f r1)⟩) fun _ _ => rfl
    | _ => cases h4
  · cases h2
theorem ds_set {i : Expr} {ti : TE} {fi : Rho → Option D} {pn : Pos} (he : DE X .fz e te f) (hi : DE X m1 i ti fi) (hN : X.N[j]? = some x := by rfl) (hv : Vis X.env.scope x := by first | exact Or.inl rfl | exact Or.inr (Or.inl rfl) | exact Or.inr (Or.inr rfl)) (hd : (x == ("__debug__" : Str)) = false := by decide) (hcd : (x == ("__classdict__" : Str)) = false := by decide)
    (ha : ∀ v, assign (.Subscript (.Name x pn) i p) X.env v = (do
      let ov ← holding [v] (eval (.Name x pn) X.env)
      let iv ← holding [v, ov] (eval i X.env)
      standAt p
      holding [v, ov, iv] (setItem ov iv v)
      release [v, ov, iv] []) := by intro _; rfl) (hs : swapsWithSole [.Subscript (.Name x pn) i p] e pos.line X.env = pure false := by rfl) (hw : swappedStores [.Subscript (.Name x pn) i p] e X.env = pure none := by rfl)
    (h1 : (assignEach [.Subscript (.Name x pn) i p] X.env).map (·.2) = [assign (.Subscript (.Name x pn) i p) X.env] := by rfl) : DS X m [] (.Assign [.Subscript (.Name x pn) i p] e pos) (tAsg te (gSub (tVar j) ti rSetL)) (bSet j fi f) :=
  ⟨ps_asg he.p (pg_sub (pe_var hN hv hd hcd) hi.p set_list ha) hs hw h1, sem_set he.s hi.s⟩
/-! x += e, x a number or a text -/
def augD (op : D → D → Option D) (i : Nat) (f : Rho → Option D) : Bd := fun ρ => match ρ[i]? with
  | some (.im d) => (f ρ).bind fun e => (op d e).bind fun z => some (.nx (ρ.set i (.im z)))
  | _ => none
theorem sem_aug {K : PySem.W.Frag} {i : Nat} {r2 : R2} {g : D → D → Option D} (hs : OpS K .fz r2 g) (h : SemE K m1 te f) : SemS K m [i] (tAug i te r2) (augD g i f) := by
  intro B F H σ ρ o D r hb q
  unfold augD at hb
  split at hb
  · rename_i d e1
    obtain ⟨e, h1, h2⟩ := bind_some hb
    obtain ⟨z, h3, h4⟩ := bind_some h2
    cases h4
    obtain ⟨oo, g1, v, rfl, g2⟩ := r.at e1
    refine ⟨v, g1, ?_⟩
    refine h B F H σ ρ e _ r h1 fun w F1 H1 x1 r1 => ?_
    exact hs F1 H1 H H v w d e z _ x1.s (Or.inl (g2.mono x1.f)) r1.any h3 fun u F2 H2 x2 r3 => q _ F2 H2 (((r.ext x1).ext x2).setIm r3) set_keep
  · cases hb
def addS : D → D → Option D
  | .int i, .int j => some (.int (i + j))
  | .str a, .str b => if a.length + b.length ≤ sizeLine then some (.str (a ++ b)) else none
  | _, _ => none
def rAddS : R2 := fun x y H Q => rI0 (fun i j => .int (i + j)) x y H Q ∨ (∃ i j, x = .str i ∧ y = .str j ∧ i.length + j.length ≤ sizeLine ∧ Q (.str (i ++ j)) H)
theorem iop_addS : OpR X (inplaceOp .Add) rAddS := iop_add.or iop_add_str
theorem ops_addS {K : PySem.W.Frag} : OpS K .fz rAddS addS := by
  intro F H Ha Hb x y d e z Q fh r1 r2 hz q
  cases d with
  | int i =>
    cases e with
    | int j => cases hz; exact .inl ⟨i, j, r1.int, r2.int, q _ F H (.refl fh) (Rep.int _)⟩
    | _ => cases hz
  | str i =>
    cases e with
    | str j =>
      obtain ⟨hl, rfl⟩ := if_some hz
      exact .inr ⟨i, j, r1.str, r2.str, hl, q _ F H (.refl fh) (Rep.str _)⟩
    | _ => cases hz
  | _ => cases hz
theorem ds_augAdd {i : Nat} {pos' : Pos} (he : DE X m1 e te f) (hN : X.N.Nodup) (hi : X.N[i]? = some x := by rfl) (hx : Loc X.env.scope x := by first | exact Or.inl rfl | exact Or.inr rfl)
    (hf : X.fn x = true ∨ X.env.scope.names.lookup x = some .local := by first | exact .inl rfl | exact .inr rfl) : DS X m [i] (.AugAssign (.Name x pos') .Add e pos) (tAug i te rAddS) (augD addS i f) := ⟨ps_aug hN hi hx he.p iop_addS hf, sem_aug ops_addS he.s⟩
theorem ds_augSub {i : Nat} {pos' : Pos} (he : DE X m1 e te f) (hN : X.N.Nodup) (hi : X.N[i]? = some x := by rfl) (hx : Loc X.env.scope x := by first | exact Or.inl rfl | exact Or.inr rfl)
    (hf : X.fn x = true ∨ X.env.scope.names.lookup x = some .local := by first | exact .inl rfl | exact .inr rfl) : DS X m [i] (.AugAssign (.Name x pos') .Sub e pos) (tAug i te (rI0 fun i j => .int (i - j))) (augD subD i f) := ⟨ps_aug hN hi hx he.p iop_sub hf, sem_aug ops_sub he.s⟩
/-- an expression for nothing -/
def bDrop (f : Rho → Option D) : Bd := fun ρ => (f ρ).bind fun _ => some (.nx ρ)
theorem ds_drop (he : DE X m1 e te f) (hs : swapsWith e none pos.line X.env = pure false := by rfl) : DS X m [] (.Expr e pos) (tDrop te) (bDrop f) := ⟨ps_expr he.p hs, fun B F H σ ρ o D r hb q => by
  obtain ⟨d, h1, h2⟩ := bind_some hb
  cases h2
  exact he.s B F H σ ρ d _ r h1 fun v F1 H1 x1 r1 => q σ F1 H1 (r.ext x1) fun _ _ => rfl⟩
theorem ds_doc {z : Str} {k : Nat} {p' : Pos} : DS X m [] (.Expr (.Constant (.str z) k p') pos) tNext bNext := ⟨ps_doc, fun B F H σ ρ o D r hb e => by cases hb; exact e σ F H r fun _ _ => rfl⟩
/-! (*xs, e) -/
def aStar (f : Rho → Option D) (fs : Rho → Option (List D)) : Rho → Option (List D) := fun ρ => (f ρ).bind fun d => (itemsD d).bind fun ds => (fs ρ).bind fun es => some (ds ++ es)
/-- a row with stars: no length known -/
structure DAs (X : Cx) (m : Md) (es : List Expr) (t : TA) (f : Rho → Option (List D)) : Prop where
  p : PA X es t
  s : SemA X.K m t f
variable {es : List Expr} {t : TA} {fs : Rho → Option (List D)}
theorem das_nil : DAs X m [] tNil aNil := ⟨pa_nil, (da_nil (X := X)).s⟩
theorem sem_cons {K : PySem.W.Frag} (ha : SemE K m te f) (hr : SemA K m t fs) : SemA K m (tCons te t) (aCons f fs) := fun B F H σ ρ ds Q rel hf q => by
  obtain ⟨d, h1, h2⟩ := bind_some hf
  obtain ⟨ds', h3, h4⟩ := bind_some h2
  cases h4
  refine ha B F H σ ρ d _ rel h1 fun x F1 H1 x1 r1 => ?_
  exact hr B F1 H1 σ ρ ds' _ (rel.ext x1) h3 fun xs F2 H2 x2 r2 => q _ F2 H2 (x1.trans x2) (.cons (r1.mono x2) (r2.back x1.h))
theorem das_cons (ha : DE X m e te f) (hr : DAs X m es t fs) (hs : starEach (e :: es) X.env = (false, eval e X.env) :: starEach es X.env := by rfl) : DAs X m (e :: es) (tCons te t) (aCons f fs) := ⟨pa_cons ha.p hr.p hs, sem_cons ha.s hr.s⟩
theorem resA_app {K : PySem.W.Frag} {H0 F H : Hp} : ∀ {vs ws : List V} {ds es : List D}, RepA K F vs ds → ResA K .fz H0 F H ws es → ResA K .fz H0 F H (vs ++ ws) (ds ++ es)
  | _, _, _, _, .nil, s => s
  | _, _, _, _, .cons h r, s => .cons (show Res K .fz H0 F H _ _ from h) (resA_app r s)
theorem das_star {p : Pos} (ha : DE X m1 e te f) (hr : DAs X .fz es t fs) (hs : starEach (.Starred e p :: es) X.env = (true, eval e X.env) :: starEach es X.env := by rfl) : DAs X .fz (.Starred e p :: es) (StX.tStar X.K te t) (aStar f fs) :=
  ⟨StX.pa_star ha.p hr.p hs, fun B F H σ ρ ds Q rel hf q => by
    obtain ⟨d, h1, h2⟩ := bind_some hf
    obtain ⟨es', h3, h4⟩ := bind_some h2
    obtain ⟨ds', h5, h6⟩ := bind_some h4
    cases h6
    refine ha.s B F H σ ρ d _ rel h1 fun x F1 H1 x1 r1 => ?_
    obtain ⟨a, xs, rfl, s1, p1⟩ := r1.items x1.s h3
    refine ⟨a, xs, rfl, s1.symm, ?_⟩
    exact hr.s B F1 H1 σ ρ ds' _ (rel.ext x1) h5 fun ys F2 H2 x2 r2 => q _ F2 H2 (x1.trans x2) (resA_app (p1.mono x2.f) (r2.back x1.h))⟩
theorem das_starK (K' : PySem.W.Frag) {p : Pos} (ha : DE X m1 e te f) (hr : DAs X .fz es t fs) (hs : starEach (.Starred e p :: es) X.env = (true, eval e X.env) :: starEach es X.env := by rfl) (hK : X.K = K' := by rfl) : DAs X .fz (.Starred e p :: es) (StX.tStar K' te t) (aStar f fs) := by
  subst hK
  exact das_star (ha := ha) (hr := hr) (hs := hs)
def fTupS (fs : Rho → Option (List D)) : Rho → Option D := fun ρ => (fs ρ).bind fun ds => if ds.length ≤ sizeLine then some (.tuple ds) else none
def fLstS (fs : Rho → Option (List D)) : Rho → Option D := fun ρ => (fs ρ).bind fun ds => if ds.length ≤ sizeLine then some (.list ds) else none
theorem de_tupS {k : Nat} (h : DAs X .fz es t fs) : DE X .fz (.Tuple es k pos) (tTupF t) (fTupS fs) := ⟨pe_tupF h.p, fun B F H σ ρ d Q rel hf q => by
  obtain ⟨ds, h1, h2⟩ := bind_some hf
  obtain ⟨hl, rfl⟩ := if_some h2
  exact h.s B F H σ ρ ds _ rel h1 fun xs F1 H1 x1 r1 => ⟨by rw [r1.length]; exact hl, newT_rep x1 r1.rep q⟩⟩
theorem de_lstS (h : DAs X .fz es t fs) : DE X .fr (.List es pos) (tLst t) (fLstS fs) := ⟨pe_lst h.p, fun B F H σ ρ d Q rel hf q => by
  obtain ⟨ds, h1, h2⟩ := bind_some hf
  obtain ⟨hl, rfl⟩ := if_some h2
  exact h.s B F H σ ρ ds _ rel h1 fun xs F1 H1 x1 r1 => ⟨by rw [r1.length]; exact hl, newL_res x1 r1.rep q⟩⟩
end
end Q
end

/-! part: Q11 -/
section
set_option Elab.async false
set_option linter.all false
set_option maxRecDepth 100000
set_option maxHeartbeats 4000000
set_option autoImplicit false
namespace Q
open PySem PySem.Spec PySem.Calls PyProof.Rows L2
/-! ### x, y = a, b -/
section
variable {X : Cx} {m m1 : Md} {a b c e : Expr} {te : TE} {f : Rho → Option D} {ta : TA} {fs : Rho → Option (List D)} {p p2 pos px py pz pt : Pos} {kt k2 : Nat} {pt2 : Pos} {x y z : Str}
def bPar (i j : Nat) (fs : Rho → Option (List D)) : Bd := fun ρ => (fs ρ).bind fun ds => match ds with
  | [d, e] => some (.nx ((ρ.set i (.im d)).set j (.im e)))
  | _ => none
def bPar3 (i j l : Nat) (fs : Rho → Option (List D)) : Bd := fun ρ => (fs ρ).bind fun ds => match ds with
  | [d, e, g] => some (.nx (((ρ.set i (.im d)).set j (.im e)).set l (.im g)))
  | _ => none
theorem sem_par {K : PySem.W.Frag} {i j : Nat} (h : SemA K .fz ta fs) : SemS K m [i, j] (tPar i j ta) (bPar i j fs) := by
  intro B F H σ ρ o D r hb q
  obtain ⟨ds, h1, h2⟩ := bind_some hb
  match ds, h1, h2 with
  | [d, e], h1, h2 =>
    cases h2
    refine h B F H σ ρ _ _ r h1 fun vs F1 H1 x1 r1 => ?_
    obtain ⟨v, w, rfl, r2, r3⟩ := resA2 r1
    refine ⟨v, w, rfl, q _ F1 H1 (((r.ext x1).setIm r2).setIm r3) fun k hk => ?_⟩
    have h4 : k ≠ i ∧ k ≠ j := by simpa using hk
    rw [List.getElem?_set_ne (Ne.symm h4.2), List.getElem?_set_ne (Ne.symm h4.1)]
theorem resA3 {K : PySem.W.Frag} {m : Md} {H0 F H : Hp} {vs : List V} {d e g : D} (h : ResA K m H0 F H vs [d, e, g]) : ∃ u v w, vs = [u, v, w] ∧ Res K m H0 F H u d ∧ Res K m H0 F H v e ∧ Res K m H0 F H w g := by
  cases h with
  | cons h1 r => cases r with
    | cons h2 r => cases r with
      | cons h3 r => cases r; exact ⟨_, _, _, rfl, h1, h2, h3⟩
theorem sem_par3 {K : PySem.W.Frag} {i j l : Nat} (h : SemA K .fz ta fs) : SemS K m [i, j, l] (tPar3 i j l ta) (bPar3 i j l fs) := by
  intro B F H σ ρ o D r hb q
  obtain ⟨ds, h1, h2⟩ := bind_some hb
  match ds, h1, h2 with
  | [d, e, g], h1, h2 =>
    cases h2
    refine h B F H σ ρ _ _ r h1 fun vs F1 H1 x1 r1 => ?_
    obtain ⟨u, v, w, rfl, r2, r3, r4⟩ := resA3 r1
    refine ⟨u, v, w, rfl, q _ F1 H1 ((((r.ext x1).setIm r2).setIm r3).setIm r4) fun k hk => ?_⟩
    have h4 : k ≠ i ∧ k ≠ j ∧ k ≠ l := by simpa using hk
    rw [List.getElem?_set_ne (Ne.symm h4.2.2), List.getElem?_set_ne (Ne.symm h4.2.1), List.getElem?_set_ne (Ne.symm h4.1)]
theorem ds_par {i j : Nat} (ha : DA X .fz [a, b] ta fs) (hN : X.N.Nodup) (hi : X.N[i]? = some x := by rfl) (hj : X.N[j]? = some y := by rfl) (hij : i ≠ j := by decide)
    (hx : X.env.scope.names.lookup x = some .local := by rfl) (hy : X.env.scope.names.lookup y = some .local := by rfl)
    (hw : swappedStores [.Tuple [.Name x px, .Name y py] kt pt] (.Tuple [a, b] k2 pt2) X.env = pure (some [x, y]) := by rfl)
    (hs : swapsWithSole [.Tuple [.Name x px, .Name y py] kt pt] (.Tuple [a, b] k2 pt2) pos.line X.env = pure false := by rfl) (hc : X.calm = true := by rfl) :
    DS X m [i, j] (.Assign [.Tuple [.Name x px, .Name y py] kt pt] (.Tuple [a, b] k2 pt2) pos) (tPar i j ta) (bPar i j fs) := ⟨ps_par hc hN hi hj hij hx hy ha.p hw hs, sem_par ha.s⟩
theorem ds_par3 {i j l : Nat} (ha : DA X .fz [a, b, c] ta fs) (hN : X.N.Nodup) (hi : X.N[i]? = some x := by rfl) (hj : X.N[j]? = some y := by rfl) (hl : X.N[l]? = some z := by rfl) (hij : i ≠ j := by decide) (hil : i ≠ l := by decide) (hjl : j ≠ l := by decide)
    (hx : X.env.scope.names.lookup x = some .local := by rfl) (hy : X.env.scope.names.lookup y = some .local := by rfl) (hz : X.env.scope.names.lookup z = some .local := by rfl)
    (hw : swappedStores [.Tuple [.Name x px, .Name y py, .Name z pz] kt pt] (.Tuple [a, b, c] k2 pt2) X.env = pure (some [x, y, z]) := by rfl)
    (hs : swapsWithSole [.Tuple [.Name x px, .Name y py, .Name z pz] kt pt] (.Tuple [a, b, c] k2 pt2) pos.line X.env = pure false := by rfl) (hc : X.calm = true := by rfl) :
    DS X m [i, j, l] (.Assign [.Tuple [.Name x px, .Name y py, .Name z pz] kt pt] (.Tuple [a, b, c] k2 pt2) pos) (tPar3 i j l ta) (bPar3 i j l fs) := ⟨ps_par3 hc hN hi hj hl hij hil hjl hx hy hz ha.p hw hs, sem_par3 ha.s⟩
/-- target = e, the target a tuple of names (or more) -/
def bAsgG (f : Rho → Option D) (s : D → Rho → Option Rho) : Bd := fun ρ => (f ρ).bind fun d => (s d ρ).bind fun ρ' => some (.nx ρ')
theorem ds_asgG {W : List Nat} {tg : Expr} {g : TG} {s : D → Rho → Option Rho} (he : DE X .fz e te f) (hg : DG false X W tg g s) (hs : swapsWithSole [tg] e pos.line X.env = pure false := by rfl) (hw : swappedStores [tg] e X.env = pure none := by rfl)
    (h1 : (assignEach [tg] X.env).map (·.2) = [assign tg X.env] := by rfl) : DS X m W (.Assign [tg] e pos) (tAsg te g) (bAsgG f s) := ⟨ps_asg he.p hg.p hs hw h1, fun B F H σ ρ o D r hb q => by
  obtain ⟨d, e1, e2⟩ := bind_some hb
  obtain ⟨ρ', e3, e4⟩ := bind_some e2
  cases e4
  refine he.s B F H σ ρ d _ r e1 fun v F1 H1 x1 r1 => ?_
  exact hg.s B F1 H1 σ ρ ρ' v d _ (r.ext x1) (.inl r1) e3 fun σ' r' k' _ => q σ' F1 H1 r' k'⟩
/-! ### len(set(xs)), ints -/
def dedupI : List Int → List Int
  | [] => []
  | n :: ns => if n ∈ ns then dedupI ns else n :: dedupI ns
theorem dedupI_mem (k : Int) : ∀ ns : List Int, k ∈ dedupI ns ↔ k ∈ ns
  | [] => by simp [dedupI]
  | n :: ns => by
    unfold dedupI
    by_cases h : n ∈ ns
    · rw [if_pos h, dedupI_mem k ns, List.mem_cons]
      exact ⟨.inr, fun z => z.elim (fun e => e ▸ h) id⟩
    · rw [if_neg h, List.mem_cons, List.mem_cons, dedupI_mem k ns]
theorem dedupI_nodup : ∀ ns : List Int, (dedupI ns).Nodup
  | [] => by simp [dedupI]
  | n :: ns => by
    unfold dedupI
    by_cases h : n ∈ ns
    · rw [if_pos h]; exact dedupI_nodup ns
    · rw [if_neg h, List.nodup_cons]; exact ⟨fun z => h ((dedupI_mem n ns).mp z), dedupI_nodup ns⟩
theorem dedup_len {l ns : List Int} (h : l.Nodup) (hm : ∀ k, k ∈ l ↔ k ∈ ns) : l.length = (dedupI ns).length :=
  ((List.perm_ext_iff_of_nodup h (dedupI_nodup ns)).mpr fun k => (hm k).trans (dedupI_mem k ns).symm).length_eq
theorem firstMet_all (f : Nat → Int) : ∀ i, (firstMet f i).Nodup ∧ ∀ k, k ∈ firstMet f i ↔ ∃ j, j < i ∧ f j = k
  | 0 => ⟨by simp [firstMet_zero], fun k => by simp [firstMet_zero]⟩
  | i + 1 => by
    obtain ⟨h1, h2⟩ := firstMet_all f i
    have key : ∀ k, (∃ j, j < i + 1 ∧ f j = k) ↔ (∃ j, j < i ∧ f j = k) ∨ f i = k := fun k => by
      constructor
      · rintro ⟨j, hj, e⟩
        by_cases z : j = i
        · subst z; exact .inr e
        · exact .inl ⟨j, by omega, e⟩
      · rintro (⟨j, hj, e⟩ | e)
        · exact ⟨j, by omega, e⟩
        · exact ⟨i, by omega, e⟩
    rw [firstMet_succ]
    unfold step_dedup
    cases hb : (firstMet f i).any (· == f i) with
    | true =>
      obtain ⟨y, hy, ey⟩ := List.any_eq_true.mp hb
      have ey2 : y = f i := eq_of_beq ey
      subst ey2
      refine ⟨by simpa using h1, fun k => ?_⟩
      rw [key, ← h2 k]
      simp only [if_true]
      exact ⟨.inl, fun z => z.elim id fun e => e ▸ hy⟩
    | false =>
      have hn : f i ∉ firstMet f i := fun z => by
        have : (firstMet f i).any (· == f i) = true := List.any_eq_true.mpr ⟨_, z, by simp⟩
        rw [hb] at this; cases this
      simp only [Bool.false_eq_true, if_false]
      refine ⟨?_, fun k => ?_⟩
      · rw [List.nodup_append]
        exact ⟨h1, by simp, fun a ha b hb e => by
          have hb' : b = f i := by simpa using hb
          subst hb'; subst e; exact hn ha⟩
      · rw [key, ← h2 k, List.mem_append, List.mem_singleton]
        exact ⟨fun z => z.imp id fun e => e.symm, fun z => z.imp id fun e => e.symm⟩
theorem firstMet_len (ns : List Int) : (firstMet (fun i => ns.getD i 0) ns.length).length = (dedupI ns).length := by
  obtain ⟨h1, h2⟩ := firstMet_all (fun i => ns.getD i 0) ns.length
  refine dedup_len h1 fun k => (h2 k).trans ?_
  constructor
  · rintro ⟨j, hj, e⟩
    rw [List.getD_eq_getElem?_getD, List.getElem?_eq_getElem hj] at e
    have e' : ns[j] = k := e
    exact e' ▸ List.getElem_mem hj
  · intro h
    obtain ⟨j, hj, e⟩ := List.mem_iff_getElem.mp h
    exact ⟨j, hj, by show ns.getD j 0 = k; rw [List.getD_eq_getElem?_getD, List.getElem?_eq_getElem hj]; exact e⟩
def tLenSetA (K : PySem.W.Frag) (ta : TE) : TE := fun σ H Q => ta σ H fun x H1 => ∃ (l : Addr) (ns : List Int), x = .ref l ∧ SqA K H1 l (ns.map V.int) ∧ ns.length ≤ 4000 ∧ Q (.int ((dedupI ns).length : Nat)) H1
theorem pe_lenSetA {a : Expr} {ta : TE} {p p2 q pos : Pos} (hg : Gl X "len") (hm : X.mg "len" = none) (hg2 : Gl X "set") (hm2 : X.mg "set" = none) (ha : PE X a ta) (hc : X.calm = true := by rfl)
    (na : starEach [a] X.env = (false, eval a X.env) :: starEach [] X.env := by rfl) : PE X (.Call (.Name "len" p) [.Call (.Name "set" p2) [a] [] q] [] pos) (tLenSetA X.K ta) := by
  refine ⟨fun pins s σ H Q I h => ?_⟩
  refine Call_ (ld_blt I hg hm PySem.boot_len ?_)
  refine PyProof.Rows.callWith_builtin1 (PyProof.Rows.args_cons ?_ rfl) rfl rfl
  refine Call_ (ld_blt I hg2 hm2 PyProof.Rows.boot_set ?_)
  refine PyProof.Rows.callWith_type1 (PyProof.Rows.args_cons (thn (ha.run pins s σ H _ I h) fun v s1 ⟨x, H1, I1, r1, q1⟩ => PyProof.Rows.args_nil ?_) na) na rfl
  obtain ⟨l, ns, rfl, hq, hl, q1⟩ := q1
  cases r1
  rcases hq with hq | hq
  · obtain ⟨its, r, pl, hz⟩ := I1.list hq
    have hlen : its.toArray.size = ns.length := by rw [List.size_toArray, ← r.length, List.length_map]
    refine call_set_list (I1.ok.hd hc) pl.isList (by simpa using RZ.intsAre_vals r) (by rw [hlen]; unfold scanBound; omega) fun h' tk hS hk => ?_
    refine PyProof.Rows.args_nil ?_
    rw [hlen, firstMet_len] at hS
    obtain ⟨o, es, ep, t, ho, hex, hd, _, _, _, hf, hn⟩ := hS
    have hle : (dedupI ns).length ≤ 4000 := by
      rw [← firstMet_len]
      exact Nat.le_trans (firstMet_length_le _ _) hl
    have I2 : Inv X pins σ H1 { s1 with heap := h', toks := tk } := I1.kept fun b o e => hk b o (Heap.lt_size e) e
    exact call_len_set ho hex hd hf (by rw [hn] <;> omega) ⟨.int (dedupI ns).length, H1, I2.tok _, ⟨_, by rw [hn]⟩, q1⟩
  · obtain ⟨its, r, pl, hz⟩ := I1.tuple hq
    refine call_set_tupI ns (I1.ok.hd hc) pl (by simpa using RZ.intsAre_vals r) (by unfold scanBound; omega) fun h' tk c hS hcl hk => ?_
    refine PyProof.Rows.args_nil ?_
    obtain ⟨o, es, ep, t, ho, hex, hd, _, nd, hmm, hb, hf, hn, _⟩ := hS
    have e1 : es.size = (dedupI ns).length := by
      have := dedup_len nd fun k => ((hmm k).symm.trans (by simp) : k ∈ es.toList.map keyOf ↔ k ∈ ns)
      simpa using this
    have I2 : Inv X pins σ H1 { s1 with heap := h', toks := tk } := I1.kept fun b o e => hk b o e
    exact call_len_set ho hex hd hf (by rw [hn] <;> omega) ⟨.int (dedupI ns).length, H1, I2.tok _, ⟨_, by rw [e1]⟩, q1⟩
def fLenSet (f : Rho → Option D) : Rho → Option D := fun ρ => (f ρ).bind fun d => (itemsD d).bind fun ds => (intsOf ds).bind fun ns => if ns.length ≤ 4000 then some (.int ((dedupI ns).length : Nat)) else none
theorem de_lenSet {a : Expr} {fa : Rho → Option D} {p p2 q pos : Pos} (hg : Gl X "len") (hm : X.mg "len" = none) (hg2 : Gl X "set") (hm2 : X.mg "set" = none) (ha : DE X m1 a te fa) (hc : X.calm = true := by rfl)
    (na : starEach [a] X.env = (false, eval a X.env) :: starEach [] X.env := by rfl) : DE X .fz (.Call (.Name "len" p) [.Call (.Name "set" p2) [a] [] q] [] pos) (tLenSetA X.K te) (fLenSet fa) :=
  ⟨pe_lenSetA hg hm hg2 hm2 ha.p hc na, fun B F H σ ρ z Q r hf q => by
    obtain ⟨d, h1, h2⟩ := bind_some hf
    obtain ⟨ds, h3, h4⟩ := bind_some h2
    obtain ⟨ns, h5, h6⟩ := bind_some h4
    obtain ⟨h7, rfl⟩ := if_some h6
    refine ha.s B F H σ ρ d _ r h1 fun v F1 H1 x1 r1 => ?_
    obtain ⟨a, xs, rfl, s1, p1⟩ := r1.items x1.s h3
    cases intsOf_map h5
    refine ⟨a, ns, rfl, ?_, h7, q _ F1 H1 x1 (Rep.int _)⟩
    rw [← p1.ints]
    exact s1⟩
theorem de_lenSetK (K' : PySem.W.Frag) {a : Expr} {fa : Rho → Option D} {p p2 q pos : Pos} (hg : Gl X "len") (hm : X.mg "len" = none) (hg2 : Gl X "set") (hm2 : X.mg "set" = none) (ha : DE X m1 a te fa) (hc : X.calm = true := by rfl) (na : starEach [a] X.env = (false, eval a X.env) :: starEach [] X.env := by rfl) (hK : X.K = K' := by rfl) : DE X .fz (.Call (.Name "len" p) [.Call (.Name "set" p2) [a] [] q] [] pos) (tLenSetA K' te) (fLenSet fa) := by
  subst hK
  exact de_lenSet (hg := hg) (hm := hm) (hg2 := hg2) (hm2 := hm2) (ha := ha) (hc := hc) (na := na)
/-! ### a tuple times an int -/
def rRepF (K : PySem.W.Frag) : R2 := fun x y H Q => ∃ l k xs, x = .ref l ∧ y = .int k ∧ SqT K H l xs ∧ xs ≠ [] ∧ 2 ≤ k ∧ k ≤ 1000 ∧ xs.length ≤ 1000 ∧ NewT (List.replicate k.toNat xs).flatten H Q
theorem op_repF : OpR X (binaryOp .Mult) (rRepF X.K) := by
  intro pins s σ H x y v u Q I rx ry h
  obtain ⟨l, k, xs, rfl, rfl, hT, hne, h1, h2, hz, q⟩ := h
  cases rx
  obtain ⟨t, rfl⟩ := ry
  obtain ⟨its, r, ⟨⟨cls, dd, data, sl⟩, ho, hc, n, hd⟩, hs⟩ := I.tuple hT
  simp only at hc hd
  subst hc hd
  have hle : its.length = xs.length := r.length.symm
  have hn : its ≠ [] := fun e => hne (by
    rw [e] at hle
    exact List.eq_nil_of_length_eq_zero hle.symm)
  have hi : its.toArray.isEmpty = false := by
    cases its with
    | nil => exact absurd rfl hn
    | cons a b => rfl
  have hsz0 : its.toArray.size = xs.length := by rw [List.size_toArray, hle]
  have hm : ((its.toArray.size : Nat) : Int) * k ≤ 1000000 := by
    rw [hsz0]
    have a1 : ((xs.length : Nat) : Int) * k ≤ 1000 * k := Int.mul_le_mul_of_nonneg_right (by omega) (by omega)
    omega
  have flen : (List.replicate k.toNat its).flatten.length ≤ sizeLine := by
    rw [PyProof.Rows.lm_len_rep_flat, hle, sizeLine_eq]
    have a1 : k.toNat * xs.length ≤ 1000 * 1000 := Nat.mul_le_mul (by omega) hz
    omega
  have c0 : (decide (k < -(2 ^ 63)) || decide (k ≥ 2 ^ 63)) = false := by
    rw [decide_eq_false (by omega), decide_eq_false (by omega)] <;> rfl
  have c1 : (its.toArray.isEmpty || k == 1) = false := by
    rw [hi, Bool.false_or]
    exact beq_eq_false_iff_ne.mpr (by omega)
  have c2 : (decide (k ≤ 0) || its.toArray.isEmpty) = false := by
    rw [hi, Bool.or_false]
    exact decide_eq_false (by omega)
  have c4 : Builtin.Tuple.tupleTooMany (((its.toArray.size : Nat) : Int) * k) = false := by
    unfold Builtin.Tuple.tupleTooMany
    rw [sizeLine_eq]
    exact decide_eq_false (by omega)
  refine wpAny_binaryOp_repeat_ref (T := "tuple") (U := "int") (by decide) ⟨_, ho, rfl⟩ (fun s' => typeIs_int s' k t) noFill_tuple_mul PySem.F.fills_int_mul PySem.F.slot_int_rmul repeat_tuple PySem.F.slot_int_index.lookup
    (call_meets PySem.F.slot_int_rmul (typeIs_int s k t) PySem.F.entry_int_rmul (PySem.F.args_int_rmul_2 _ _) (int_rmul_tuple k t l its.toArray n dd sl)
      ⟨ho, rfl, ⟨_, ho, rfl⟩, call_meets PySem.F.slot_tuple_mul ⟨_, ho, rfl⟩ PySem.F.entry_tuple_mul (PySem.F.args_tuple_mul_2 _ _) (tuple_mulW l its.toArray n dd sl k t c0 c1 c2 (by omega) c4 (by rw [size_rep, List.size_toArray]; exact flen)) ⟨ho, ?_⟩⟩)
  rw [size_rep]
  refine ⟨.ref s.heap.objs.size, _, I.laidT (t' := s.toks) (r.rep k.toNat) (by rw [PyProof.Rows.lm_len_rep_flat, sizeLine_eq]; have a1 : k.toNat * xs.length ≤ 1000 * 1000 := Nat.mul_le_mul (by omega) hz; omega), rfl, q _ _ (I.hok.fresh (Nat.le_refl _)) rfl rfl⟩
theorem op_repFK (K' : PySem.W.Frag) (hK : X.K = K' := by rfl) : OpR X (binaryOp .Mult) (rRepF K') := by
  subst hK
  exact op_repF 
theorem RepA.rep {K : PySem.W.Frag} {F : Hp} {vs : List V} {ds : List D} (r : RepA K F vs ds) : ∀ n : Nat, RepA K F (List.replicate n vs).flatten (List.replicate n ds).flatten
  | 0 => .nil
  | n + 1 => by rw [List.replicate_succ, List.replicate_succ, List.flatten_cons, List.flatten_cons]; exact r.append (RepA.rep r n)
def repTD : D → D → Option D
  | .tuple ds, .int k => if ds ≠ [] ∧ 2 ≤ k ∧ k ≤ 1000 ∧ ds.length ≤ 1000 then some (.tuple (List.replicate k.toNat ds).flatten) else none
  | _, _ => none
theorem ops_repT {K : PySem.W.Frag} : OpS K .fz (rRepF K) repTD := by
  intro F H Ha Hb x y d e z Q fh r1 r2 hz q
  match d, e, r1, r2, hz with
  | .tuple ds, .int k, r1, r2, hz =>
    obtain ⟨⟨h1, h2, h3, h4⟩, rfl⟩ := if_some hz
    obtain ⟨a, vs, rfl, s1, p1⟩ := r1.tup fh
    exact ⟨a, k, vs, rfl, r2.int, s1.sq, fun e0 => h1 (by subst e0; cases p1; rfl), h2, h3, by rw [p1.length]; exact h4, newT_rep (.refl fh) (p1.rep _) q⟩
/-! ### a list times an int: a new list -/
def repLD : D → D → Option D
  | .list ds, .int k => if -(2 ^ 63) ≤ k ∧ k < 2 ^ 63 ∧ ds.length * k.toNat ≤ sizeLine then some (.list (List.replicate k.toNat ds).flatten) else none
  | _, _ => none
/-- [..] * e -/
theorem de_repL {es : List Expr} (ha : DE X .fr (.List es p) te f) {tb : TE} {fb : Rho → Option D} (hb : DE X m1 b tb fb) : DE X .fr (.BinOp (.List es p) .Mult b pos) (tOp rRep te tb) (f2 repLD f fb) :=
  ⟨pe_op op_rep ha.p hb.p, fun B F H σ ρ z Q r hf q => by
    obtain ⟨d, h1, h2⟩ := bind_some hf
    obtain ⟨e, h3, h4⟩ := bind_some h2
    refine ha.s B F H σ ρ d _ r h1 fun v F1 H1 x1 r1 => ?_
    refine hb.s B F1 H1 σ ρ e _ (r.ext x1) h3 fun u F2 H2 x2 r2 => ?_
    match d, e, r1, r2, h4 with
    | .list ds, .int k, r1, r2, h4 =>
      obtain ⟨⟨h5, h6, h7⟩, rfl⟩ := if_some h4
      obtain ⟨a, rfl, h0, hf, xs, hH, ra⟩ := r1
      refine ⟨a, k, xs, rfl, r2.int, x2.h _ _ hH, h5, h6, by rw [ra.length]; exact h7, ?_⟩
      exact newL_res (x1.trans x2) ((ra.mono x2.f).rep _) fun v' F' H' x' r' => q v' F' H' x' (r'.back (F1 := F1) (.refl _))⟩
end
end Q
end

/-! part: Q12 -/
section
set_option Elab.async false
set_option linter.all false
set_option maxRecDepth 100000
set_option maxHeartbeats 4000000
set_option autoImplicit false
namespace Q
open PySem PySem.Spec PySem.Calls PyProof.Rows L2
theorem bt_len : bootBuiltins "len" = some (.builtin "len") := by decide +kernel
theorem bt_sorted : bootBuiltins "sorted" = some (.builtin "sorted") := by decide +kernel
theorem bt_sum : bootBuiltins "sum" = some (.builtin "sum") := by decide +kernel
theorem bt_min : bootBuiltins "min" = some (.builtin "min") := by decide +kernel
theorem bt_max : bootBuiltins "max" = some (.builtin "max") := by decide +kernel
theorem bt_abs : bootBuiltins "abs" = some (.builtin "abs") := by decide +kernel
theorem bt_all : bootBuiltins "all" = some (.builtin "all") := by decide +kernel
theorem bt_any : bootBuiltins "any" = some (.builtin "any") := by decide +kernel
theorem bt_isinstance : bootBuiltins "isinstance" = some (.builtin "isinstance") := by decide +kernel
theorem bt_int : bootBuiltins "int" = some (.type "int") := by decide +kernel
theorem bt_bool : bootBuiltins "bool" = some (.type "bool") := by decide +kernel
theorem bt_str : bootBuiltins "str" = some (.type "str") := by decide +kernel
theorem bt_list : bootBuiltins "list" = some (.type "list") := by decide +kernel
theorem bt_tuple : bootBuiltins "tuple" = some (.type "tuple") := by decide +kernel
theorem bt_dict : bootBuiltins "dict" = some (.type "dict") := by decide +kernel
theorem _root_.L2.Room.u64 {k : Nat} {A : Around} (r : Room k A) : A.units + 64 < cLine := r.units
theorem _root_.L2.Room.u65 {k : Nat} {A : Around} (r : Room k A) : A.units + 65 < cLine := by have := r.un; omega
theorem _root_.L2.Room.u70 {k : Nat} {A : Around} (r : Room k A) : A.units + 70 < cLine := by have := r.un; omega
theorem blk_of {N : List Str} {sc scope : Scope} {own : List (Str × Nat)} (h : blkC N sc scope own = true) : blkC N sc scope own = true := h
/-! ### a if t else b as a test; the given rules with the written part named -/
section
variable {X : Cx} {a b c : Expr} {tc ta tb : TT} {fc fa fb : Rho → Option Bool} {pos : Pos}
def tIfT (t a b : TT) : TT := fun σ H Q => t σ H fun c H1 => if c = true then a σ H1 Q else b σ H1 Q
def fIfT (fc fa fb : Rho → Option Bool) : Rho → Option Bool := fun ρ => (fc ρ).bind fun k => if k = true then fa ρ else fb ρ
theorem dt_if (hc : DT X c tc fc) (ha : DT X a ta fa) (hb : DT X b tb fb) : DT X (.IfExp c a b pos) (tIfT tc ta tb) (fIfT fc fa fb) :=
  ⟨⟨fun pins s σ H Q I h => by
    refine PyProof.Rows.isTrue_IfExp (thn (hc.p.run pins s σ H _ I h) fun d s1 ⟨H1, I1, q1⟩ => ?_)
    cases d with
    | true => exact ha.p.run pins s1 σ H1 Q I1 q1
    | false => exact hb.p.run pins s1 σ H1 Q I1 q1⟩, fun B F H σ ρ z Q r hf q => by
    obtain ⟨k, h1, h2⟩ := bind_some hf
    refine hc.s B F H σ ρ k _ r h1 fun F1 H1 x1 => ?_
    cases k with
    | true => exact ha.s B F1 H1 σ ρ z _ (r.ext x1) h2 fun F2 H2 x2 => q F2 H2 (x1.trans x2)
    | false => exact hb.s B F1 H1 σ ρ z _ (r.ext x1) h2 fun F2 H2 x2 => q F2 H2 (x1.trans x2)⟩
theorem op_eqDK (K' : PySem.W.Frag) (hu : X.A.units + 64 < cLine) (hK : X.K = K' := by rfl) : OpR X (compareOp .Eq) (rEqD K') := by
  subst hK; exact op_eqD hu
theorem op_neDK (K' : PySem.W.Frag) (hu : X.A.units + 64 < cLine) (hK : X.K = K' := by rfl) : OpR X (compareOp .NotEq) (rNeD K') := by
  subst hK; exact op_neD hu
theorem call_lenK (K' : PySem.W.Frag) (hK : X.K = K' := by rfl) : CallR X (.builtin "len") (rLen K') := by
  subst hK; exact call_len
theorem call_list_ofK (K' : PySem.W.Frag) (hK : X.K = K' := by rfl) : CallR X (.type "list") (rLstC K') := by
  subst hK; exact call_list_of
theorem cr_allK (K' : PySem.W.Frag) (hc : X.calm = true) (hK : X.K = K' := by rfl) : CallR X (.builtin "all") (rAll K') := by
  subst hK; exact cr_all hc
theorem cr_anyK (K' : PySem.W.Frag) (hc : X.calm = true) (hK : X.K = K' := by rfl) : CallR X (.builtin "any") (rAny K') := by
  subst hK; exact cr_any hc
end
/-! ### what is known of a def by its name -/
def Ok (P : Program) (w : World) (K : PySem.W.Frag) (mg : Str → Option Value) (base : Heap) (k : Nat) (x : Str) (ps : List Str) (m : Md) (Φ : List D → Option D) : Prop :=
  ∃ fd : FuncData, FnOk P w K mg base CX0 k (He.ga K x) fd ps (spM K m Φ) ∧ PySem.W.keepIn K (.ref (He.ga K x)) = true ∧ Binds K fd ps [] ∧ mg x = some (.ref (He.ga K x))
def fnB (n p : Nat) (b : Bd) : List D → Option D := fun ds => if ds.length = p then runB n b ds else none
/-- a def that never runs off its end -/
def runR (n : Nat) (b : Bd) : List D → Option D := fun ds => (b (ds.map .im ++ List.replicate (n - ds.length) .un)).bind fun o => match o with
  | .rt d => some d
  | _ => none
def fnR (n p : Nat) (b : Bd) : List D → Option D := fun ds => if ds.length = p then runR n b ds else none
section
variable {P : Program} {w : World} {K : PySem.W.Frag} {mg : Str → Option Value} {base : Heap} {x qual : Str} {params : Arguments} {body : List Stmt} {scope : Scope} {fd : FuncData} {N ps : List Str} {k j : Nat} {m : Md} {b : Bd} {Φ : List D → Option D}
theorem Ok.mono (h : Ok P w K mg base j x ps m Φ) (e : j ≤ k) : Ok P w K mg base k x ps m Φ := by
  obtain ⟨fd, h1, h2, h3, h4⟩ := h
  exact ⟨fd, h1.mono e, h2, h3, h4⟩
theorem ok_fz (Fd : FunD K x qual params body scope [] [] (He.ga K x) fd) (S : FnScope N ps scope)
    (hb0 : ∀ (kV doc pm : Value) (an : Option Addr) (cdv ct : Value) (us : List Value), us.length = ps.length → bindArgs (PySem.W.fnOf x qual params body scope .none kV doc pm an cdv ct) ⟨us, []⟩ = pure (ps.zip us))
    (hg : mg x = some (.ref (He.ga K x)))
    (hb : ∀ (cdv : Value) (A : Around) (outer : List Env) (s : Shared) (H : Hp) (E : XK), Room k (A.deeper (envOfC qual scope s.heap.objs.size (He.ga K x) cdv)) →
      ∃ W t, DSs (cxOf CX0 P w K mg base N qual scope (He.ga K x) cdv A outer s H E).nox .fz W body t b) : Ok P w K mg base (k + 1) x ps .fz (fnB N.length ps.length b) :=
  ⟨fd, fn_den Fd S _ (fun ds r h => if_someB h) (.inl rfl) hb, Fd.kp, Fd.bindsN hb0, hg⟩
where
  if_someB {ds : List D} {r : D} (h : fnB N.length ps.length b ds = some r) : ds.length = ps.length ∧ runB N.length b ds = some r := by
    unfold fnB at h
    by_cases hl : ds.length = ps.length
    · rw [if_pos hl] at h; exact ⟨hl, h⟩
    · rw [if_neg hl] at h; cases h
/-- as fn_den, the body ends by return -/
theorem fn_denR {f : Addr} (Fd : FunD K x qual params body scope [] [] f fd) (S : FnScope N ps scope) (Φ : List D → Option D) (hΦ : ∀ ds r, Φ ds = some r → ds.length = ps.length ∧ runR N.length b ds = some r)
    (hb : ∀ (cdv : Value) (A : Around) (outer : List Env) (s : Shared) (H : Hp) (E : XK), Room k (A.deeper (envOfC qual scope s.heap.objs.size f cdv)) →
      ∃ W t, DSs (cxOf CX0 P w K mg base N qual scope f cdv A outer s H E).nox m W body t b) : FnOk P w K mg base CX0 (k + 1) f fd ps (spM K m Φ) := by
  have lenOf : ∀ vs H Q E, spM K m Φ vs H Q E → vs.length = ps.length := fun vs H Q E h => by
    obtain ⟨F, ds, r, _, ra, hr, _⟩ := h
    rw [ra.length]
    exact (hΦ ds r hr).1
  refine Fd.ok S lenOf fun cdv A outer s H vs Q E hr h => ?_
  obtain ⟨W, t, D⟩ := hb cdv A outer s H E hr
  refine ⟨t, D.p.nox, ?_⟩
  obtain ⟨F, ds, r, fh, ra, hP, q⟩ := h
  obtain ⟨hl, hrun⟩ := hΦ ds r hP
  obtain ⟨o, e1, e2⟩ := bind_some hrun
  have hlen : ps.length ≤ N.length := by
    have e := congrArg List.length S.pre
    rw [List.length_take] at e
    omega
  refine D.s { F0 := F, G := H } F H _ _ o _ (start_rel ra (by rw [hl]; exact hlen) fh) e1 ?_
  cases o with
  | rt d =>
    cases e2
    intro v F' H' ro
    obtain ⟨a1, a2, a3, a4, a5⟩ := ro
    exact q v F' H' ⟨a1, a2, a4, a3⟩ a5
  | nx ρ' => cases e2
  | bk ρ' => cases e2
  | ct ρ' => cases e2
theorem ok_fr (Fd : FunD K x qual params body scope [] [] (He.ga K x) fd) (S : FnScope N ps scope)
    (hb0 : ∀ (kV doc pm : Value) (an : Option Addr) (cdv ct : Value) (us : List Value), us.length = ps.length → bindArgs (PySem.W.fnOf x qual params body scope .none kV doc pm an cdv ct) ⟨us, []⟩ = pure (ps.zip us))
    (hg : mg x = some (.ref (He.ga K x)))
    (hb : ∀ (cdv : Value) (A : Around) (outer : List Env) (s : Shared) (H : Hp) (E : XK), Room k (A.deeper (envOfC qual scope s.heap.objs.size (He.ga K x) cdv)) →
      ∃ W t, DSs (cxOf CX0 P w K mg base N qual scope (He.ga K x) cdv A outer s H E).nox m W body t b) : Ok P w K mg base (k + 1) x ps m (fnR N.length ps.length b) :=
  ⟨fd, fn_denR Fd S _ (fun ds r h => if_someR h) hb, Fd.kp, Fd.bindsN hb0, hg⟩
where
  if_someR {ds : List D} {r : D} (h : fnR N.length ps.length b ds = some r) : ds.length = ps.length ∧ runR N.length b ds = some r := by
    unfold fnR at h
    by_cases hl : ds.length = ps.length
    · rw [if_pos hl] at h; exact ⟨hl, h⟩
    · rw [if_neg hl] at h; cases h
/-- the law itself -/
theorem law_fz {f : Addr} (Fd : FunD K x qual params body scope [] [] f fd) (S : FnScope N ps scope)
    (hb : ∀ (cdv : Value) (A : Around) (outer : List Env) (s : Shared) (H : Hp) (E : XK), Room k (A.deeper (envOfC qual scope s.heap.objs.size f cdv)) →
      ∃ W t, DSs (cxOf CX0 P w K mg base N qual scope f cdv A outer s H E).nox .fz W body t b) : FnOk P w K mg base CX0 (k + 1) f fd ps (spM K .fz (fnB N.length ps.length b)) :=
  fn_den Fd S _ (fun ds r h => ok_fz.if_someB h) (.inl rfl) hb
/-- the ground of a recursion: no promise -/
theorem ok_zero (Fd : FunD K x qual params body scope [] [] (He.ga K x) fd)
    (hb0 : ∀ (kV doc pm : Value) (an : Option Addr) (cdv ct : Value) (us : List Value), us.length = ps.length → bindArgs (PySem.W.fnOf x qual params body scope .none kV doc pm an cdv ct) ⟨us, []⟩ = pure (ps.zip us))
    (hg : mg x = some (.ref (He.ga K x))) : Ok P w K mg base k x ps m (fun _ => none) :=
  ⟨fd, ⟨fun vs H Q E h => (by obtain ⟨F, ds, r, _, _, h, _⟩ := h; cases h), fun A outer s H args us vs Q E _ _ _ _ h => (by obtain ⟨F, ds, r, _, _, h, _⟩ := h; cases h)⟩, Fd.kp, Fd.bindsN hb0, hg⟩
end
section
variable {X : Cx} {m m1 : Md} {k j : Nat} {ps : List Str} {Φ : List D → Option D} {x : Str} {p pos : Pos} {e : Expr} {es : List Expr} {t : TA} {fs : Rho → Option (List D)}
theorem de_fn (h : Ok X.prog X.w X.K X.mg X.base j x ps m Φ) (hr : Room k X.A) (hj : j ≤ k) (hg : Gl X x) (ha : DA X .fz (e :: es) t fs)
    (hdb : (x == ("__debug__" : Str)) = false := by decide) (he : starEach (e :: es) X.env = (false, eval e X.env) :: starEach es X.env := by rfl) (hpl : (backTo pos (starEach es X.env)).any (·.1) = false := by rfl) :
    DE X m (.Call (.Name x p) (e :: es) [] pos) (tCall (spM X.K m Φ) [] E0 t) (fB Φ fs) := by
  obtain ⟨fd, h1, h2, h3, h4⟩ := h
  exact de_call (h1.mono hj) hr hg h4 h2 h3 ha hdb he hpl
theorem de_fnK (K' : PySem.W.Frag) (h : Ok X.prog X.w K' X.mg X.base j x ps m Φ) (hr : Room k X.A) (hj : j ≤ k) (hg : Gl X x) (ha : DA X .fz (e :: es) t fs) (hdb : (x == ("__debug__" : Str)) = false := by decide) (he : starEach (e :: es) X.env = (false, eval e X.env) :: starEach es X.env := by rfl) (hpl : (backTo pos (starEach es X.env)).any (·.1) = false := by rfl) (hK : X.K = K' := by rfl) : DE X m (.Call (.Name x p) (e :: es) [] pos) (tCall (spM K' m Φ) [] E0 t) (fB Φ fs) := by
  subst hK
  exact de_fn (h := h) (hr := hr) (hj := hj) (hg := hg) (ha := ha) (hdb := hdb) (he := he) (hpl := hpl)
theorem de_fn0 (h : Ok X.prog X.w X.K X.mg X.base j x ps m Φ) (hr : Room k X.A) (hj : j ≤ k) (hg : Gl X x) (hdb : (x == ("__debug__" : Str)) = false := by decide) :
    DE X m (.Call (.Name x p) [] [] pos) (tCall (spM X.K m Φ) [] E0 tNil) (fB Φ aNil) := by
  obtain ⟨fd, h1, h2, h3, h4⟩ := h
  exact de_call0 (h1.mono hj) hr hg h4 h2 h3 hdb
theorem de_fn0K (K' : PySem.W.Frag) (h : Ok X.prog X.w K' X.mg X.base j x ps m Φ) (hr : Room k X.A) (hj : j ≤ k) (hg : Gl X x) (hdb : (x == ("__debug__" : Str)) = false := by decide) (hK : X.K = K' := by rfl) : DE X m (.Call (.Name x p) [] [] pos) (tCall (spM K' m Φ) [] E0 tNil) (fB Φ aNil) := by
  subst hK
  exact de_fn0 (h := h) (hr := hr) (hj := hj) (hg := hg) (hdb := hdb)
theorem de_fnP (hm0 : m = .fz ∨ m = .fr) (h : Ok X.prog X.w X.K X.mg X.base j x ps m Φ) (hr : Room k X.A) (hj : j ≤ k) (hg : Gl X x) (ha : DA X .pk (e :: es) t fs)
    (hdb : (x == ("__debug__" : Str)) = false := by decide) (he : starEach (e :: es) X.env = (false, eval e X.env) :: starEach es X.env := by rfl) (hpl : (backTo pos (starEach es X.env)).any (·.1) = false := by rfl) :
    DE X m (.Call (.Name x p) (e :: es) [] pos) (tCall (spM X.K m Φ) [] E0 t) (fBP m Φ fs) := by
  obtain ⟨fd, h1, h2, h3, h4⟩ := h
  exact de_callP hm0 (h1.mono hj) hr hg h4 h2 h3 ha hdb he hpl
theorem de_fnPK (K' : PySem.W.Frag) (hm0 : m = .fz ∨ m = .fr) (h : Ok X.prog X.w K' X.mg X.base j x ps m Φ) (hr : Room k X.A) (hj : j ≤ k) (hg : Gl X x) (ha : DA X .pk (e :: es) t fs) (hdb : (x == ("__debug__" : Str)) = false := by decide) (he : starEach (e :: es) X.env = (false, eval e X.env) :: starEach es X.env := by rfl) (hpl : (backTo pos (starEach es X.env)).any (·.1) = false := by rfl) (hK : X.K = K' := by rfl) : DE X m (.Call (.Name x p) (e :: es) [] pos) (tCall (spM K' m Φ) [] E0 t) (fBP m Φ fs) := by
  subst hK
  exact de_fnP (hm0 := hm0) (h := h) (hr := hr) (hj := hj) (hg := hg) (ha := ha) (hdb := hdb) (he := he) (hpl := hpl)
end
end Q
end

/-! part: Q13 -/
section
set_option Elab.async false
set_option linter.all false
set_option maxRecDepth 100000
set_option maxHeartbeats 4000000
set_option autoImplicit false
namespace Q
open PySem PySem.Spec PySem.Calls PyProof.Rows L2
/-! ### the denotations unfolded, for simp -/
section
variable {ρ : Rho} {i j l n : Nat} {f g fa fb fc : Rho → Option D} {ft fu fw : Rho → Option Bool} {fs : Rho → Option (List D)} {g2 h2 : D → D → Option D} {g1 : D → Option D} {gl : List D → Option D} {gi : List D → Option (List D)} {a b : Bd} {d e : D} {ds es : List D}
def imD : Option Sl → Option D
  | some (.im d) => some d
  | _ => none
def anD : Option Sl → Option D
  | some (.im d) => some d
  | some (.ow d) => some d
  | _ => none
def owL : Option Sl → Option (List D)
  | some (.ow (.list ds)) => some ds
  | _ => none
@[simp] theorem imD_im : imD (some (.im d)) = some d := rfl
@[simp] theorem anD_im : anD (some (.im d)) = some d := rfl
@[simp] theorem anD_ow : anD (some (.ow d)) = some d := rfl
@[simp] theorem owL_ow : owL (some (.ow (.list ds))) = some ds := rfl
@[simp] theorem vF_e : vF i ρ = imD ρ[i]? := by unfold vF; split <;> simp_all [imD]
@[simp] theorem vP_e : vP i ρ = anD ρ[i]? := by unfold vP; split <;> simp_all [anD]
def owD : Option Sl → Option D
  | some (.ow d) => some d
  | _ => none
@[simp] theorem owD_ow : owD (some (.ow d)) = some d := rfl
@[simp] theorem vO_e : vO i ρ = owD ρ[i]? := by unfold vO; split <;> simp_all [owD]
@[simp] theorem cD_e : cD d ρ = some d := rfl
@[simp] theorem f2_e : f2 g2 fa fb ρ = (fa ρ).bind fun x => (fb ρ).bind fun y => g2 x y := rfl
@[simp] theorem f1_e : f1 g1 fa ρ = (fa ρ).bind g1 := rfl
@[simp] theorem fB_e : fB gl fs ρ = (fs ρ).bind gl := rfl
@[simp] theorem fT_e : fT f ρ = (f ρ).bind boolD := rfl
@[simp] theorem boolD_e {k : Bool} : boolD (.bool k) = some k := rfl
@[simp] theorem fTr_e : fTr f ρ = (f ρ).bind truD := rfl
@[simp] theorem fNotT_e : fNotT ft ρ = (ft ρ).map not := rfl
@[simp] theorem fAndT_e : fAndT ft fu ρ = (ft ρ).bind fun b => if b = true then fu ρ else some false := rfl
@[simp] theorem fOrT_e : fOrT ft fu ρ = (ft ρ).bind fun b => if b = true then some true else fu ρ := rfl
@[simp] theorem fIfT_e : fIfT ft fu fw ρ = (ft ρ).bind fun b => if b = true then fu ρ else fw ρ := rfl
@[simp] theorem fNot_e : fNot f ρ = ((f ρ).bind truD).map fun b => .bool (!b) := rfl
@[simp] theorem fAnd_e : fAnd f g ρ = (f ρ).bind fun d => (truD d).bind fun b => if b = true then g ρ else some d := rfl
@[simp] theorem fOr_e : fOr f g ρ = (f ρ).bind fun d => (truD d).bind fun b => if b = true then some d else g ρ := rfl
@[simp] theorem fIf_e : fIf ft f g ρ = (ft ρ).bind fun b => if b = true then f ρ else g ρ := rfl
@[simp] theorem aNil_e : aNil ρ = some [] := rfl
@[simp] theorem aCons_e : aCons f fs ρ = (f ρ).bind fun d => (fs ρ).bind fun ds => some (d :: ds) := rfl
@[simp] theorem aStar_e : aStar f fs ρ = (f ρ).bind fun d => (itemsD d).bind fun ds => (fs ρ).bind fun es => some (ds ++ es) := rfl
@[simp] theorem fTup_e : fTup fs ρ = (fs ρ).map .tuple := rfl
@[simp] theorem fLst_e : fLst fs ρ = (fs ρ).map .list := rfl
@[simp] theorem fTupS_e : fTupS fs ρ = (fs ρ).bind fun ds => if ds.length ≤ sizeLine then some (.tuple ds) else none := rfl
@[simp] theorem fLstS_e : fLstS fs ρ = (fs ρ).bind fun ds => if ds.length ≤ sizeLine then some (.list ds) else none := rfl
@[simp] theorem fI_e : fI f ρ = (f ρ).bind walkD := rfl
@[simp] theorem fIs_e : fIs gi fs ρ = (fs ρ).bind gi := rfl
@[simp] theorem fRev_e : fRev f ρ = (f ρ).bind revD := rfl
@[simp] theorem fEnum_e : fEnum f ρ = (f ρ).bind enumD := rfl
def chB (z : D) (k : Option D) : Option D := match z with
  | .bool true => k
  | .bool false => some (.bool false)
  | _ => none
@[simp] theorem chB_b {c : Bool} {k : Option D} : chB (.bool c) k = if c = true then k else some (.bool false) := by cases c <;> rfl
@[simp] theorem f3_e : f3 g2 h2 fa fb fc ρ = (fa ρ).bind fun x => (fb ρ).bind fun y => (g2 x y).bind fun z => chB z ((fc ρ).bind fun w => h2 y w) := by
  unfold f3
  rfl
def isiD (b : String) (d : D) : Option D := match d with
  | .dict _ => none
  | d => some (.bool (isiN (tyName d) b))
def isiD2 (b c : String) (d : D) : Option D := match d with
  | .dict _ => none
  | d => some (.bool (isiN (tyName d) b || isiN (tyName d) c))
@[simp] theorem isiD_i {b : String} {k : Int} : isiD b (.int k) = some (.bool (isiN "int" b)) := rfl
@[simp] theorem isiD_b {b : String} {k : Bool} : isiD b (.bool k) = some (.bool (isiN "bool" b)) := rfl
@[simp] theorem isiD_n {b : String} : isiD b .none = some (.bool (isiN "NoneType" b)) := rfl
@[simp] theorem isiD_s {b : String} {z : Str} : isiD b (.str z) = some (.bool (isiN "str" b)) := rfl
@[simp] theorem isiD_l {b : String} : isiD b (.list ds) = some (.bool (isiN "list" b)) := rfl
@[simp] theorem isiD_t {b : String} : isiD b (.tuple ds) = some (.bool (isiN "tuple" b)) := rfl
@[simp] theorem isiD2_i {b c : String} {k : Int} : isiD2 b c (.int k) = some (.bool (isiN "int" b || isiN "int" c)) := rfl
@[simp] theorem isiD2_b {b c : String} {k : Bool} : isiD2 b c (.bool k) = some (.bool (isiN "bool" b || isiN "bool" c)) := rfl
@[simp] theorem isiD2_n {b c : String} : isiD2 b c .none = some (.bool (isiN "NoneType" b || isiN "NoneType" c)) := rfl
@[simp] theorem isiD2_s {b c : String} {z : Str} : isiD2 b c (.str z) = some (.bool (isiN "str" b || isiN "str" c)) := rfl
@[simp] theorem isiD2_l {b c : String} : isiD2 b c (.list ds) = some (.bool (isiN "list" b || isiN "list" c)) := rfl
@[simp] theorem isiD2_t {b c : String} : isiD2 b c (.tuple ds) = some (.bool (isiN "tuple" b || isiN "tuple" c)) := rfl
@[simp] theorem isiN_e {b c : String} : isiN b c = (b == c || (b == "bool" && c == "int")) := rfl
@[simp] theorem fIsi_e {b : String} : fIsi b f ρ = (f ρ).bind (isiD b) := rfl
@[simp] theorem fIsi2_e {b c : String} : fIsi2 b c f ρ = (f ρ).bind (isiD2 b c) := rfl
@[simp] theorem fYes_e : fYes ρ = some true := rfl
@[simp] theorem oNo_e : oNo ρ = some none := rfl
def intO : D → Option (Option Int)
  | .int i => some (some i)
  | _ => none
@[simp] theorem intO_i {k : Int} : intO (.int k) = some (some k) := rfl
@[simp] theorem oIs_e : oIs f ρ = (f ρ).bind intO := by unfold oIs; congr; try (funext d; cases d <;> rfl)
@[simp] theorem fSl_e {fl fh : Rho → Option (Option Int)} : fSl f fl fh ρ = (f ρ).bind fun d => (fl ρ).bind fun l => (fh ρ).bind fun h => cutD d l h := rfl
@[simp] theorem fLr1_e : fLr1 f ρ = (f ρ).bind fun d => match d with
  | .int n => if -(2 ^ 62) ≤ n ∧ n ≤ 16777216 then some (.list (rgD 0 n.toNat)) else none
  | _ => none := rfl
@[simp] theorem fLenSet_e : fLenSet f ρ = (f ρ).bind fun d => (itemsD d).bind fun ds => (intsOf ds).bind fun ns => if ns.length ≤ 4000 then some (.int ((dedupI ns).length : Nat)) else none := rfl
def outB : Out → Option D
  | .rt d => some d
  | .nx _ => some .none
  | _ => none
@[simp] theorem outB_r : outB (.rt d) = some d := rfl
@[simp] theorem outB_n : outB (.nx ρ) = some .none := rfl
def outR : Out → Option D
  | .rt d => some d
  | _ => none
@[simp] theorem outR_r : outR (.rt d) = some d := rfl
@[simp] theorem fnB_e {p : Nat} : fnB n p b ds = if ds.length = p then (b (ds.map .im ++ List.replicate (n - ds.length) .un)).bind outB else none := by
  unfold fnB runB
  rfl
@[simp] theorem fnR_e {p : Nat} : fnR n p b ds = if ds.length = p then (b (ds.map .im ++ List.replicate (n - ds.length) .un)).bind outR else none := by
  unfold fnR runR
  rfl
/-! statements -/
def seqO (b : Bd) : Out → Option Out
  | .nx ρ => b ρ
  | o => some o
@[simp] theorem seqO_n : seqO b (.nx ρ) = b ρ := rfl
@[simp] theorem seqO_b : seqO b (.bk ρ) = some (.bk ρ) := rfl
@[simp] theorem seqO_c : seqO b (.ct ρ) = some (.ct ρ) := rfl
@[simp] theorem seqO_r : seqO b (.rt d) = some (.rt d) := rfl
@[simp] theorem bSeq_e : bSeq a b ρ = (a ρ).bind (seqO b) := by
  unfold bSeq
  congr
  try (funext o; cases o <;> rfl)
@[simp] theorem bNext_e : bNext ρ = some (.nx ρ) := rfl
@[simp] theorem bBreak_e : bBreak ρ = some (.bk ρ) := rfl
@[simp] theorem bCont_e : bCont ρ = some (.ct ρ) := rfl
@[simp] theorem bNever_e : bNever ρ = none := rfl
@[simp] theorem bIf_e : bIf ft a b ρ = (ft ρ).bind fun k => if k = true then a ρ else b ρ := rfl
@[simp] theorem bAsg_e : bAsg i f ρ = (f ρ).bind fun d => some (.nx (ρ.set i (.im d))) := rfl
@[simp] theorem bOwn_e : bOwn i f ρ = (f ρ).bind fun d => some (.nx (ρ.set i (.ow d))) := rfl
@[simp] theorem bRet_e : bRet f ρ = (f ρ).map .rt := rfl
@[simp] theorem bDrop_e : bDrop f ρ = (f ρ).bind fun _ => some (.nx ρ) := rfl
@[simp] theorem bPar_e : bPar i j fs ρ = (fs ρ).bind fun ds => match ds with
  | [d, e] => some (.nx ((ρ.set i (.im d)).set j (.im e)))
  | _ => none := rfl
@[simp] theorem bAsgG_e {s : D → Rho → Option Rho} : bAsgG f s ρ = (f ρ).bind fun d => (s d ρ).bind fun ρ' => some (.nx ρ') := rfl
@[simp] theorem sN_e : sN i d ρ = some (ρ.set i (.im d)) := rfl
@[simp] theorem sNil_e : sNil [] ρ = some ρ := rfl
@[simp] theorem sCons_e {s : D → Rho → Option Rho} {ss : List D → Rho → Option Rho} : sCons s ss (d :: ds) ρ = (s d ρ).bind (ss ds) := rfl
@[simp] theorem sT_e {ss : List D → Rho → Option Rho} : sT n ss (.tuple ds) ρ = if ds.length = n then ss ds ρ else none := rfl
@[simp] theorem bFor_e {s : D → Rho → Option Rho} : bFor fs s b ρ = (fs ρ).bind fun ds => forL (turnD s b) ds ρ := rfl
@[simp] theorem turnD_e {s : D → Rho → Option Rho} : turnD s b d ρ = (s d ρ).bind b := rfl
@[simp] theorem bApp_e : bApp j f ρ = (owL ρ[j]?).bind fun ds => (f ρ).bind fun d => if ds.length < sizeLine then some (.nx (ρ.set j (.ow (.list (ds ++ [d]))))) else none := by
  unfold bApp
  cases ρ[j]? with
  | none => rfl
  | some s =>
    cases s with
    | ow d => cases d <;> rfl
    | _ => rfl
end
/-! ### operations on ints -/
section
variable {i j : Int} {k c : Bool} {ds es : List D} {z y : Str}
theorem shp_int : SeqAt.shaped (.int i) = true := by with_unfolding_all rfl
theorem shp_bool : SeqAt.shaped (.bool k) = true := by with_unfolding_all rfl
theorem shp_none : SeqAt.shaped (.none) = true := by with_unfolding_all rfl
@[simp] theorem add_ii : addD (.int i) (.int j) = some (.int (i + j)) := rfl
@[simp] theorem addS_ii : addS (.int i) (.int j) = some (.int (i + j)) := rfl
@[simp] theorem sub_ii : subD (.int i) (.int j) = some (.int (i - j)) := rfl
@[simp] theorem mul_ii : mulD (.int i) (.int j) = mulI i j := rfl
@[simp] theorem mulI_r (h1 : -18446744073709551616 < j) (h2 : j < 18446744073709551616) : mulI i j = some (.int (i * j)) := if_pos (.inr ⟨by omega, by omega⟩)
theorem fdiv_ii : fdivD (.int i) (.int j) = if j ≠ 0 ∧ j.natAbs < 1073741824 then some (.int (i.fdiv j)) else none := rfl
theorem mod_ii : modD (.int i) (.int j) = if j ≠ 0 then some (.int (i.fmod j)) else none := rfl
@[simp] theorem mod_pos (h : 0 < j) : modD (.int i) (.int j) = some (.int (i % j)) := by
  rw [mod_ii, if_pos (by omega), Int.fmod_eq_emod_of_nonneg i (by omega)]
@[simp] theorem fdiv_pos (h : 0 < j) (h2 : j < 1073741824) : fdivD (.int i) (.int j) = some (.int (i / j)) := by
  rw [fdiv_ii, if_pos (by omega), Int.fdiv_eq_ediv_of_nonneg i (by omega)]
@[simp] theorem pow_ii : powD (.int i) (.int j) = if 0 ≤ j ∧ j ≤ 1000000 ∧ i.natAbs < 2 ^ 64 then some (.int (i ^ j.toNat)) else none := rfl
@[simp] theorem neg_i : negD (.int i) = some (.int (-i)) := rfl
@[simp] theorem eq_ii : eqD (.int i) (.int j) = some (.bool (i == j)) := by
  unfold eqD
  rw [if_pos ⟨shp_int, shp_int⟩]
  rfl
@[simp] theorem ne_ii : neD (.int i) (.int j) = some (.bool (!(i == j))) := by
  unfold neD
  rw [if_pos ⟨shp_int, shp_int⟩]
  rfl
@[simp] theorem eq_bb : eqD (.bool k) (.bool c) = some (.bool (k == c)) := by
  unfold eqD
  rw [if_pos ⟨shp_bool, shp_bool⟩]
  rfl
theorem ord_ii : ordOk (.int i) (.int j) = true := by with_unfolding_all rfl
@[simp] theorem lt_ii : ltD (.int i) (.int j) = some (.bool (decide (i < j))) := by
  unfold ltD
  rw [if_pos ord_ii, PySem.W.dataLt_int]
@[simp] theorem gt_ii : gtD (.int i) (.int j) = some (.bool (decide (j < i))) := by
  unfold gtD
  rw [if_pos ord_ii, PySem.W.dataLt_int]
@[simp] theorem le_ii : leD (.int i) (.int j) = some (.bool (decide (i ≤ j))) := by
  unfold leD
  rw [if_pos ord_ii, PySem.W.dataLt_int]
  congr 2
  by_cases h : i ≤ j
  · simp [h, Int.not_lt.mpr h]
  · simp [h, Int.not_le.mp h]
@[simp] theorem ge_ii : geD (.int i) (.int j) = some (.bool (decide (j ≤ i))) := by
  unfold geD
  rw [if_pos ord_ii, PySem.W.dataLt_int]
  congr 2
  by_cases h : j ≤ i
  · simp [h, Int.not_lt.mpr h]
  · simp [h, Int.not_le.mp h]
@[simp] theorem isN_n : isND .none .none = some (.bool true) := rfl
@[simp] theorem isN_i : isND (.int i) .none = some (.bool false) := rfl
@[simp] theorem isN_b : isND (.bool k) .none = some (.bool false) := rfl
@[simp] theorem isN_t : isND (.tuple ds) .none = some (.bool false) := rfl
@[simp] theorem isN_l : isND (.list ds) .none = some (.bool false) := rfl
@[simp] theorem isN_s : isND (.str z) .none = some (.bool false) := rfl
@[simp] theorem notN_n : notND .none .none = some (.bool false) := rfl
@[simp] theorem notN_i : notND (.int i) .none = some (.bool true) := rfl
@[simp] theorem notN_t : notND (.tuple ds) .none = some (.bool true) := rfl
@[simp] theorem notN_l : notND (.list ds) .none = some (.bool true) := rfl
@[simp] theorem int_i : intD [.int i] = some (.int i) := rfl
@[simp] theorem len_l : lenD [.list ds] = some (.int ds.length) := rfl
@[simp] theorem len_t : lenD [.tuple ds] = some (.int ds.length) := rfl
@[simp] theorem tup_l : tupD [.list ds] = some (.tuple ds) := rfl
@[simp] theorem tup_t : tupD [.tuple ds] = some (.tuple ds) := rfl
@[simp] theorem lst_l : lstD [.list ds] = some (.list ds) := rfl
@[simp] theorem lst_t : lstD [.tuple ds] = some (.list ds) := rfl
@[simp] theorem items_l : itemsD (.list ds) = some ds := rfl
@[simp] theorem items_t : itemsD (.tuple ds) = some ds := rfl
@[simp] theorem walk_l : walkD (.list ds) = some ds := rfl
@[simp] theorem walk_t : walkD (.tuple ds) = some ds := rfl
@[simp] theorem ix_l : ixD (.list ds) (.int i) = atI ds i := rfl
@[simp] theorem ix_t : ixD (.tuple ds) (.int i) = atI ds i := rfl
@[simp] theorem tru_n : truD .none = some false := rfl
@[simp] theorem tru_b : truD (.bool k) = some k := rfl
@[simp] theorem tru_i : truD (.int i) = some (i != 0) := rfl
@[simp] theorem tru_l : truD (.list ds) = some (!ds.isEmpty) := rfl
@[simp] theorem tru_t : truD (.tuple ds) = some (!ds.isEmpty) := rfl
@[simp] theorem cut_l {o p : Option Int} : cutD (.list ds) o p = some (.list (cutL ds o p)) := rfl
@[simp] theorem cut_t {o p : Option Int} : cutD (.tuple ds) o p = some (.tuple (cutL ds o p)) := rfl
@[simp] theorem add_tt : addD (.tuple ds) (.tuple es) = if ds.length + es.length ≤ sizeLine then some (.tuple (ds ++ es)) else none := rfl
@[simp] theorem add_ll : addD (.list ds) (.list es) = if ds.length + es.length ≤ sizeLine then some (.list (ds ++ es)) else none := rfl
@[simp] theorem intsOf_m (ns : List Int) : intsOf (ns.map .int) = some ns := intsOf_ints ns
@[simp] theorem blsOf_f {α : Type} (p : α → Bool) (xs : List α) : blsOf (xs.map fun x => .bool (p x)) = some (xs.map p) := by
  rw [← blsOf_bls (xs.map p), List.map_map]
  rfl
@[simp] theorem intsOf_f {α : Type} (p : α → Int) (xs : List α) : intsOf (xs.map fun x => .int (p x)) = some (xs.map p) := by
  rw [← intsOf_ints (xs.map p), List.map_map]
  rfl
@[simp] theorem all_l : allD [.list ds] = (blsOf ds).map fun bs => .bool (bs.all id) := rfl
@[simp] theorem any_l : anyD [.list ds] = (blsOf ds).map fun bs => .bool (bs.any id) := rfl
@[simp] theorem sum_l (ns : List Int) : sumD [.list (ns.map .int)] = some (.int ns.sum) := by
  simp only [sumD, items_l, Option.bind_some, intsOf_ints, Option.map_some]
@[simp] theorem sum_t (ns : List Int) : sumD [.tuple (ns.map .int)] = some (.int ns.sum) := by
  simp only [sumD, items_t, Option.bind_some, intsOf_ints, Option.map_some]
@[simp] theorem blsOf_m (ns : List Bool) : blsOf (ns.map .bool) = some ns := blsOf_bls ns
theorem atI_nat {ds : List D} {n : Nat} (h : n < ds.length) : atI ds (n : Int) = some ds[n] := by
  unfold atI ixN
  rw [if_pos (by omega)]
  simp [h]
theorem atI_lit {ds : List D} {i : Int} (h0 : 0 ≤ i) (h : i < ds.length) : atI ds i = ds[i.toNat]? := by
  unfold atI ixN
  rw [if_pos h0]
  simp [h]
end
/-! ### places of int rows -/
theorem at_n (ns : List Int) {k : Nat} (h : k < ns.length) : atI (ns.map PyData.int) (k : Int) = some (.int (ns.getD k 0)) := by
  rw [atI_nat (by simpa using h)]
  simp [h]
theorem at_i (ns : List Int) {i : Int} (h0 : 0 ≤ i) (h : i < ns.length) : atI (ns.map PyData.int) i = some (.int (ns.getD i.toNat 0)) := by
  have := at_n ns (k := i.toNat) (by omega)
  rwa [Int.toNat_of_nonneg h0] at this
theorem at_last (ns : List Int) (h : ns ≠ []) : atI (ns.map PyData.int) (-1) = some (.int (ns.getLastD 0)) := by
  have hl : 0 < ns.length := List.length_pos_iff.mpr h
  unfold atI ixN
  rw [if_neg (by omega), List.length_map, if_pos (by omega), Option.bind_some]
  have e : (-1 + (ns.length : Int)).toNat = ns.length - 1 := by omega
  rw [e, List.getElem?_map, List.getElem?_eq_getElem (by omega), Option.map_some]
  congr 2
  rw [List.getLastD_eq_getLast?, List.getLast?_eq_getElem?, List.getElem?_eq_getElem (by omega)]
  rfl
theorem cut_to (ns : List Int) {i : Int} (h0 : 0 ≤ i) : cutL (ns.map PyData.int) none (some i) = (ns.take i.toNat).map .int := by
  unfold cutL HT.sIx
  simp only [List.length_map, if_neg (Int.not_lt.mpr h0), List.drop_zero, Nat.sub_zero, ← List.map_take]
  congr 1
  rw [List.take_eq_take_iff]
  omega
theorem cut_from (ns : List Int) {i : Int} (h0 : 0 ≤ i) : cutL (ns.map PyData.int) (some i) none = (ns.drop i.toNat).map .int := by
  unfold cutL HT.sIx
  simp only [List.length_map, if_neg (Int.not_lt.mpr h0), ← List.map_drop]
  by_cases h : i.toNat ≤ ns.length
  · rw [Nat.min_eq_left h, List.take_of_length_le (by simp)]
  · rw [Nat.min_eq_right (by omega)]
    simp [List.drop_eq_nil_of_le (by omega : ns.length ≤ i.toNat)]
theorem line_ge : 100000 ≤ sizeLine := by rw [sizeLine_eq]; decide
/-! ### pops -/
theorem erase_m {α β : Type} (f : α → β) : ∀ (l : List α) (k : Nat), (l.map f).eraseIdx k = (l.eraseIdx k).map f
  | [], _ => rfl
  | _ :: _, 0 => rfl
  | x :: l, k + 1 => congrArg (f x :: ·) (erase_m f l k)
theorem pop_at {ρ : Rho} {j : Nat} {f : Rho → Option D} {ns : List Int} {i : Int} (h1 : ρ[j]? = some (.ow (.list (ns.map .int)))) (h2 : f ρ = some (.int i)) (h0 : 0 ≤ i) (h : i < ns.length) (hb : ns.length ≤ 100000) :
    xPopAt j f ρ = some (.int (ns.getD i.toNat 0), ρ.set j (.ow (.list ((ns.eraseIdx i.toNat).map .int)))) := by
  unfold xPopAt
  rw [h1, h2]
  simp only [Option.bind_some]
  rw [if_pos (by omega)]
  have e : seqIndex? i (ns.map PyData.int).length = some i.toNat := by
    unfold seqIndex?
    simp only [if_neg (Int.not_lt.mpr h0), List.length_map]
    rw [if_pos (by simp; omega)]
  have hk : i.toNat < ns.length := by omega
  rw [e, Option.bind_some, List.getElem?_map, List.getElem?_eq_getElem hk]
  simp [hk, erase_m]
theorem appX_e {ρ ρ' : Rho} {j : Nat} {f : Rho → Option (D × Rho)} {ds0 ds : List D} {d : D} (h1 : f ρ = some (d, ρ')) (h2 : ρ[j]? = some (.ow (.list ds0))) (h3 : ρ'[j]? = some (.ow (.list ds))) (h : ds.length ≤ 90000) :
    bAppX j f ρ = some (.nx (ρ'.set j (.ow (.list (ds ++ [d]))))) := by
  unfold bAppX
  rw [h1]
  simp only [Option.bind_some]
  rw [h2, h3]
  simp only
  have := line_ge
  rw [if_pos (by omega)]
/-! ### while -/
def whO (c : Rho → Option Bool) (b : Bd) (n : Nat) : Out → Option Out
  | .nx ρ => whileL c b n ρ
  | .ct ρ => whileL c b n ρ
  | .bk ρ => some (.nx ρ)
  | .rt d => some (.rt d)
theorem whileL_s {c : Rho → Option Bool} {b : Bd} {n : Nat} {ρ : Rho} : whileL c b (n + 1) ρ = (c ρ).bind fun k => if k = true then (b ρ).bind (whO c b n) else some (.nx ρ) := by
  conv => lhs; unfold whileL
  congr
  try (funext k; split <;> rfl)
theorem whileL_go {c : Rho → Option Bool} {b : Bd} {n : Nat} {ρ ρ' : Rho} (h1 : c ρ = some true) (h2 : b ρ = some (.nx ρ')) : whileL c b (n + 1) ρ = whileL c b n ρ' := by
  rw [whileL_s, h1, Option.bind_some, if_pos rfl, h2]
  rfl
theorem whileL_end {c : Rho → Option Bool} {b : Bd} {n : Nat} {ρ : Rho} (h1 : c ρ = some false) : whileL c b (n + 1) ρ = some (.nx ρ) := by
  rw [whileL_s, h1, Option.bind_some, if_neg (by decide)]
/-! ### comprehensions, loops -/
def lcB (rs : List D) : Option D := if rs.length ≤ sizeLine then some (.list rs) else none
@[simp] theorem fLc_e {ρ : Rho} {f : Rho → Option (List D)} {s : D → Rho → Option Rho} {ft : Rho → Option Bool} {fe : Rho → Option D} {vs : List Nat} : fLc f s ft fe vs ρ = (f ρ).bind fun ds => (lcL (fun d => (s d (wipeR ρ vs)).bind ft) (fun d => (s d (wipeR ρ vs)).bind fe) ds).bind lcB := rfl
@[simp] theorem wipeR_n {ρ : Rho} : wipeR ρ [] = ρ := rfl
@[simp] theorem wipeR_c {ρ : Rho} {v : Nat} {vs : List Nat} : wipeR ρ (v :: vs) = (wipeR ρ vs).set v .un := rfl
theorem lcB_of {rs : List D} (h : rs.length ≤ sizeLine) : lcB rs = some (.list rs) := if_pos h
theorem lcB_small {rs : List D} (h : rs.length ≤ 100000) : lcB rs = some (.list rs) := if_pos (Nat.le_trans h line_ge)
theorem rg1_n {k : Nat} (h : k ≤ 100000) : rg1D [.int (k : Int)] = some ((List.range k).map fun i => .int (i : Nat)) := by
  rw [rg1D, if_pos (by omega), Int.toNat_natCast]
  unfold rgD
  simp
theorem rg1_i {i : Int} (h : 0 ≤ i ∧ i ≤ 100000) : rg1D [.int i] = some ((List.range i.toNat).map fun i => .int (i : Nat)) := by
  have := rg1_n (k := i.toNat) (by omega)
  rwa [Int.toNat_of_nonneg h.1] at this
theorem lr1_n {k : Nat} (h : k ≤ 100000) : rgD 0 k = (List.range k).map fun i => .int (i : Nat) := by
  unfold rgD
  simp
theorem same_filter {ns ms : List Int} (h : ns.length = ms.length) : ((List.range ns.length).filter fun k => !(ns.getD k 0 == ms.getD k 0)).isEmpty = decide (ns = ms) := by
  by_cases e : ns = ms
  · subst e
    simp
  · rw [decide_eq_false e]
    cases hb : ((List.range ns.length).filter fun k => !(ns.getD k 0 == ms.getD k 0)).isEmpty with
    | false => rfl
    | true =>
      exfalso
      apply e
      have hn := List.isEmpty_iff.mp hb
      rw [List.filter_eq_nil_iff] at hn
      apply List.ext_getElem h
      intro k h1 h2
      have := hn k (by simpa using h1)
      simp only [Bool.not_eq_true, Bool.not_eq_false'] at this
      have := eq_of_beq this
      simpa [List.getD_eq_getElem?_getD, h1, h2] using this
theorem forL_ex {α : Type} {step : D → Bd} {xs : List α} {mk : α → D} (inv : Nat → Rho → Prop) : ∀ (ρ : Rho), inv 0 ρ → (∀ (k : Nat) (ρ : Rho) (x : α), inv k ρ → xs[k]? = some x → ∃ ρ', (step (mk x) ρ = some (.nx ρ') ∨ step (mk x) ρ = some (.ct ρ')) ∧ inv (k + 1) ρ') →
    ∃ ρ', forL step (xs.map mk) ρ = some (.nx ρ') ∧ inv xs.length ρ' := by
  induction xs generalizing inv with
  | nil => intro ρ h _; exact ⟨ρ, rfl, h⟩
  | cons x xs ih =>
    intro ρ h0 h
    obtain ⟨ρ1, h1, h2⟩ := h 0 ρ x h0 rfl
    obtain ⟨ρ2, h3, h4⟩ := ih (fun k => inv (k + 1)) ρ1 h2 (fun k ρ' y hk hy => h (k + 1) ρ' y hk (by simpa using hy))
    refine ⟨ρ2, ?_, h4⟩
    rw [List.map_cons]
    unfold forL
    rcases h1 with h1 | h1 <;> rw [h1] <;> exact h3
theorem shpA_ints : ∀ (ns : List Int), PyData.canLayAll0 (ns.map .int) = true ∧ PyData.depthAll (ns.map .int) = 0
  | [] => ⟨rfl, rfl⟩
  | n :: ns => by
    obtain ⟨h1, h2⟩ := shpA_ints ns
    refine ⟨?_, ?_⟩
    · rw [List.map_cons]
      unfold PyData.canLayAll0
      rw [h1]
      rfl
    · rw [List.map_cons]
      unfold PyData.depthAll
      rw [h2]
      rfl
@[simp] theorem shp_l (ns : List Int) : SeqAt.shaped (.list (ns.map .int)) = true := by
  obtain ⟨h1, h2⟩ := shpA_ints ns
  unfold SeqAt.shaped PyData.canLay0 PyData.depth
  rw [h1, h2]
  rfl
@[simp] theorem shp_t (ns : List Int) : SeqAt.shaped (.tuple (ns.map .int)) = true := by
  obtain ⟨h1, h2⟩ := shpA_ints ns
  unfold SeqAt.shaped PyData.canLay0 PyData.depth
  rw [h1, h2]
  rfl
theorem eqvA_ints : ∀ (ns ms : List Int), PyData.eqvAll (ns.map .int) (ms.map .int) = decide (ns = ms)
  | [], [] => rfl
  | [], _ :: _ => rfl
  | _ :: _, [] => rfl
  | n :: ns, m :: ms => by
    rw [List.map_cons, List.map_cons]
    unfold PyData.eqvAll
    rw [eqvA_ints ns ms]
    have e : PyData.eqv (.int n) (.int m) = decide (n = m) := by
      unfold PyData.eqv
      by_cases h : n = m <;> simp [h]
    rw [e]
    by_cases h : n = m <;> by_cases h' : ns = ms <;> simp [h, h']
@[simp] theorem eq_ll (ns ms : List Int) : eqD (.list (ns.map .int)) (.list (ms.map .int)) = some (.bool (decide (ns = ms))) := by
  unfold eqD
  rw [if_pos ⟨shp_l ns, shp_l ms⟩, ← eqvA_ints]
  rfl
@[simp] theorem eq_tt (ns ms : List Int) : eqD (.tuple (ns.map .int)) (.tuple (ms.map .int)) = some (.bool (decide (ns = ms))) := by
  unfold eqD
  rw [if_pos ⟨shp_t ns, shp_t ms⟩, ← eqvA_ints]
  rfl
@[simp] theorem eq_l0 (ns : List Int) : eqD (.list (ns.map .int)) (.list []) = some (.bool (decide (ns = []))) := eq_ll ns []
@[simp] theorem eq_f0 {α : Type} (p : α → Int) (L : List α) : eqD (.list (L.map fun x => .int (p x))) (.list []) = some (.bool L.isEmpty) := by
  have e : (L.map fun x => PyData.int (p x)) = (L.map p).map .int := by rw [List.map_map]; rfl
  rw [e, eq_l0]
  cases L <;> simp
@[simp] theorem ne_l0 (ns : List Int) : neD (.list (ns.map .int)) (.list []) = some (.bool (!decide (ns = []))) := by
  unfold neD
  rw [if_pos ⟨shp_l ns, shp_l []⟩]
  have := eqvA_ints ns []
  show some (PyData.bool (!PyData.eqvAll (ns.map .int) ([].map .int))) = _
  rw [this]
theorem mem_ints (i : Int) (ns : List Int) : memD (.int i) (ns.map .int) = decide (i ∈ ns) := by
  unfold memD
  induction ns with
  | nil => rfl
  | cons n ns ih =>
    rw [List.map_cons, List.any_cons, ih]
    have e : PyData.eqv (.int n) (.int i) = decide (n = i) := by
      unfold PyData.eqv
      by_cases h : n = i <;> simp [h]
    rw [e]
    by_cases h : n = i
    · subst h; simp
    · have h2 : ¬ i = n := fun z => h z.symm
      simp [h, h2]
@[simp] theorem in_l (i : Int) (ns : List Int) : inD (.int i) (.list (ns.map .int)) = some (.bool (decide (i ∈ ns))) := by
  unfold inD
  rw [items_l, Option.bind_some, if_pos ⟨shp_int, shp_l ns⟩, mem_ints]
@[simp] theorem in_t (i : Int) (ns : List Int) : inD (.int i) (.tuple (ns.map .int)) = some (.bool (decide (i ∈ ns))) := by
  unfold inD
  rw [items_t, Option.bind_some, if_pos ⟨shp_int, shp_t ns⟩, mem_ints]
@[simp] theorem notIn_l (i : Int) (ns : List Int) : notInD (.int i) (.list (ns.map .int)) = some (.bool (!decide (i ∈ ns))) := by
  unfold notInD
  rw [items_l, Option.bind_some, if_pos ⟨shp_int, shp_l ns⟩, mem_ints]
@[simp] theorem notIn_t (i : Int) (ns : List Int) : notInD (.int i) (.tuple (ns.map .int)) = some (.bool (!decide (i ∈ ns))) := by
  unfold notInD
  rw [items_t, Option.bind_some, if_pos ⟨shp_int, shp_t ns⟩, mem_ints]
theorem lcL_map {tt : D → Option Bool} {te : D → Option D} {α : Type} {xs : List α} {mk : α → D} {p : α → Bool} {g : α → D} (ht : ∀ x ∈ xs, tt (mk x) = some (p x)) (he : ∀ x ∈ xs, p x = true → te (mk x) = some (g x)) :
    lcL tt te (xs.map mk) = some ((xs.filter p).map g) := by
  induction xs with
  | nil => rfl
  | cons x xs ih =>
    have ih' := ih (fun y hy => ht y (List.mem_cons_of_mem _ hy)) (fun y hy => he y (List.mem_cons_of_mem _ hy))
    rw [List.map_cons]
    unfold lcL
    rw [ht x List.mem_cons_self]
    cases hp : p x with
    | true => simp [he x List.mem_cons_self hp, ih', hp]
    | false => simp [ih', hp]
/-- a comprehension without if -/
theorem lcL_all {tt : D → Option Bool} {te : D → Option D} {α : Type} {xs : List α} {mk : α → D} {g : α → D} (ht : ∀ x ∈ xs, tt (mk x) = some true) (he : ∀ x ∈ xs, te (mk x) = some (g x)) :
    lcL tt te (xs.map mk) = some (xs.map g) := by
  have := lcL_map (p := fun _ => true) ht (fun x hx _ => he x hx)
  rw [List.filter_eq_self.mpr (fun _ _ => rfl)] at this
  exact this
/-- a for loop whose every turn goes on -/
theorem forL_fold {σ α : Type} {step : D → Bd} {xs : List α} {mk : α → D} {enc : σ → Rho} {st : σ → α → σ} (inv : Nat → σ → Prop) : ∀ (s : σ), inv 0 s → (∀ (k : Nat) (s : σ) (x : α), inv k s → xs[k]? = some x → inv (k + 1) (st s x) ∧ (step (mk x) (enc s) = some (.nx (enc (st s x))) ∨ step (mk x) (enc s) = some (.ct (enc (st s x))))) →
    forL step (xs.map mk) (enc s) = some (.nx (enc (xs.foldl st s))) ∧ inv xs.length (xs.foldl st s) := by
  induction xs generalizing inv with
  | nil => intro s h _; exact ⟨rfl, h⟩
  | cons x xs ih =>
    intro s h0 h
    obtain ⟨h1, h2⟩ := h 0 s x h0 rfl
    have := ih (fun k => inv (k + 1)) (st s x) h1 (fun k s' y hk hy => h (k + 1) s' y hk (by simpa using hy))
    refine ⟨?_, this.2⟩
    rw [List.map_cons]
    unfold forL
    rcases h2 with h2 | h2 <;> rw [h2] <;> exact this.1
end Q
end

/-! part: Q14 -/
section
set_option Elab.async false
set_option linter.all false
set_option maxRecDepth 100000
set_option maxHeartbeats 4000000
set_option autoImplicit false
namespace Q
open PySem PySem.Spec PySem.Calls PyProof.Rows L2
/-! ### the same operations, quick for the kernel -/
def ltF : D → D → Option D
  | .int a, .int b => some (.bool (decide (a < b)))
  | d, e => ltD d e
def gtF : D → D → Option D
  | .int a, .int b => some (.bool (decide (b < a)))
  | d, e => gtD d e
def leF : D → D → Option D
  | .int a, .int b => some (.bool (decide (a ≤ b)))
  | d, e => leD d e
def geF : D → D → Option D
  | .int a, .int b => some (.bool (decide (b ≤ a)))
  | d, e => geD d e
def eqF : D → D → Option D
  | .int a, .int b => some (.bool (a == b))
  | .list ds, .list [] => match intsOf ds with
    | some ns => some (.bool (decide (ns = [])))
    | none => eqD (.list ds) (.list [])
  | d, e => eqD d e
def neF : D → D → Option D
  | .int a, .int b => some (.bool (!(a == b)))
  | .list ds, .list [] => match intsOf ds with
    | some ns => some (.bool (!decide (ns = [])))
    | none => neD (.list ds) (.list [])
  | d, e => neD d e
def inF : D → D → Option D
  | .int a, .list ds => match intsOf ds with
    | some ns => some (.bool (decide (a ∈ ns)))
    | none => inD (.int a) (.list ds)
  | .int a, .tuple ds => match intsOf ds with
    | some ns => some (.bool (decide (a ∈ ns)))
    | none => inD (.int a) (.tuple ds)
  | d, e => inD d e
def notInF : D → D → Option D
  | .int a, .list ds => match intsOf ds with
    | some ns => some (.bool (!decide (a ∈ ns)))
    | none => notInD (.int a) (.list ds)
  | .int a, .tuple ds => match intsOf ds with
    | some ns => some (.bool (!decide (a ∈ ns)))
    | none => notInD (.int a) (.tuple ds)
  | d, e => notInD d e
theorem ltF_eq : ltD = ltF := by
  funext d e
  unfold ltF
  split <;> simp
theorem gtF_eq : gtD = gtF := by
  funext d e
  unfold gtF
  split <;> simp
theorem leF_eq : leD = leF := by
  funext d e
  unfold leF
  split <;> simp
theorem geF_eq : geD = geF := by
  funext d e
  unfold geF
  split <;> simp
theorem eqF_eq : eqD = eqF := by
  funext d e
  unfold eqF
  split
  · simp
  · split
    · rename_i h
      rw [intsOf_map h, eq_l0]
    · rfl
  · rfl
theorem neF_eq : neD = neF := by
  funext d e
  unfold neF
  split
  · simp
  · split
    · rename_i h
      rw [intsOf_map h, ne_l0]
    · rfl
  · rfl
theorem inF_eq : inD = inF := by
  funext d e
  unfold inF
  split
  · split
    · rename_i h
      rw [intsOf_map h, in_l]
    · rfl
  · split
    · rename_i h
      rw [intsOf_map h, in_t]
    · rfl
  · rfl
theorem notInF_eq : notInD = notInF := by
  funext d e
  unfold notInF
  split
  · split
    · rename_i h
      rw [intsOf_map h, notIn_l]
    · rfl
  · split
    · rename_i h
      rw [intsOf_map h, notIn_t]
    · rfl
  · rfl
/-! min, max of a list of ints -/
theorem bestOk_ints (xs : List Int) : bestOk (xs.map .int) = true := by
  unfold bestOk
  rw [(shpA_ints xs).2]
  simp only [Bool.and_eq_true, List.all_eq_true, List.mem_map, forall_exists_index, and_imp, forall_apply_eq_imp_iff₂]
  refine ⟨⟨fun a _ b _ => ?_, fun a _ => trivial⟩, by decide⟩
  with_unfolding_all rfl
theorem minOf_i (n : Int) (ns : List Int) : minOf ((n :: ns).map .int) = some (.int (ns.foldl min n)) := by
  have h := bestOk_ints (n :: ns)
  rw [List.map_cons] at h ⊢
  rw [minOf, if_pos h, PySem.W.minD_ints]
theorem maxOf_i (n : Int) (ns : List Int) : maxOf ((n :: ns).map .int) = some (.int (ns.foldl max n)) := by
  have h := bestOk_ints (n :: ns)
  rw [List.map_cons] at h ⊢
  rw [maxOf, if_pos h, PySem.W.maxD_ints]
def minF : List D → Option D
  | [.list ds] => match intsOf ds with
    | some (n :: ns) => some (.int (ns.foldl min n))
    | _ => minA [.list ds]
  | ds => minA ds
def maxF : List D → Option D
  | [.list ds] => match intsOf ds with
    | some (n :: ns) => some (.int (ns.foldl max n))
    | _ => maxA [.list ds]
  | ds => maxA ds
theorem minF_eq : minA = minF := by
  funext ds
  unfold minF
  split
  · split
    · rename_i h
      rw [intsOf_map h, minA, items_l, Option.bind_some, minOf_i]
    · rfl
  · rfl
theorem maxF_eq : maxA = maxF := by
  funext ds
  unfold maxF
  split
  · split
    · rename_i h
      rw [intsOf_map h, maxA, items_l, Option.bind_some, maxOf_i]
    · rfl
  · rfl
end Q
end

/-! part: Q15 -/
section
set_option Elab.async false
set_option linter.all false
set_option maxRecDepth 100000
set_option maxHeartbeats 4000000
set_option autoImplicit false
namespace Q
open PySem PySem.Spec PySem.Calls PyProof.Rows L2
/-! ### x.index(y), x.count(y): lists and tuples of data -/
section
variable {X : Cx} {pins : List (Addr × Obj)} {σ : L2.St} {H : Hp} {s : Shared}
theorem tupAt_is (I : Inv X pins σ H s) {a : Addr} {xs : List V} (h : TupAt X.K H a xs) : s.TypeIs (.ref a) "tuple" ∧ ∀ b, Value.ref a = .ref b → ∃ ob, s.heap.get? b = some ob ∧ ob.dict = none := by
  rcases h with ⟨o, h, hc, hd⟩ | ⟨o, its, n, h, hc, hd, _⟩
  · have e := (I.hok a _ h).1
    exact ⟨⟨o, e, hc⟩, fun b z => by cases z; exact ⟨o, e, hd⟩⟩
  · have e := I.kIn a o h
    exact ⟨⟨o, e, hc⟩, fun b z => by cases z; exact ⟨o, e, hd⟩⟩
theorem listAt_is (I : Inv X pins σ H s) {a : Addr} {xs : List V} (h : SqL X.K H a xs) : s.TypeIs (.ref a) "list" ∧ ∀ b, Value.ref a = .ref b → ∃ ob, s.heap.get? b = some ob ∧ ob.dict = none := by
  obtain ⟨its, _, pl, _⟩ := I.list h
  refine ⟨pl.isList.typeIs, fun b z => ?_⟩
  cases z
  obtain ⟨o, n, e, c, hd, _⟩ := pl
  exact ⟨o, e, hd⟩
/-- a method of lists or of tuples -/
def tSM (K : PySem.W.Frag) (rl rt : V → List V → Hp → VK → Prop) (to : TE) (t : TA) : TE := fun σ H Q => to σ H fun x H1 =>
  ((∃ p xs, x = V.ref p ∧ SqL K H1 p xs) ∧ t σ H1 fun ys H2 => rl x ys H2 Q) ∨ ((∃ p xs, x = V.ref p ∧ TupAt K H1 p xs) ∧ t σ H1 fun ys H2 => rt x ys H2 Q)
variable {o e : Expr} {es : List Expr} {to : TE} {t : TA} {name : Str} {apos cpos : Pos} {idl idt : String} {rl rt : V → List V → Hp → VK → Prop}
theorem pe_sm (sl : Slot "list" name idl) (hl : typeOf (.builtin idl) = pure (.type "method_descriptor")) (ml : MtR X idl rl) (st : Slot "tuple" name idt) (ht : typeOf (.builtin idt) = pure (.type "method_descriptor")) (mt : MtR X idt rt)
    (ho : PE X o to) (ha : PA X (e :: es) t) (hbase : attributeBase o name X.env (eval o X.env) = eval o X.env := by rfl)
    (hfew : ((backTo cpos (starEach (e :: es) X.env)).all (fun x => !x.1) && (backToKw cpos (keywordEach [] X.env)).all (fun x => x.1.isSome)
        && decide ((e :: es).length + ([] : List Keyword).length + (if ([] : List Keyword).isEmpty then 0 else 1) < 30)) = true := by rfl)
    (hline : (apos.endLine == cpos.line) = true := by rfl) (hs : starEach (e :: es) X.env = (false, eval e X.env) :: starEach es X.env := by rfl) (hplain : (backTo cpos (starEach es X.env)).any (·.1) = false := by rfl) :
    PE X (.Call (.Attribute o name apos) (e :: es) [] cpos) (tSM X.K rl rt to t) := by
  constructor
  intro pins s σ H Q I h
  refine wpAny_Call_method_late hbase hfew hline rfl (thn (ho.run pins s σ H _ I h) fun v s1 ⟨x, H1, I1, r1, q1⟩ => ?_)
  rcases q1 with ⟨⟨p, xs, rfl, hx⟩, q1⟩ | ⟨⟨p, xs, rfl, hx⟩, q1⟩
  · cases r1
    obtain ⟨h1, h2⟩ := listAt_is I1 hx
    refine ⟨"list", idl, PySem.F.plainAttrs_list, sl, hl, h1, h2, ?_⟩
    have hA := ha.run cpos pins s1 σ H1 _ I1 q1
    rw [hs] at hA ⊢
    exact Calls.callWith_builtin (by show (false || (backTo cpos (starEach es X.env)).any (·.1)) = false; rw [hplain] <;> rfl) (Calls.evalArgs_plain (thn hA fun us s2 ⟨vs, H2, I2, r2, q2⟩ => ml pins s2 σ H2 (V.ref p) vs _ us Q I2 rfl r2 q2))
  · cases r1
    obtain ⟨h1, h2⟩ := tupAt_is I1 hx
    refine ⟨"tuple", idt, PySem.F.plainAttrs_tuple, st, ht, h1, h2, ?_⟩
    have hA := ha.run cpos pins s1 σ H1 _ I1 q1
    rw [hs] at hA ⊢
    exact Calls.callWith_builtin (by show (false || (backTo cpos (starEach es X.env)).any (·.1)) = false; rw [hplain] <;> rfl) (Calls.evalArgs_plain (thn hA fun us s2 ⟨vs, H2, I2, r2, q2⟩ => mt pins s2 σ H2 (V.ref p) vs _ us Q I2 rfl r2 q2))
end
/-- what the two methods ask of the data -/
def smOk (d : D) (ds : List D) : Bool := PyData.plainAll ds && d.plain && decide (d.depth ≤ 64)
def rCntL (K : PySem.W.Frag) : V → List V → Hp → VK → Prop := fun x ys H Q => ∃ a y d ds, x = V.ref a ∧ ys = [y] ∧ Dp K H (.ref a) (.list ds) ∧ Dp K H y d ∧ smOk d ds = true ∧ Q (.int ((ds.countP fun z => PyData.eqv z d : Nat) : Int)) H
def rCntT (K : PySem.W.Frag) : V → List V → Hp → VK → Prop := fun x ys H Q => ∃ a y d ds, x = V.ref a ∧ ys = [y] ∧ Dp K H (.ref a) (.tuple ds) ∧ Dp K H y d ∧ smOk d ds = true ∧ Q (.int ((ds.countP fun z => PyData.eqv z d : Nat) : Int)) H
def rIdxL (K : PySem.W.Frag) : V → List V → Hp → VK → Prop := fun x ys H Q => ∃ a y d ds j, x = V.ref a ∧ ys = [y] ∧ Dp K H (.ref a) (.list ds) ∧ Dp K H y d ∧ smOk d ds = true ∧ SeqAt.dataPlace ds d = some j ∧ Q (.int (j : Nat)) H
def rIdxT (K : PySem.W.Frag) : V → List V → Hp → VK → Prop := fun x ys H Q => ∃ a y d ds j, x = V.ref a ∧ ys = [y] ∧ Dp K H (.ref a) (.tuple ds) ∧ Dp K H y d ∧ smOk d ds = true ∧ SeqAt.dataPlace ds d = some j ∧ Q (.int (j : Nat)) H
theorem smOk_of {d : D} {ds : List D} (h : smOk d ds = true) : PyData.plainAll ds = true ∧ d.plain = true ∧ d.depth ≤ 64 := by
  unfold smOk at h
  simp only [Bool.and_eq_true, decide_eq_true_eq] at h
  exact ⟨h.1.1, h.1.2, h.2⟩
section
variable {X : Cx}
theorem room_sm {A : Around} {d : D} {ds : List D} (h : d.depth ≤ 64) (hu : A.units + 65 < cLine) : A.units + 1 + min (PyData.depthAll ds) d.depth < cLine := by
  have : min (PyData.depthAll ds) d.depth ≤ d.depth := Nat.min_le_right _ _
  omega
theorem vals_one {y : V} {us : List Value} (h : Vals [y] us) : ∃ u, us = [u] ∧ RelV y u := by
  cases h with
  | cons r t => cases t; exact ⟨_, rfl, r⟩
theorem mt_cntL (hu : X.A.units + 65 < cLine) : MtR X "list.count" (rCntL X.K) := by
  intro pins s σ H x xs v us Q I rx rxs ⟨a, y, d, ds, e1, e2, hl, hy, ok, q⟩
  subst e1 e2
  cases rx
  obtain ⟨u, rfl, ry⟩ := vals_one rxs
  obtain ⟨h1, h2, h3⟩ := smOk_of ok
  obtain ⟨bs, rd⟩ := Dp.reads I d y u hy ry
  cases hl with
  | lst hs ha =>
    obtain ⟨its, rv, pl, hz⟩ := I.list hs
    obtain ⟨as, ra⟩ := Dp.readsAll I ds _ its ha rv
    exact SeqAt.count_list_data pl.isList (show ReadsAll s.heap its.toArray.toList ds as from ra) rd h1 h2 (room_sm h3 hu) ⟨.int ((ds.countP fun z => PyData.eqv z d : Nat) : Int), H, I.tok _, ⟨_, rfl⟩, q⟩
theorem mt_cntT (hu : X.A.units + 65 < cLine) : MtR X "tuple.count" (rCntT X.K) := by
  intro pins s σ H x xs v us Q I rx rxs ⟨a, y, d, ds, e1, e2, hl, hy, ok, q⟩
  subst e1 e2
  cases rx
  obtain ⟨u, rfl, ry⟩ := vals_one rxs
  obtain ⟨h1, h2, h3⟩ := smOk_of ok
  obtain ⟨bs, rd⟩ := Dp.reads I d y u hy ry
  cases hl with
  | tup hs ha =>
    obtain ⟨its, rv, pl, hz⟩ := I.tuple hs
    obtain ⟨as, ra⟩ := Dp.readsAll I ds _ its ha rv
    exact SeqAt.count_tuple_data pl (show ReadsAll s.heap its.toArray.toList ds as from ra) rd h1 h2 (room_sm h3 hu) ⟨.int ((ds.countP fun z => PyData.eqv z d : Nat) : Int), H, I.tok _, ⟨_, rfl⟩, q⟩
theorem mt_idxL (hu : X.A.units + 65 < cLine) : MtR X "list.index" (rIdxL X.K) := by
  intro pins s σ H x xs v us Q I rx rxs ⟨a, y, d, ds, j, e1, e2, hl, hy, ok, hj, q⟩
  subst e1 e2
  cases rx
  obtain ⟨u, rfl, ry⟩ := vals_one rxs
  obtain ⟨h1, h2, h3⟩ := smOk_of ok
  obtain ⟨bs, rd⟩ := Dp.reads I d y u hy ry
  cases hl with
  | lst hs ha =>
    obtain ⟨its, rv, ⟨⟨cls, dd, data, sl⟩, n, ho, hc, hdn, hdt⟩, hz⟩ := I.list hs
    simp only at hc hdt
    subst hc hdt
    obtain ⟨as, ra⟩ := Dp.readsAll I ds _ its ha rv
    have ra' : ReadsAll s.heap its.toArray.toList ds as := ra
    obtain ⟨k1, k2, k3⟩ := SeqAt.hit_at ra' h1 hj
    have hsz : its.toArray.size ≤ sizeLine := by rw [List.size_toArray, ← rv.length]; exact hz
    have hsl := sizeLine_eq
    exact call_meets PySem.F.slot_list_index ⟨_, ho, rfl⟩ PySem.F.entry_list_index (PySem.F.args_list_index_2 _ _) (SeqAt.list_indexAt a its.toArray n dd sl u (fun z => PyData.eqv (SeqAt.readOf s.heap z) d) j k1 (by omega) k2 k3)
      ⟨ho, SeqAt.items_plain ra' rd h1 h2 (room_sm h3 hu), ⟨.int (j : Nat), H, I.tok _, ⟨_, rfl⟩, q⟩⟩
theorem mt_idxT (hu : X.A.units + 65 < cLine) : MtR X "tuple.index" (rIdxT X.K) := by
  intro pins s σ H x xs v us Q I rx rxs ⟨a, y, d, ds, j, e1, e2, hl, hy, ok, hj, q⟩
  subst e1 e2
  cases rx
  obtain ⟨u, rfl, ry⟩ := vals_one rxs
  obtain ⟨h1, h2, h3⟩ := smOk_of ok
  obtain ⟨bs, rd⟩ := Dp.reads I d y u hy ry
  cases hl with
  | tup hs ha =>
    obtain ⟨its, rv, ⟨⟨cls, dd, data, sl⟩, ho, hc, n, hdt⟩, hz⟩ := I.tuple hs
    simp only at hc hdt
    subst hc hdt
    obtain ⟨as, ra⟩ := Dp.readsAll I ds _ its ha rv
    have ra' : ReadsAll s.heap its.toArray.toList ds as := ra
    obtain ⟨k1, k2, k3⟩ := SeqAt.hit_at ra' h1 hj
    exact call_meets PySem.F.slot_tuple_index ⟨_, ho, rfl⟩ PySem.F.entry_tuple_index (PySem.F.args_tuple_index_2 _ _) (TI.tuple_indexAt a its.toArray n dd sl u (fun z => PyData.eqv (SeqAt.readOf s.heap z) d) j k1 k2 k3)
      ⟨ho, SeqAt.items_plain ra' rd h1 h2 (room_sm h3 hu), ⟨.int (j : Nat), H, I.tok _, ⟨_, rfl⟩, q⟩⟩
end
def cntD (d e : D) : Option D := (itemsD d).bind fun ds => if smOk e ds = true then some (.int ((ds.countP fun z => PyData.eqv z e : Nat) : Int)) else none
def idxD (d e : D) : Option D := (itemsD d).bind fun ds => if smOk e ds = true then (SeqAt.dataPlace ds e).map fun j => .int (j : Nat) else none
section
variable {X : Cx} {m m1 m2 : Md} {o e : Expr} {to te : TE} {f g : Rho → Option D} {apos cpos : Pos}
theorem if_opt {α : Type} {p : Prop} [Decidable p] {x : Option α} {z : α} (h : (if p then x else none) = some z) : p ∧ x = some z := by
  by_cases hp : p
  · rw [if_pos hp] at h; exact ⟨hp, h⟩
  · rw [if_neg hp] at h; cases h
theorem sem_sm {K : PySem.W.Frag} {rl rt : V → List V → Hp → VK → Prop} {h : D → D → Option D}
    (hl : ∀ (F H : Hp) (x y : V) (ds : List D) (d z : D) (Q : VK), (∃ a, x = V.ref a ∧ Dp K H x (.list ds)) → Dp K H y d → Same F H → h (.list ds) d = some z → (∀ v F' H', Ext F H F' H' → Res K .fz H F' H' v z → Q v H') → rl x [y] H Q)
    (ht : ∀ (F H : Hp) (x y : V) (ds : List D) (d z : D) (Q : VK), (∃ a, x = V.ref a ∧ Dp K H x (.tuple ds)) → Dp K H y d → Same F H → h (.tuple ds) d = some z → (∀ v F' H', Ext F H F' H' → Res K .fz H F' H' v z → Q v H') → rt x [y] H Q)
    (hn : ∀ d e z, h d e = some z → ∃ ds, itemsD d = some ds) (ho : SemE K m1 to f) (ha : SemE K m2 te g) : SemE K .fz (tSM K rl rt to (tCons te tNil)) (f2 h f g) := by
  intro B F H σ ρ z Q r hf q
  obtain ⟨d, h1, h2⟩ := bind_some hf
  obtain ⟨e, h3, h4⟩ := bind_some h2
  obtain ⟨ds, hd⟩ := hn d e z h4
  refine ho B F H σ ρ d _ r h1 fun v F1 H1 x1 r1 => ?_
  cases d with
  | list ds' =>
    obtain ⟨a, xs, rfl, s1, p1⟩ := r1.list x1.s
    refine .inl ⟨⟨a, xs, rfl, s1⟩, ?_⟩
    refine ha B F1 H1 σ ρ e _ (r.ext x1) h3 fun u F2 H2 x2 r2 => ?_
    have x3 := x1.trans x2
    exact hl F2 H2 _ u ds' e z Q ⟨a, rfl, (r1.mono x2).dp x2.s⟩ (r2.dp x2.s) x2.s h4 fun v' F' H' x' r' => q v' F' H' (x3.trans x') (r'.back (F1 := F2) (x1.h.trans x2.h))
  | tuple ds' =>
    obtain ⟨a, xs, rfl, s1, p1⟩ := r1.tup x1.s
    refine .inr ⟨⟨a, xs, rfl, s1⟩, ?_⟩
    refine ha B F1 H1 σ ρ e _ (r.ext x1) h3 fun u F2 H2 x2 r2 => ?_
    have x3 := x1.trans x2
    exact ht F2 H2 _ u ds' e z Q ⟨a, rfl, (r1.mono x2).dp x2.s⟩ (r2.dp x2.s) x2.s h4 fun v' F' H' x' r' => q v' F' H' (x3.trans x') (r'.back (F1 := F2) (x1.h.trans x2.h))
  | _ => cases hd
theorem de_index (K' : PySem.W.Frag) (hu : X.A.units + 65 < cLine) (ho : DE X m1 o to f) (he : DE X m2 e te g) (hK : X.K = K' := by rfl) (hbase : attributeBase o "index" X.env (eval o X.env) = eval o X.env := by rfl)
    (hfew : ((backTo cpos (starEach [e] X.env)).all (fun x => !x.1) && (backToKw cpos (keywordEach [] X.env)).all (fun x => x.1.isSome)
        && decide ([e].length + ([] : List Keyword).length + (if ([] : List Keyword).isEmpty then 0 else 1) < 30)) = true := by rfl)
    (hline : (apos.endLine == cpos.line) = true := by rfl) (hs : starEach [e] X.env = (false, eval e X.env) :: starEach [] X.env := by rfl) (hplain : (backTo cpos (starEach [] X.env)).any (·.1) = false := by rfl) :
    DE X .fz (.Call (.Attribute o "index" apos) [e] [] cpos) (tSM K' (rIdxL K') (rIdxT K') to (tCons te tNil)) (f2 idxD f g) := by
  subst hK
  refine ⟨pe_sm PySem.F.slot_list_index PySem.F.type_list_index (mt_idxL hu) PySem.F.slot_tuple_index PySem.F.type_tuple_index (mt_idxT hu) ho.p (pa_cons he.p pa_nil hs) hbase hfew hline hs hplain, sem_sm (fun F H x y ds d z Q ⟨a, ex, hx⟩ hy fh hz q => ?_) (fun F H x y ds d z Q ⟨a, ex, hx⟩ hy fh hz q => ?_) (fun d e z h => ?_) ho.s he.s⟩
  · subst ex
    obtain ⟨h1, h2⟩ := if_opt (show (if smOk d ds = true then ((SeqAt.dataPlace ds d).map fun j => PyData.int (j : Nat)) else none) = some z from hz)
    obtain ⟨j, h3, rfl⟩ := Option.map_eq_some_iff.mp h2
    exact ⟨a, y, d, ds, j, rfl, rfl, hx, hy, h1, h3, q _ F H (.refl fh) (Rep.int _)⟩
  · subst ex
    obtain ⟨h1, h2⟩ := if_opt (show (if smOk d ds = true then ((SeqAt.dataPlace ds d).map fun j => PyData.int (j : Nat)) else none) = some z from hz)
    obtain ⟨j, h3, rfl⟩ := Option.map_eq_some_iff.mp h2
    exact ⟨a, y, d, ds, j, rfl, rfl, hx, hy, h1, h3, q _ F H (.refl fh) (Rep.int _)⟩
  · obtain ⟨ds, h1, _⟩ := bind_some h
    exact ⟨ds, h1⟩
theorem de_count (K' : PySem.W.Frag) (hu : X.A.units + 65 < cLine) (ho : DE X m1 o to f) (he : DE X m2 e te g) (hK : X.K = K' := by rfl) (hbase : attributeBase o "count" X.env (eval o X.env) = eval o X.env := by rfl)
    (hfew : ((backTo cpos (starEach [e] X.env)).all (fun x => !x.1) && (backToKw cpos (keywordEach [] X.env)).all (fun x => x.1.isSome)
        && decide ([e].length + ([] : List Keyword).length + (if ([] : List Keyword).isEmpty then 0 else 1) < 30)) = true := by rfl)
    (hline : (apos.endLine == cpos.line) = true := by rfl) (hs : starEach [e] X.env = (false, eval e X.env) :: starEach [] X.env := by rfl) (hplain : (backTo cpos (starEach [] X.env)).any (·.1) = false := by rfl) :
    DE X .fz (.Call (.Attribute o "count" apos) [e] [] cpos) (tSM K' (rCntL K') (rCntT K') to (tCons te tNil)) (f2 cntD f g) := by
  subst hK
  refine ⟨pe_sm PySem.F.slot_list_count PySem.F.type_list_count (mt_cntL hu) PySem.F.slot_tuple_count PySem.F.type_tuple_count (mt_cntT hu) ho.p (pa_cons he.p pa_nil hs) hbase hfew hline hs hplain, sem_sm (fun F H x y ds d z Q ⟨a, ex, hx⟩ hy fh hz q => ?_) (fun F H x y ds d z Q ⟨a, ex, hx⟩ hy fh hz q => ?_) (fun d e z h => ?_) ho.s he.s⟩
  · subst ex
    obtain ⟨h1, rfl⟩ := if_some (show (if smOk d ds = true then some (PyData.int ((ds.countP fun z => PyData.eqv z d : Nat) : Int)) else none) = some z from hz)
    exact ⟨a, y, d, ds, rfl, rfl, hx, hy, h1, q _ F H (.refl fh) (Rep.int _)⟩
  · subst ex
    obtain ⟨h1, rfl⟩ := if_some (show (if smOk d ds = true then some (PyData.int ((ds.countP fun z => PyData.eqv z d : Nat) : Int)) else none) = some z from hz)
    exact ⟨a, y, d, ds, rfl, rfl, hx, hy, h1, q _ F H (.refl fh) (Rep.int _)⟩
  · obtain ⟨ds, h1, _⟩ := bind_some h
    exact ⟨ds, h1⟩
end
end Q
end

/-! part: Q16 -/
section
set_option Elab.async false
set_option linter.all false
set_option maxRecDepth 100000
set_option maxHeartbeats 4000000
set_option autoImplicit false
namespace Q
open PySem PySem.Spec PySem.Calls PyProof.Rows L2
/-! ### more for the plain part -/
/-- a for loop that may return: the first x at which it stops -/
theorem forL_some {α : Type} {step : D → Bd} {mk : α → D} (stop : α → Option D) : ∀ (xs : List α) (inv : Nat → Rho → Prop) (ρ : Rho), inv 0 ρ →
    (∀ (k : Nat) (ρ : Rho) (x : α), inv k ρ → xs[k]? = some x → (∀ d, stop x = some d → step (mk x) ρ = some (.rt d)) ∧ (stop x = none → ∃ ρ', step (mk x) ρ = some (.nx ρ') ∧ inv (k + 1) ρ')) →
    (∀ d, xs.findSome? stop = some d → forL step (xs.map mk) ρ = some (.rt d)) ∧ (xs.findSome? stop = none → ∃ ρ', forL step (xs.map mk) ρ = some (.nx ρ') ∧ inv xs.length ρ')
  | [], inv, ρ, h0, _ => ⟨fun d h => by simp at h, fun _ => ⟨ρ, rfl, h0⟩⟩
  | x :: xs, inv, ρ, h0, h => by
    obtain ⟨a1, a2⟩ := h 0 ρ x h0 rfl
    cases hs : stop x with
    | some d =>
      refine ⟨fun d' h' => ?_, fun h' => ?_⟩
      · rw [List.findSome?_cons, hs] at h'
        cases h'
        rw [List.map_cons]
        unfold forL
        rw [a1 d hs]
        rfl
      · rw [List.findSome?_cons, hs] at h'
        cases h'
    | none =>
      obtain ⟨ρ1, b1, b2⟩ := a2 hs
      obtain ⟨c1, c2⟩ := forL_some stop xs (fun k => inv (k + 1)) ρ1 b2 (fun k ρ' y hk hy => h (k + 1) ρ' y hk (by simpa using hy))
      refine ⟨fun d' h' => ?_, fun h' => ?_⟩
      · rw [List.findSome?_cons, hs] at h'
        rw [List.map_cons]
        unfold forL
        rw [b1]
        exact c1 d' h'
      · rw [List.findSome?_cons, hs] at h'
        rw [List.map_cons]
        unfold forL
        rw [b1]
        exact c2 h'
theorem rg2_n {lo hi : Int} (h1 : -100000 ≤ lo ∧ lo ≤ 100000) (h2 : -100000 ≤ hi ∧ hi ≤ 100000) : rg2D [.int lo, .int hi] = some ((List.range (hi - lo).toNat).map fun i => .int (lo + (i : Nat))) := by
  rw [rg2D, if_pos (by omega)]
  rfl
theorem numL_ints : ∀ (ns : List Int) (k : Nat), numL k (ns.map .int) = (List.range ns.length).map fun i => .tuple [.int ((k + i : Nat) : Int), .int (ns.getD i 0)]
  | [], _ => rfl
  | n :: ns, k => by
    rw [List.map_cons, numL, numL_ints ns (k + 1), List.length_cons, List.range_succ_eq_map, List.map_cons, List.map_map]
    congr 1
    apply List.map_congr_left
    intro i _
    simp [Nat.add_assoc, Nat.add_comm 1 i]
theorem ints_ex : ∀ (l : List D), (∀ d ∈ l, ∃ n : Int, d = .int n) → ∃ ms : List Int, l = ms.map .int
  | [], _ => ⟨[], rfl⟩
  | d :: l, h => by
    obtain ⟨n, rfl⟩ := h d List.mem_cons_self
    obtain ⟨ms, rfl⟩ := ints_ex l fun e he => h e (List.mem_cons_of_mem _ he)
    exact ⟨n :: ms, rfl⟩
theorem srtOk_ints (ns : List Int) : srtOk (ns.map .int) = true := by
  unfold srtOk
  simp only [Bool.and_eq_true, Bool.or_eq_true, List.all_eq_true, List.mem_map, forall_exists_index, and_imp, forall_apply_eq_imp_iff₂]
  refine ⟨⟨fun a _ b _ => ?_, .inr fun a _ => trivial⟩, fun a _ => ?_⟩
  · with_unfolding_all rfl
  · with_unfolding_all rfl
theorem srt_ex (ns : List Int) : ∃ ms : List Int, srt (ns.map .int) = ms.map .int ∧ ms.length = ns.length := by
  have hp : (srt (ns.map .int)).Perm (ns.map .int) := List.mergeSort_perm _ _
  obtain ⟨ms, e⟩ := ints_ex (srt (ns.map .int)) fun d hd => by
    obtain ⟨n, _, rfl⟩ := List.mem_map.mp (hp.mem_iff.mp hd)
    exact ⟨n, rfl⟩
  refine ⟨ms, e, ?_⟩
  have := hp.length_eq
  rw [e] at this
  simpa using this
theorem sorted_t (ns : List Int) : sortedD [.tuple (ns.map .int)] = some (.list (srt (ns.map .int))) := by
  rw [sortedD, items_t, Option.bind_some, if_pos (srtOk_ints ns)]
theorem sorted_l (ns : List Int) : sortedD [.list (ns.map .int)] = some (.list (srt (ns.map .int))) := by
  rw [sortedD, items_l, Option.bind_some, if_pos (srtOk_ints ns)]
/-- (2, v) < (2, w) -/
theorem lt_key (v w : Int) : ltD (.tuple [.int 2, .int v]) (.tuple [.int 2, .int w]) = some (.bool (decide (v < w))) := by
  have ok : ordOk (.tuple [.int 2, .int v]) (.tuple [.int 2, .int w]) = true := by with_unfolding_all rfl
  unfold ltD
  rw [if_pos ok, PySem.W.dataLt_tuple]
  have a1 : PySem.W.alike (.int 2) (.int 2) = true := by with_unfolding_all rfl
  have a2 : PySem.W.alike (.int v) (.int w) = true := by with_unfolding_all rfl
  rw [PySem.W.dataLt_all_yes a1 (by with_unfolding_all rfl)]
  cases he : PyData.eqv (.int v) (.int w) with
  | false => rw [PySem.W.dataLt_all_no a2 he, PySem.W.dataLt_int]
  | true =>
    rw [PySem.W.dataLt_all_yes a2 he]
    have e : v = w := by
      unfold PyData.eqv at he
      exact eq_of_beq he
    subst e
    simp only [Int.lt_irrefl, decide_false]
    with_unfolding_all rfl
theorem head_filter {α : Type} (p : α → Bool) (xs : List α) : (xs.filter p).head? = xs.find? p := List.head?_filter ..
/-- the ints sorted -/
def sI (ns : List Int) : List Int := (intsOf (srt (ns.map .int))).getD []
theorem srt_sI (ns : List Int) : srt (ns.map .int) = (sI ns).map .int := by
  obtain ⟨ms, e, _⟩ := srt_ex ns
  unfold sI
  rw [e, intsOf_ints]
  rfl
theorem sI_len (ns : List Int) : (sI ns).length = ns.length := by
  obtain ⟨ms, e, h⟩ := srt_ex ns
  unfold sI
  rw [e, intsOf_ints]
  exact h
@[simp] theorem sorted_ti (ns : List Int) : sortedD [.tuple (ns.map .int)] = some (.list ((sI ns).map .int)) := by rw [sorted_t, srt_sI]
@[simp] theorem sorted_li (ns : List Int) : sortedD [.list (ns.map .int)] = some (.list ((sI ns).map .int)) := by rw [sorted_l, srt_sI]
theorem lcL_no {tt : D → Option Bool} {te : D → Option D} : ∀ {ds : List D}, (∀ d ∈ ds, tt d = some false) → lcL tt te ds = some []
  | [], _ => rfl
  | d :: ds, h => by
    unfold lcL
    rw [h d List.mem_cons_self]
    exact lcL_no fun e he => h e (List.mem_cons_of_mem _ he)
theorem range_cut (b : Nat → Bool) (m : Nat) : ∀ n : Nat, ((List.range (m + n)).filter fun i => decide (i < m) && b i) = (List.range m).filter b
  | 0 => by
    apply List.filter_congr
    intro i hi
    have : i < m := List.mem_range.mp hi
    simp [this]
  | n + 1 => by
    rw [← Nat.add_assoc, List.range_succ, List.filter_append, range_cut b m n]
    have : ¬ (m + n < m) := by omega
    simp [this]
theorem find_guard {α β : Type} (b : α → Bool) (f : α → β) : ∀ xs : List α, (xs.findSome? fun i => if b i = true then some (f i) else none) = (xs.find? b).map f
  | [] => rfl
  | x :: xs => by
    rw [List.findSome?_cons, List.find?_cons]
    cases h : b x with
    | true => simp
    | false => simpa using find_guard b f xs
theorem find_range (b : Nat → Bool) (m n : Nat) (i : Nat) (h : (List.range m).find? b = some i) : (List.range (m + n)).find? b = some i := by
  have e : List.range (m + n) = List.range m ++ (List.range n).map (m + ·) := List.range_add ..
  rw [e, List.find?_append, h]
  rfl
@[simp] theorem isB_bb {a b : Bool} : isBD (.bool a) (.bool b) = some (.bool (a == b)) := by cases a <;> cases b <;> rfl
@[simp] theorem notB_bb {a b : Bool} : notBD (.bool a) (.bool b) = some (.bool (!(a == b))) := by cases a <;> cases b <;> rfl
@[simp] theorem ne_f0 {α : Type} (p : α → Int) (L : List α) : neD (.list (L.map fun x => .int (p x))) (.list []) = some (.bool (!L.isEmpty)) := by
  have e : (L.map fun x => PyData.int (p x)) = (L.map p).map .int := by rw [List.map_map]; rfl
  rw [e, ne_l0]
  cases L <;> simp
end Q
end

/-! part: Q17 -/
section
set_option Elab.async false
set_option linter.all false
set_option maxRecDepth 100000
set_option maxHeartbeats 4000000
set_option autoImplicit false
namespace Q
open PySem PySem.Spec PySem.Calls PyProof.Rows L2
/-! ### data that the module's names hold -/
def datA (f : Value → D → Bool) : List Value → List D → Bool
  | [], [] => true
  | u :: us, d :: ds => f u d && datA f us ds
  | _, _ => false
def datB (K : PySem.W.Frag) : Nat → Value → D → Bool
  | 0, _, _ => false
  | _ + 1, .none, .none => true
  | _ + 1, .bool b, .bool c => b == c
  | _ + 1, .int i _, .int j => decide (i = j)
  | _ + 1, .str x _, .str y => decide (x = y)
  | n + 1, .ref a, .list ds => (match K.lookup a with
    | some ⟨.type c, none, .seq its _, _⟩ => decide (c = "list") && (decide (its.size ≤ sizeLine) && datA (datB K n) its.toList ds)
    | _ => false)
  | n + 1, .ref a, .tuple ds => (match K.lookup a with
    | some ⟨.type c, none, .seq its _, _⟩ => decide (c = "tuple") && (decide (its.size ≤ sizeLine) && datA (datB K n) its.toList ds)
    | _ => false)
  | _, _, _ => false
theorem and_b {a b : Bool} (h : (a && b) = true) : a = true ∧ b = true := Bool.and_eq_true_iff.mp h
theorem datA_ok {K : PySem.W.Frag} {f : Value → D → Bool} (hf : ∀ u d, f u d = true → ∃ v, RelV v u ∧ ∀ F, Rep K F v d) : ∀ {us : List Value} {ds : List D}, datA f us ds = true → ∃ vs, Vals vs us ∧ ∀ F, RepA K F vs ds
  | [], [], _ => ⟨[], .nil, fun _ => .nil⟩
  | u :: us, d :: ds, h => by
    obtain ⟨h1, h2⟩ := and_b h
    obtain ⟨v, r, p⟩ := hf u d h1
    obtain ⟨vs, rs, ps⟩ := datA_ok hf h2
    exact ⟨v :: vs, .cons r rs, fun F => .cons (p F) (ps F)⟩
theorem datB_ok {K : PySem.W.Frag} : ∀ (n : Nat) (u : Value) (d : D), datB K n u d = true → ∃ v, RelV v u ∧ ∀ F, Rep K F v d := by
  intro n
  induction n with
  | zero => intro u d h; cases h
  | succ n ih =>
    intro u d h
    unfold datB at h
    split at h
    · rename_i e; cases e
    · exact ⟨.non, rfl, fun F => .non⟩
    · rename_i b c e; cases eq_of_beq h; exact ⟨.bl _, rfl, fun F => .bl _⟩
    · rename_i i t j e; cases of_decide_eq_true h; exact ⟨.int _, ⟨_, rfl⟩, fun F => .int _⟩
    · rename_i x t y e; cases of_decide_eq_true h; exact ⟨.str _, ⟨_, rfl⟩, fun F => .str _⟩
    · rename_i m a ds e
      cases e
      split at h
      · rename_i c its k sl q
        obtain ⟨h1, h2⟩ := and_b h
        obtain ⟨h3, h4⟩ := and_b h2
        obtain ⟨vs, rs, ps⟩ := datA_ok ih h4
        exact ⟨.ref a, rfl, fun F => .lst (.inr ⟨_, its, k, q, congrArg Value.type (of_decide_eq_true h1), rfl, rfl, of_decide_eq_true h3, rs⟩) (ps F)⟩
      · cases h
    · rename_i m a ds e
      cases e
      split at h
      · rename_i c its k sl q
        obtain ⟨h1, h2⟩ := and_b h
        obtain ⟨h3, h4⟩ := and_b h2
        obtain ⟨vs, rs, ps⟩ := datA_ok ih h4
        exact ⟨.ref a, rfl, fun F => .tup (.inr ⟨_, its, k, q, congrArg Value.type (of_decide_eq_true h1), rfl, rfl, of_decide_eq_true h3, rs⟩) (ps F)⟩
      · cases h
    · cases h
/-- what the head looks at besides the given facts -/
inductive Ck where
  | fun_ (x : Str) (id : String)
  | dat (x : Str) (d : D)
def Ck.ok (K : PySem.W.Frag) : Ck → Bool
  | .fun_ x id => decide (PySem.W.nsIn K mainGlobals x = some (some (.builtin id)))
  | .dat x d => (match PySem.W.nsIn K mainGlobals x with
    | some (some u) => datB K 9 u d
    | _ => false)
def obsQ (n : Nat) (fa : List He.Fa) (fn : List He.DefD) (ck : List Ck) (g : Addr → Option Obj) : He.AlD × Bool := (He.obsDG n fa fn g, ck.all fun c => c.ok (He.frG g (He.asD g n)))
def hookQ (n : Nat) (fa : List He.Fa) (fn : List He.DefD) (ck : List Ck) : PySem.W.Hook where
  α := He.AlD × Bool
  obs := fun s => obsQ n fa fn ck s.heap.get?
  val := fun _ => (He.valD fn, true)
  says := fun _ h => ∃ K : PySem.W.Frag, K.In h ∧ He.SaysD fa fn K ∧ (ck.all fun c => c.ok K) = true
  of := fun _ _ e => ⟨_, He.frG_in, congrArg (fun z : He.AlD × Bool => z.1) e, congrArg (fun z : He.AlD × Bool => z.2) e⟩
  keeps := fun _ _ _ ⟨K, hK, c⟩ k => ⟨K, PySem.W.Frag.In.keeps hK k, c⟩
theorem obsQ_eq {n : Nat} {fa : List He.Fa} {fn : List He.DefD} {ck : List Ck} {g : Addr → Option Obj} {s : Shared} (h : ∀ a, g a = s.heap.get? a) : obsQ n fa fn ck g = (hookQ n fa fn ck).obs s := by
  have e : g = s.heap.get? := funext h
  rw [e] <;> rfl
section
variable {K : PySem.W.Frag} {h : Heap} {mg : Str → Option Value} {ck : List Ck}
theorem ck_at (c : (ck.all fun c => c.ok K) = true) (i : Nat) {f : Ck} (e : ck[i]? = some f := by rfl) : f.ok K = true := List.all_eq_true.mp c f (List.mem_of_getElem? e)
theorem ck_fun (X : K.In h) (G : h.Ns mainGlobals mg) {x : Str} {id : String} (c : (Ck.fun_ x id).ok K = true) : mg x = some (.builtin id) := PySem.W.mg_of X G (of_decide_eq_true c)
theorem ck_dat (X : K.In h) (G : h.Ns mainGlobals mg) {x : Str} {d : D} (c : (Ck.dat x d).ok K = true) : ∃ u v, mg x = some u ∧ RelV v u ∧ ∀ F, Rep K F v d := by
  have c2 : (match PySem.W.nsIn K mainGlobals x with
    | some (some u) => datB K 9 u d
    | _ => false) = true := c
  split at c2
  · rename_i u q
    obtain ⟨v, r, p⟩ := datB_ok 9 u d c2
    exact ⟨u, v, PySem.W.mg_of X G q, r, p⟩
  · cases c2
end
section
variable {X : Cx} {m1 : Md} {e : Expr} {es : List Expr} {t : TA} {fs : Rho → Option (List D)} {x : Str} {p pos : Pos}
theorem de_globD (K' : PySem.W.Frag) {v : V} {u : Value} {d : D} (hg : Gl X x) (hm : X.mg x = some u) (hr : RelV v u) (hd : ∀ F, Rep K' F v d) (hK : X.K = K' := by rfl) (hdb : (x == ("__debug__" : Str)) = false := by decide) : DE X .fz (.Name x pos) (tC v) (cD d) := by
  subst hK
  exact ⟨pe_glob hg hm hr hdb, sem_c hd⟩
def gcdD : List D → Option D
  | [.int a, .int b] => some (.int ((Nat.gcd a.natAbs b.natAbs : Nat) : Int))
  | _ => none
theorem cs_gcd {K : PySem.W.Frag} : CallS K .fz rGcd gcdD := by
  intro F H Ha vs ds z Q fh r hz q
  match ds, r, hz with
  | [.int a, .int b], r, hz =>
    cases hz
    obtain ⟨v, w, rfl, r1, r2⟩ := resA2 r
    rw [r1.int, r2.int]
    exact ⟨a, b, rfl, q _ F H (.refl fh) (Rep.int _)⟩
theorem de_bf {id : String} {m : Md} {rc : List V → Hp → VK → Prop} {gc : List D → Option D} (hc : CallR X (.builtin id) rc) (hs : CallS X.K m rc gc) (hg : Gl X x) (hm : X.mg x = some (.builtin id)) (ha : DA X m1 (e :: es) t fs) (hdb : (x == ("__debug__" : Str)) = false := by decide)
    (he : starEach (e :: es) X.env = (false, eval e X.env) :: starEach es X.env := by rfl) (hpl : (backTo pos (starEach es X.env)).any (·.1) = false := by rfl) : DE X m (.Call (.Name x p) (e :: es) [] pos) (tCB rc t) (fB gc fs) :=
  ⟨pe_callBfun hc hg hm ha.p hdb he hpl, sem_cb hs ha.s⟩
end
end Q
end

/-! part: Q18 -/
section
set_option Elab.async false
set_option linter.all false
set_option maxRecDepth 100000
set_option maxHeartbeats 4000000
set_option autoImplicit false
namespace Q
open PySem PySem.Spec PySem.Calls PyProof.Rows L2
/-! ### codes: a type told as data -/
structure Nice {α : Type} [DecidableEq α] (n : Nat) (mk : α → D) : Prop where
  lay : ∀ a, (mk a).canLay0 = true
  dep : ∀ a, (mk a).depth ≤ n
  eqv : ∀ a b, PyData.eqv (mk a) (mk b) = decide (a = b)
/-- and their order -/
structure Ordd {α : Type} (mk : α → D) (lt : α → α → Bool) : Prop where
  alike : ∀ a b, PySem.W.alike (mk a) (mk b) = true
  lt : ∀ a b, PySem.W.dataLt (mk a) (mk b) = lt a b
  nn : ∀ a, mk a ≠ .none
section
variable {α β γ : Type} [DecidableEq α] [DecidableEq β] [DecidableEq γ] {n m k : Nat} {mk : α → D} {mk2 : β → D} {mk3 : γ → D}
theorem Nice.up (h : Nice n mk) (hm : n ≤ m) : Nice m mk := ⟨h.lay, fun a => Nat.le_trans (h.dep a) hm, h.eqv⟩
theorem nice_int : Nice 0 PyData.int := ⟨fun _ => rfl, fun _ => Nat.le_refl _, fun a b => by by_cases e : a = b <;> simp [PyData.eqv, e]⟩
theorem nice_bool : Nice 0 PyData.bool := ⟨fun _ => rfl, fun _ => Nat.le_refl _, fun a b => by cases a <;> cases b <;> rfl⟩
theorem Nice.layA (h : Nice n mk) : ∀ xs : List α, PyData.canLayAll0 (xs.map mk) = true
  | [] => rfl
  | x :: xs => by rw [List.map_cons, PyData.canLayAll0, h.lay, h.layA xs]; rfl
theorem Nice.depA (h : Nice n mk) : ∀ xs : List α, PyData.depthAll (xs.map mk) ≤ n
  | [] => Nat.zero_le _
  | x :: xs => by rw [List.map_cons, PyData.depthAll]; exact Nat.max_le.mpr ⟨h.dep x, h.depA xs⟩
theorem Nice.eqvA (h : Nice n mk) : ∀ xs ys : List α, PyData.eqvAll (xs.map mk) (ys.map mk) = decide (xs = ys)
  | [], [] => rfl
  | [], _ :: _ => rfl
  | _ :: _, [] => rfl
  | x :: xs, y :: ys => by
    rw [List.map_cons, List.map_cons, PyData.eqvAll, h.eqv, h.eqvA xs ys]
    by_cases h1 : x = y <;> by_cases h2 : xs = ys <;> simp [h1, h2]
theorem nice_tup (h : Nice n mk) : Nice (n + 1) (fun xs : List α => PyData.tuple (xs.map mk)) :=
  ⟨fun xs => by rw [PyData.canLay0]; exact h.layA xs, fun xs => by rw [PyData.depth]; have := h.depA xs; omega, fun xs ys => by rw [PyData.eqv]; exact h.eqvA xs ys⟩
theorem nice_lst (h : Nice n mk) : Nice (n + 1) (fun xs : List α => PyData.list (xs.map mk)) :=
  ⟨fun xs => by rw [PyData.canLay0]; exact h.layA xs, fun xs => by rw [PyData.depth]; have := h.depA xs; omega, fun xs ys => by rw [PyData.eqv]; exact h.eqvA xs ys⟩
theorem nice_pair (h : Nice n mk) (h2 : Nice n mk2) : Nice (n + 1) (fun p : α × β => PyData.tuple [mk p.1, mk2 p.2]) :=
  ⟨fun p => by simp [PyData.canLay0, PyData.canLayAll0, h.lay, h2.lay], fun p => by have := h.dep p.1; have := h2.dep p.2; simp only [PyData.depth, PyData.depthAll]; omega, fun p q => by
    simp only [PyData.eqv, PyData.eqvAll, h.eqv, h2.eqv, Prod.ext_iff, Bool.and_true, Bool.decide_and]⟩
theorem nice_lpair (h : Nice n mk) (h2 : Nice n mk2) : Nice (n + 1) (fun p : α × β => PyData.list [mk p.1, mk2 p.2]) :=
  ⟨fun p => by simp [PyData.canLay0, PyData.canLayAll0, h.lay, h2.lay], fun p => by have := h.dep p.1; have := h2.dep p.2; simp only [PyData.depth, PyData.depthAll]; omega, fun p q => by
    simp only [PyData.eqv, PyData.eqvAll, h.eqv, h2.eqv, Prod.ext_iff, Bool.and_true, Bool.decide_and]⟩
theorem nice_trip (h : Nice n mk) (h2 : Nice n mk2) (h3 : Nice n mk3) : Nice (n + 1) (fun p : α × β × γ => PyData.tuple [mk p.1, mk2 p.2.1, mk3 p.2.2]) :=
  ⟨fun p => by simp [PyData.canLay0, PyData.canLayAll0, h.lay, h2.lay, h3.lay], fun p => by have := h.dep p.1; have := h2.dep p.2.1; have := h3.dep p.2.2; simp only [PyData.depth, PyData.depthAll]; omega, fun p q => by
    simp only [PyData.eqv, PyData.eqvAll, h.eqv, h2.eqv, h3.eqv, Prod.ext_iff, Bool.and_true, Bool.decide_and]⟩
theorem Nice.shp (h : Nice n mk) (hn : n ≤ 64) (a : α) : SeqAt.shaped (mk a) = true := by
  have := h.dep a
  simp only [SeqAt.shaped, h.lay, Bool.true_and, decide_eq_true_eq]
  omega
theorem Nice.plain (h : Nice n mk) (a : α) : (mk a).plain = true := PyData.plain_of_canLay0 _ (h.lay a)
theorem Nice.plainA (h : Nice n mk) : ∀ xs : List α, PyData.plainAll (xs.map mk) = true
  | [] => rfl
  | x :: xs => by rw [List.map_cons, PyData.plainAll, h.plain, h.plainA xs]; rfl
theorem Nice.eq (h : Nice n mk) (hn : n ≤ 64) (a b : α) : eqD (mk a) (mk b) = some (.bool (decide (a = b))) := by
  rw [eqD, if_pos ⟨h.shp hn a, h.shp hn b⟩, h.eqv]
theorem Nice.ne (h : Nice n mk) (hn : n ≤ 64) (a b : α) : neD (mk a) (mk b) = some (.bool (!decide (a = b))) := by
  rw [neD, if_pos ⟨h.shp hn a, h.shp hn b⟩, h.eqv]
theorem Nice.mem (h : Nice n mk) (a : α) (xs : List α) : memD (mk a) (xs.map mk) = decide (a ∈ xs) := by
  unfold memD
  induction xs with
  | nil => rfl
  | cons x xs ih =>
    rw [List.map_cons, List.any_cons, ih, h.eqv]
    by_cases e : x = a
    · subst e; simp
    · have e2 : ¬ a = x := fun z => e z.symm
      simp [e, e2]
theorem Nice.in_l (h : Nice n mk) (hn : n < 64) (a : α) (xs : List α) : inD (mk a) (.list (xs.map mk)) = some (.bool (decide (a ∈ xs))) := by
  rw [inD, items_l, Option.bind_some, if_pos ⟨h.shp (by omega) a, (nice_lst h).shp (by omega) xs⟩, h.mem]
theorem Nice.in_t (h : Nice n mk) (hn : n < 64) (a : α) (xs : List α) : inD (mk a) (.tuple (xs.map mk)) = some (.bool (decide (a ∈ xs))) := by
  rw [inD, items_t, Option.bind_some, if_pos ⟨h.shp (by omega) a, (nice_tup h).shp (by omega) xs⟩, h.mem]
theorem Nice.notIn_l (h : Nice n mk) (hn : n < 64) (a : α) (xs : List α) : notInD (mk a) (.list (xs.map mk)) = some (.bool (!decide (a ∈ xs))) := by
  rw [notInD, items_l, Option.bind_some, if_pos ⟨h.shp (by omega) a, (nice_lst h).shp (by omega) xs⟩, h.mem]
theorem Nice.notIn_t (h : Nice n mk) (hn : n < 64) (a : α) (xs : List α) : notInD (mk a) (.tuple (xs.map mk)) = some (.bool (!decide (a ∈ xs))) := by
  rw [notInD, items_t, Option.bind_some, if_pos ⟨h.shp (by omega) a, (nice_tup h).shp (by omega) xs⟩, h.mem]
theorem Nice.place (h : Nice n mk) (a : α) (xs : List α) (hx : a ∈ xs) : SeqAt.dataPlace (xs.map mk) (mk a) = some (xs.idxOf a) := by
  unfold SeqAt.dataPlace
  rw [List.findIdx?_map]
  have e : ((fun y => PyData.eqv y (mk a)) ∘ mk) = fun x => x == a := by
    funext x
    show PyData.eqv (mk x) (mk a) = _
    rw [h.eqv]
    rfl
  rw [e, List.findIdx?_eq_some_iff_findIdx_eq]
  exact ⟨List.idxOf_lt_length_iff.mpr hx, rfl⟩
theorem Nice.smOk (h : Nice n mk) (hn : n ≤ 64) (a : α) (xs : List α) : Q.smOk (mk a) (xs.map mk) = true := by
  have := h.dep a
  simp only [Q.smOk, h.plainA, h.plain, Bool.and_self, Bool.true_and, decide_eq_true_eq]
  omega
theorem Nice.idx_l (h : Nice n mk) (hn : n ≤ 64) (a : α) (xs : List α) (hx : a ∈ xs) : idxD (.list (xs.map mk)) (mk a) = some (.int (xs.idxOf a : Nat)) := by
  rw [idxD, items_l, Option.bind_some, if_pos (h.smOk hn a xs), h.place a xs hx]; rfl
theorem Nice.idx_t (h : Nice n mk) (hn : n ≤ 64) (a : α) (xs : List α) (hx : a ∈ xs) : idxD (.tuple (xs.map mk)) (mk a) = some (.int (xs.idxOf a : Nat)) := by
  rw [idxD, items_t, Option.bind_some, if_pos (h.smOk hn a xs), h.place a xs hx]; rfl
theorem Nice.cntP (h : Nice n mk) (a : α) (xs : List α) : (xs.map mk).countP (fun z => PyData.eqv z (mk a)) = xs.count a := by
  rw [List.countP_map, List.count]
  congr 1
  funext x
  show PyData.eqv (mk x) (mk a) = _
  rw [h.eqv]
  rfl
theorem Nice.cnt_l (h : Nice n mk) (hn : n ≤ 64) (a : α) (xs : List α) : cntD (.list (xs.map mk)) (mk a) = some (.int (xs.count a : Nat)) := by
  rw [cntD, items_l, Option.bind_some, if_pos (h.smOk hn a xs), h.cntP]
theorem Nice.cnt_t (h : Nice n mk) (hn : n ≤ 64) (a : α) (xs : List α) : cntD (.tuple (xs.map mk)) (mk a) = some (.int (xs.count a : Nat)) := by
  rw [cntD, items_t, Option.bind_some, if_pos (h.smOk hn a xs), h.cntP]
/-! order -/
theorem ordd_int : Ordd PyData.int fun a b => decide (a < b) := ⟨fun _ _ => by simp [PySem.W.alike], PySem.W.dataLt_int, fun _ z => nomatch z⟩
variable {lt : α → α → Bool} {lt2 : β → β → Bool} {lt3 : γ → γ → Bool}
theorem ordd_pair (h : Nice n mk) (h2 : Nice m mk2) (o : Ordd mk lt) (o2 : Ordd mk2 lt2) (irr : ∀ a, lt2 a a = false) : Ordd (fun p : α × β => PyData.tuple [mk p.1, mk2 p.2]) (fun p q => if p.1 = q.1 then lt2 p.2 q.2 else lt p.1 q.1) :=
  ⟨fun p q => by simp [PySem.W.alike, PySem.W.alikeAll, o.alike, o2.alike], fun p q => by
    rw [PySem.W.dataLt_pair (o.alike _ _) (o2.alike _ _), h.eqv, h2.eqv, o.lt, o2.lt]
    by_cases e : p.1 = q.1
    · by_cases e2 : p.2 = q.2
      · simp [e, e2, irr]
      · simp [e, e2]
    · simp [e], fun _ z => nomatch z⟩
theorem ordd_rows : Ordd (fun xs : List Int => PyData.tuple (xs.map .int)) (fun a b => decide (a < b)) := ⟨fun xs ys => by
    have : ∀ (xs ys : List Int), PySem.W.alikeAll (xs.map .int) (ys.map .int) = true := by
      intro xs
      induction xs with
      | nil => intro ys; simp [PySem.W.alikeAll]
      | cons x xs ih =>
        intro ys
        cases ys with
        | nil => simp [PySem.W.alikeAll]
        | cons y ys => simp [PySem.W.alikeAll, PySem.W.alike, ih]
    rw [PySem.W.alike]
    exact this xs ys, fun xs ys => by rw [PySem.W.dataLt_tuple]; exact PySem.W.dataLt_ints xs ys, fun _ z => nomatch z⟩
theorem bestOk_nice (h : Nice n mk) (hn : n ≤ 64) (o : Ordd mk lt) (xs : List α) : bestOk (xs.map mk) = true := by
  have := h.depA xs
  simp only [bestOk, Bool.and_eq_true, List.all_eq_true, List.mem_map, decide_eq_true_eq]
  refine ⟨⟨?_, ?_⟩, by omega⟩
  · rintro _ ⟨a, _, rfl⟩ _ ⟨b, _, rfl⟩
    exact o.alike a b
  · rintro _ ⟨a, _, rfl⟩
    have := o.nn a
    split
    · rename_i e; exact absurd e this
    · rfl
/-- the first of the least -/
def leastBy (lt : α → α → Bool) (x : α) (xs : List α) : α := xs.foldl (fun a y => if lt y a then y else a) x
/-- the first of the greatest -/
def mostBy (lt : α → α → Bool) (x : α) (xs : List α) : α := xs.foldl (fun a y => if lt a y then y else a) x
theorem minD_nice (o : Ordd mk lt) : ∀ (xs : List α) (x : α), PySem.W.minD (mk x) (xs.map mk) = mk (leastBy lt x xs)
  | [], _ => rfl
  | y :: xs, x => by
    have ih := minD_nice o xs (if lt y x then y else x)
    unfold PySem.W.minD leastBy at ih ⊢
    rw [List.map_cons, List.foldl_cons, List.foldl_cons, o.lt]
    rw [← ih]
    cases lt y x <;> rfl
theorem maxD_nice (o : Ordd mk lt) : ∀ (xs : List α) (x : α), PySem.W.maxD (mk x) (xs.map mk) = mk (mostBy lt x xs)
  | [], _ => rfl
  | y :: xs, x => by
    have ih := maxD_nice o xs (if lt x y then y else x)
    unfold PySem.W.maxD mostBy at ih ⊢
    rw [List.map_cons, List.foldl_cons, List.foldl_cons, o.lt]
    rw [← ih]
    cases lt x y <;> rfl
theorem minOf_nice (h : Nice n mk) (hn : n ≤ 64) (o : Ordd mk lt) (x : α) (xs : List α) : minOf ((x :: xs).map mk) = some (mk (leastBy lt x xs)) := by
  have := bestOk_nice h hn o (x :: xs)
  rw [List.map_cons] at this ⊢
  rw [minOf, if_pos this, minD_nice o]
theorem maxOf_nice (h : Nice n mk) (hn : n ≤ 64) (o : Ordd mk lt) (x : α) (xs : List α) : maxOf ((x :: xs).map mk) = some (mk (mostBy lt x xs)) := by
  have := bestOk_nice h hn o (x :: xs)
  rw [List.map_cons] at this ⊢
  rw [maxOf, if_pos this, maxD_nice o]
theorem leastBy_mem : ∀ (xs : List α) (x : α), leastBy lt x xs ∈ x :: xs
  | [], x => List.mem_cons_self
  | y :: xs, x => by
    unfold leastBy
    rw [List.foldl_cons]
    have := leastBy_mem xs (if lt y x then y else x)
    unfold leastBy at this
    rcases List.mem_cons.mp this with e | e
    · rw [e]
      split <;> simp
    · exact List.mem_cons_of_mem _ (List.mem_cons_of_mem _ e)
theorem mostBy_mem : ∀ (xs : List α) (x : α), mostBy lt x xs ∈ x :: xs
  | [], x => List.mem_cons_self
  | y :: xs, x => by
    unfold mostBy
    rw [List.foldl_cons]
    have := mostBy_mem xs (if lt x y then y else x)
    unfold mostBy at this
    rcases List.mem_cons.mp this with e | e
    · rw [e]
      split <;> simp
    · exact List.mem_cons_of_mem _ (List.mem_cons_of_mem _ e)
/-- the one least -/
theorem leastBy_eq {z : α} : ∀ (xs : List α) (x : α), z ∈ x :: xs → (∀ y ∈ x :: xs, y ≠ z → lt z y = true) → (∀ y ∈ x :: xs, lt y z = false) → leastBy lt x xs = z
  | [], x, h, _, _ => by
    rcases List.mem_cons.mp h with rfl | h
    · rfl
    · cases h
  | y :: xs, x, h, h1, h2 => by
    unfold leastBy
    rw [List.foldl_cons]
    refine leastBy_eq xs _ ?_ ?_ ?_
    · by_cases e : x = z
      · subst e
        rw [h2 y (by simp)]
        simp
      · by_cases e2 : y = z
        · subst e2
          rw [h1 x (by simp) e]
          simp
        · rcases List.mem_cons.mp h with rfl | h
          · exact absurd rfl e
          · rcases List.mem_cons.mp h with rfl | h
            · exact absurd rfl e2
            · exact List.mem_cons_of_mem _ h
    · intro w hw hn
      rcases List.mem_cons.mp hw with rfl | hw
      · cases c : lt y x
        · simp only [c, Bool.false_eq_true, if_false] at hn ⊢
          exact h1 _ (by simp) hn
        · simp only [c, if_true] at hn ⊢
          exact h1 _ (by simp) hn
      · exact h1 w (by simp [hw]) hn
    · intro w hw
      rcases List.mem_cons.mp hw with rfl | hw
      · split
        · exact h2 _ (by simp)
        · exact h2 _ (by simp)
      · exact h2 w (by simp [hw])
theorem mostBy_least (x : α) (xs : List α) : mostBy lt x xs = leastBy (fun a b => lt b a) x xs := rfl
theorem mostBy_eq {z : α} (xs : List α) (x : α) (h : z ∈ x :: xs) (h1 : ∀ y ∈ x :: xs, y ≠ z → lt y z = true) (h2 : ∀ y ∈ x :: xs, lt z y = false) : mostBy lt x xs = z := by
  rw [mostBy_least]
  exact leastBy_eq xs x h h1 h2
/-! sorted -/
end
end Q
namespace Q
open PySem PySem.Spec PySem.Calls PyProof.Rows L2
section
variable {α : Type} {mk : α → D}
theorem at_mk (xs : List α) {k : Nat} (d : α) (h : k < xs.length) : atI (xs.map mk) (k : Int) = some (mk (xs.getD k d)) := by
  rw [atI_nat (by simpa using h)]
  simp [h]
theorem numL_mk (d : α) : ∀ (xs : List α) (k : Nat), numL k (xs.map mk) = (List.range xs.length).map fun i => .tuple [.int ((k + i : Nat) : Int), mk (xs.getD i d)]
  | [], _ => rfl
  | x :: xs, k => by
    rw [List.map_cons, numL, numL_mk d xs (k + 1), List.length_cons, List.range_succ_eq_map, List.map_cons, List.map_map]
    congr 1
    apply List.map_congr_left
    intro i _
    simp [Nat.add_assoc, Nat.add_comm 1 i]
theorem enum_mk (d : α) (xs : List α) (x : D) (h : x = .list (xs.map mk) ∨ x = .tuple (xs.map mk)) : enumD x = some ((List.range xs.length).map fun (i : Nat) => .tuple [.int (i : Int), mk (xs.getD i d)]) := by
  rcases h with rfl | rfl
  · rw [enumD, items_l, Option.map_some, numL_mk d]
    simp
  · rw [enumD, items_t, Option.map_some, numL_mk d]
    simp
end
/-! trees of tuples -/
def tame : Nat → D → Bool
  | n + 1, .tuple ds => decide (ds.length ≤ 1000) && ds.all (tame n)
  | _ + 1, .int _ => true
  | _ + 1, .bool _ => true
  | _ + 1, .str x => PyData.canLay0 (.str x)
  | _ + 1, .none => true
  | _, _ => false
/-- tuples turned into lists -/
def lstd : Nat → D → D
  | n + 1, .tuple ds => .list (ds.map (lstd n))
  | _, d => d
theorem tame_t {n : Nat} {ds : List D} (h : tame (n + 1) (.tuple ds) = true) : ds.length ≤ 1000 ∧ ∀ d ∈ ds, tame n d = true := by
  simpa [tame] using h
theorem eq_str {x : Str} (h : PyData.canLay0 (.str x) = true) : eqD (.str x) (.str x) = some (.bool true) := by
  have e : SeqAt.shaped (.str x) = true := by simp [SeqAt.shaped, h, PyData.depth]
  rw [eqD, if_pos ⟨e, e⟩]
  simp [PyData.eqv]
/-! a loop, by what is done so far -/
theorem forL_pre {α : Type} {step : D → Bd} {mk : α → D} {all : List α} (inv : List α → Rho → Prop) : ∀ (xs pre : List α) (ρ : Rho), all = pre ++ xs → inv pre ρ →
    (∀ (pre post : List α) (ρ : Rho) (x : α), inv pre ρ → all = pre ++ x :: post → ∃ ρ', (step (mk x) ρ = some (.nx ρ') ∨ step (mk x) ρ = some (.ct ρ')) ∧ inv (pre ++ [x]) ρ') →
    ∃ ρ', forL step (xs.map mk) ρ = some (.nx ρ') ∧ inv all ρ'
  | [], pre, ρ, e, h0, h => ⟨ρ, rfl, by rw [e, List.append_nil]; exact h0⟩
  | x :: xs, pre, ρ, e, h0, h => by
    obtain ⟨ρ1, h1, h2⟩ := h pre xs ρ x h0 e
    obtain ⟨ρ2, h3, h4⟩ := forL_pre inv xs (pre ++ [x]) ρ1 (by rw [e]; simp) h2 h
    refine ⟨ρ2, ?_, h4⟩
    rw [List.map_cons]
    unfold forL
    rcases h1 with h1 | h1 <;> rw [h1] <;> exact h3
theorem forL_all {α : Type} {step : D → Bd} {mk : α → D} {xs : List α} (inv : List α → Rho → Prop) (ρ : Rho) (h0 : inv [] ρ)
    (h : ∀ (pre post : List α) (ρ : Rho) (x : α), inv pre ρ → xs = pre ++ x :: post → ∃ ρ', (step (mk x) ρ = some (.nx ρ') ∨ step (mk x) ρ = some (.ct ρ')) ∧ inv (pre ++ [x]) ρ') :
    ∃ ρ', forL step (xs.map mk) ρ = some (.nx ρ') ∧ inv xs ρ' := forL_pre inv xs [] ρ rfl h0 h
theorem range_split {c x : Nat} {pre post : List Nat} (h : List.range c = pre ++ x :: post) : x = pre.length ∧ x < c ∧ pre = List.range x := by
  have h1 : (List.range c)[pre.length]? = some x := by rw [h]; simp
  have h2 := (List.getElem?_eq_some_iff.mp h1).1
  rw [List.length_range] at h2
  rw [List.getElem?_range h2] at h1
  have e := Option.some.inj h1
  refine ⟨e.symm, by omega, ?_⟩
  have h3 := congrArg (List.take pre.length) h
  rw [List.take_left, List.take_range] at h3
  rw [← h3]
  congr 1
  omega
theorem split_mem {α : Type} {xs pre post : List α} {x : α} (h : xs = pre ++ x :: post) : x ∈ xs := by rw [h]; simp
theorem split_len {α : Type} {xs pre post : List α} {x : α} (h : xs = pre ++ x :: post) : pre.length < xs.length := by rw [h]; simp
@[simp] theorem augD_e {op : D → D → Option D} {i : Nat} {f : Rho → Option D} {ρ : Rho} : augD op i f ρ = (imD ρ[i]?).bind fun d => (f ρ).bind fun e => (op d e).bind fun z => some (.nx (ρ.set i (.im z))) := by
  unfold augD
  split
  · rename_i h; rw [h]; rfl
  · rename_i h
    cases e : ρ[i]? with
    | none => rfl
    | some s =>
      cases s with
      | im d => exact absurd e (h d)
      | _ => rfl
@[simp] theorem max2_i (i j : Int) : max2D [.int i, .int j] = some (.int (max i j)) := by
  have e : (if j > i then j else i) = max i j := by split <;> omega
  rw [max2D, e]
@[simp] theorem min2_i (i j : Int) : min2D [.int i, .int j] = some (.int (min i j)) := by
  have e : (if j < i then j else i) = min i j := by split <;> omega
  rw [min2D, e]
/-! sorted -/
section
variable {α : Type} [DecidableEq α] {n : Nat} {mk : α → D} {lt : α → α → Bool}
theorem srtOk_tup (h : Nice n mk) (hn : n ≤ 64) (o : Ordd mk lt) (ht : ∀ a, ∃ x xs, mk a = .tuple (x :: xs)) (xs : List α) : srtOk (xs.map mk) = true := by
  simp only [srtOk, Bool.and_eq_true, Bool.or_eq_true, List.all_eq_true, List.mem_map, forall_exists_index, and_imp, forall_apply_eq_imp_iff₂, decide_eq_true_eq]
  refine ⟨⟨fun a _ b _ => o.alike a b, .inl fun a _ => ?_⟩, fun a _ => Nat.le_trans (h.dep a) hn⟩
  obtain ⟨x, xs, e⟩ := ht a
  rw [e]
theorem srt_nice (o : Ordd mk lt) (xs : List α) : srt (xs.map mk) = (xs.mergeSort fun a b => !lt b a).map mk := by
  unfold srt
  rw [List.map_mergeSort]
  intro a _ b _
  show (!lt b a) = !PySem.W.dataLt (mk b) (mk a)
  rw [o.lt]
theorem sorted_tup (h : Nice n mk) (hn : n ≤ 64) (o : Ordd mk lt) (ht : ∀ a, ∃ x xs, mk a = .tuple (x :: xs)) (xs : List α) (d : D) (hd : d = .list (xs.map mk) ∨ d = .tuple (xs.map mk)) :
    sortedD [d] = some (.list ((xs.mergeSort fun a b => !lt b a).map mk)) := by
  have e : itemsD d = some (xs.map mk) := by rcases hd with rfl | rfl <;> rfl
  rw [sortedD, e, Option.bind_some, if_pos (srtOk_tup h hn o ht xs), srt_nice o]
end
@[simp] theorem bSet_e {j : Nat} {fi f : Rho → Option D} {ρ : Rho} : bSet j fi f ρ = (f ρ).bind fun d => (owL ρ[j]?).bind fun ds => (fi ρ).bind fun i => (intO i).bind fun o => match o with
  | some i => (ixN ds.length i).bind fun k => some (.nx (ρ.set j (.ow (.list (ds.set k d)))))
  | none => none := by
  unfold bSet
  congr 1
  funext d
  split
  · rename_i h
    rw [h]
    simp only [owL_ow, Option.bind_some]
    congr 1
    funext i
    cases i <;> rfl
  · rename_i h
    cases e : ρ[j]? with
    | none => rfl
    | some s =>
      cases s with
      | ow d =>
        cases d with
        | list ds => exact absurd e (h ds)
        | _ => rfl
      | _ => rfl
theorem ixN_n {n k : Nat} (h : k < n) : ixN n (k : Int) = some k := by
  unfold ixN
  rw [if_pos (by omega)]
  simp [h]
theorem ixN_i {n : Nat} {i : Int} (h0 : 0 ≤ i) (h : i < n) : ixN n i = some i.toNat := by
  have := ixN_n (n := n) (k := i.toNat) (by omega)
  rwa [Int.toNat_of_nonneg h0] at this
theorem rep_1 (d : D) (k : Nat) (h : k ≤ 100000) : repLD (.list [d]) (.int (k : Int)) = some (.list (List.replicate k d)) := by
  have hl := line_ge
  rw [repLD, if_pos (by simp only [List.length_singleton]; omega)]
  congr 2
  rw [Int.toNat_natCast]
  clear h
  induction k with
  | zero => rfl
  | succ k ih => rw [List.replicate_succ, List.flatten_cons, ih, List.replicate_succ]; rfl
theorem zipL_mk {α β : Type} {f : α → D} {g : β → D} (dx : α) (dy : β) : ∀ (xs : List α) (ys : List β), xs.length = ys.length → zipL (xs.map f) (ys.map g) = (List.range xs.length).map fun k => .tuple [f (xs.getD k dx), g (ys.getD k dy)]
  | [], [], _ => rfl
  | [], _ :: _, h => by simp at h
  | _ :: _, [], h => by simp at h
  | x :: xs, y :: ys, h => by
    rw [List.map_cons, List.map_cons, zipL, zipL_mk dx dy xs ys (by simpa using h), List.length_cons, List.range_succ_eq_map, List.map_cons, List.map_map]
    rfl
@[simp] theorem zip_ll {ds es : List D} : zipD [.list ds, .list es] = some (zipL ds es) := rfl
@[simp] theorem zip_tt {ds es : List D} : zipD [.tuple ds, .tuple es] = some (zipL ds es) := rfl
end Q
end

/-! part: Q19 -/
section
set_option Elab.async false
set_option linter.all false
set_option maxRecDepth 100000
set_option maxHeartbeats 4000000
set_option autoImplicit false
namespace Q
open PySem PySem.Spec PySem.Calls PyProof.Rows L2
/-! ### zip of two sequences, each a list or a tuple -/
/-- true: a list; false: a tuple -/
def SqB (K : PySem.W.Frag) (b : Bool) (H : Hp) (a : Addr) (xs : List V) : Prop := if b = true then SqL K H a xs else SqT K H a xs
def isS (b : Bool) (h : Heap) (a : Addr) (its : Array Value) : Prop := if b = true then h.IsList a its else h.IsTuple a its
def itS (b : Bool) (h : Heap) (it a : Addr) (i : Nat) : Prop := if b = true then h.IsListIter it a i else h.IsTupleIter it a i
def itO (b : Bool) (a : Addr) : Obj := if b = true then { cls := .type "list_iterator", data := .fields #[.ref a, .int 0 0] } else { cls := .type "tuple_iterator", data := .fields #[.ref a, .int 0 0] }
theorem itS_obj {b : Bool} {h : Heap} {it a : Addr} {i : Nat} (s : itS b h it a i) : ∃ o fs, h.get? it = some o ∧ o.data = .fields fs := by
  cases b with
  | true => obtain ⟨o, e, _, d⟩ := (show h.IsListIter it a i from s); exact ⟨o, _, e, d⟩
  | false => obtain ⟨o, e, _, d⟩ := (show h.IsTupleIter it a i from s); exact ⟨o, _, e, d⟩
theorem itS_at {b : Bool} {h h' : Heap} {it a : Addr} {i : Nat} (s : itS b h it a i) (k : ∀ o, h.get? it = some o → h'.get? it = some o) : itS b h' it a i := by
  cases b with
  | true => exact (show h.IsListIter it a i from s).at k
  | false => exact (show h.IsTupleIter it a i from s).at k
theorem itS_new {b : Bool} {h : Heap} {it a : Addr} (e : h.get? it = some (itO b a)) : itS b h it a 0 := by
  cases b with
  | true => exact ⟨_, e, rfl, rfl⟩
  | false => exact ⟨_, e, rfl, rfl⟩
theorem isS_lt {b : Bool} {h : Heap} {a : Addr} {its : Array Value} (s : isS b h a its) : a < h.objs.size := by
  cases b with
  | true => obtain ⟨o, e, _⟩ := (show h.IsList a its from s); exact Heap.lt_size e
  | false => obtain ⟨o, e, _⟩ := (show h.IsTuple a its from s); exact Heap.lt_size e
theorem isS_at {b : Bool} {h h' : Heap} {a : Addr} {its : Array Value} (s : isS b h a its) (k : ∀ o, h.get? a = some o → h'.get? a = some o) : isS b h' a its := by
  cases b with
  | true => exact (show h.IsList a its from s).at k
  | false => exact (show h.IsTuple a its from s).at k
theorem sqB_get {X : Cx} {pins : List (Addr × Obj)} {σ : L2.St} {H : Hp} {s : Shared} (I : Inv X pins σ H s) {b : Bool} {a : Addr} {xs : List V} (h : SqB X.K b H a xs) : ∃ its, Vals xs its ∧ isS b s.heap a its.toArray := by
  cases b with
  | true => obtain ⟨its, rv, p, _⟩ := I.list (show SqL X.K H a xs from h); exact ⟨its, rv, p.isList⟩
  | false => obtain ⟨its, rv, p, _⟩ := I.tuple (show SqT X.K H a xs from h); exact ⟨its, rv, show s.heap.IsTuple a its.toArray from p⟩
theorem sqB_inj {X : Cx} {pins : List (Addr × Obj)} {σ : L2.St} {H : Hp} {s : Shared} (I : Inv X pins σ H s) {b : Bool} {a : Addr} {xs ys : List V} (h : SqB X.K b H a xs) (h' : SqB X.K b H a ys) : xs = ys := by
  cases b with
  | true => exact I.list_inj (show SqL X.K H a xs from h) h'
  | false => exact I.tuple_inj (show SqT X.K H a xs from h) h'
section
variable {prog : Program} {w : World} {A : Around}
theorem draw_b (hh : A.handled = none) (b : Bool) (it a : Addr) (hne : a ≠ it) (its : Array Value) :
    Draws prog w A it [it, a] its.size (fun i v => its[i]? = some v) (fun i h => itS b h it a i ∧ isS b h a its) := by
  cases b with
  | true => exact Draws.list hh it a hne its
  | false => exact Draws.tuple hh it a hne its
/-- nothing more is drawn -/
theorem draw_end (hh : A.handled = none) (b : Bool) (it a : Addr) (its : Array Value) (n : Nat) (hn : its.size ≤ n) :
    Draws prog w A it [it, a] n (fun _ _ => False) (fun i h => i = n ∧ itS b h it a i ∧ isS b h a its) where
  live := fun i h st => let ⟨o, _, e, _⟩ := itS_obj st.2.1; ⟨o, e⟩
  frame := fun i h h' st k => ⟨st.1, itS_at st.2.1 fun o e => k it (by simp) o e, isS_at st.2.2 fun o e => k a (by simp) o e⟩
  item := fun i s Q E hi st _ => absurd st.1 (Nat.ne_of_lt hi)
  done := fun s Q E st hE => by
    have hx : its[n]? = none := Array.getElem?_eq_none hn
    cases b with
    | true => exact wpAny_nextOf_list_end hh st.2.1 st.2.2 hx hE
    | false => exact wpAny_nextOf_tuple_end hh st.2.1 st.2.2 hx hE
theorem begin_b (b : Bool) (a : Addr) (its : Array Value) : Begins (.ref a) (itO b a) (fun h => isS b h a its) := by
  cases b with
  | true => exact begins_list a its
  | false => exact begins_tuple a its
end
/-- what the two hold as they stand at each turn, in new pairs -/
def ItzM (K : PySem.W.Frag) (b c : Bool) (l m : Addr) : It where
  go := fun i H => ∃ (xs ys : List V) (x y : V), SqB K b H l xs ∧ SqB K c H m ys ∧ xs[i]? = some x ∧ ys[i]? = some y
  yld := fun i H v H' => ∃ T x y, v = .ref T ∧ H T = none ∧ H' = upd H T (.tup [x, y]) ∧ (∀ xs, SqB K b H l xs → xs[i]? = some x) ∧ ∀ ys, SqB K c H m ys → ys[i]? = some y
  stop := fun i H => ∃ xs ys : List V, SqB K b H l xs ∧ SqB K c H m ys ∧ (xs.length ≤ i ∨ ys.length ≤ i)
theorem turn_zipM {P : Program} {w : World} {K : PySem.W.Frag} {elts : List Expr} {kk : Nat} {tpos : Pos} {b c : Bool} {l m z TI TO i1 i2 : Addr} (Z : ZipSep2 z TI TO i1 i2 [i1, l] [i2, m]) (hl : l ≠ i1) (hm : m ≠ i2) :
    Turn P w K (.Tuple elts kk tpos) (ItzM K b c l m) [z, TI, TO, i1, i2] z (fun i h => IsZip h z TI TO .none ∧ IsTupOf2 h TI (.ref i1) (.ref i2) ∧ (∃ x y, IsTupOf2 h TO x y) ∧ itS b h i1 l i ∧ itS c h i2 m i) := by
  have z1 := Z.zi1
  have z2 := Z.zi2
  have t1 := Z.Ti1
  have t2 := Z.Ti2
  have l1 : l ≠ z := fun e => Z.zf1 (by simp [e])
  have m2 : m ≠ z := fun e => Z.zf2 (by simp [e])
  have five : ∀ q : Addr, q ∈ [z, TI, TO, i1, i2] → q = z ∨ q = TI ∨ q = TO ∨ q = i1 ∨ q = i2 := fun q hq => by simpa using hq
  refine ⟨by simp, fun i h st q hq => ?_, fun i h h' st k => ?_, ?_, ?_, fun A i s Q E st h => wpAny_pyIter_zip st.1 h⟩
  · obtain ⟨s1, s2, ⟨x, y, s3⟩, s4, s5⟩ := st
    obtain ⟨o4, f4, e4, d4⟩ := itS_obj s4
    obtain ⟨o5, f5, e5, d5⟩ := itS_obj s5
    rcases five q hq with r | r | r | r | r <;> subst r
    · exact ⟨_, s1, fun v e => nomatch e⟩
    · exact ⟨_, s2, fun v e => nomatch e⟩
    · exact ⟨_, s3, fun v e => nomatch e⟩
    · exact ⟨o4, e4, fun v e => nomatch d4.symm.trans e⟩
    · exact ⟨o5, e5, fun v e => nomatch d5.symm.trans e⟩
  · obtain ⟨s1, s2, ⟨x, y, s3⟩, s4, s5⟩ := st
    exact ⟨k z (by simp) _ s1, k TI (by simp) _ s2, ⟨x, y, k TO (by simp) _ s3⟩, itS_at s4 (k i1 (by simp)), itS_at s5 (k i2 (by simp))⟩
  · rintro X rfl rfl rfl calm i pins s σ H E I own st ⟨xs, ys, x, y, qx, qy, hx, hy⟩
    obtain ⟨s1, s2, ⟨x0, y0, s3⟩, s4, s5⟩ := st
    obtain ⟨us, ru, hu⟩ := sqB_get I qx
    obtain ⟨vs, rv, hv⟩ := sqB_get I qy
    obtain ⟨u, u1, u2⟩ := ru.get hx
    obtain ⟨v, v1, v2⟩ := rv.get hy
    have hd : X.A.in1.handled = none := I.ok.hd calm
    have lu : us.toArray.size = xs.length := by rw [ru.length]; simp
    have lv : vs.toArray.size = ys.length := by rw [rv.length]; simp
    have old : ∀ q, q ∈ [z, TI, TO, i1, i2] → q < s.heap.objs.size := fun q hq => by
      obtain ⟨o4, _, e4, _⟩ := itS_obj s4
      obtain ⟨o5, _, e5, _⟩ := itS_obj s5
      rcases five q hq with r | r | r | r | r <;> subst r
      · exact Heap.lt_size s1
      · exact Heap.lt_size s2
      · exact Heap.lt_size s3
      · exact Heap.lt_size e4
      · exact Heap.lt_size e5
    refine wpAny_pyNext_zipD2_item Z (draw_b hd b i1 l hl us.toArray) (draw_b hd c i2 m hm vs.toArray) s1 s2 s3 ⟨s4, hu⟩ ⟨s5, hv⟩ (by have := (List.getElem?_eq_some_iff.mp hx).1; omega) (by have := (List.getElem?_eq_some_iff.mp hy).1; omega) fun a1 a2 h' tk p1 p2 f1 f3 f4 f5 fT fsz fk => ?_
    have ea1 : a1 = u := by simpa [u1] using p1.symm
    have ea2 : a2 = v := by simpa [v1] using p2.symm
    subst ea1 ea2
    refine ⟨_, rfl, wpAny_letOwnedTupleGo_zip (s := { s with heap := h', toks := tk }) f1 fun h'' g1 sb => ?_⟩
    have pass : ∀ q o, q ≠ z → h'.get? q = some o → h''.get? q = some o := fun q o hq e => (sb.2 q hq).trans e
    have zlt := old z (by simp)
    have new : ObjOk X.prog X.w (upd H s.heap.objs.size (.tup [x, y])) h'' s.heap.objs.size (.tup [x, y]) :=
      ⟨by show 2 ≤ sizeLine; decide, [a1, a2], .cons u2 (.cons v2 .nil), ⟨_, pass _ _ (Nat.ne_of_gt zlt) fT, rfl, _, rfl⟩⟩
    have I1 : Inv X pins σ (upd H s.heap.objs.size (.tup [x, y])) { s with heap := h'', toks := tk } :=
      I.turnedNew (t' := tk) (ch := [z, TI, TO, i1, i2]) (fun q o hq e => by
        simp only [List.mem_cons, List.not_mem_nil, or_false, not_or] at hq
        exact pass q o hq.1 (fk q o hq.1 hq.2.2.1 hq.2.2.2.1 hq.2.2.2.2 e)) own (Nat.le_refl _) new
    refine ⟨.ref s.heap.objs.size, _, I1, rfl, ⟨_, x, y, rfl, I.hok.fresh (Nat.le_refl _), rfl, fun q hq => by rw [sqB_inj I hq qx]; exact hx, fun q hq => by rw [sqB_inj I hq qy]; exact hy⟩, ⟨g1, pass _ _ Z.TIz (fk _ _ Z.TIz Z.TITO Z.TIi1 Z.TIi2 s2), ⟨_, _, pass _ _ Z.TOz f3⟩, itS_at f4.1 fun o => pass _ o z1.symm, itS_at f5.1 fun o => pass _ o z2.symm⟩, fun q hq => ?_⟩
    rw [upd_ne (Nat.ne_of_lt (old q hq))]
    exact (own q hq).1
  · rintro X rfl rfl rfl calm i pins s σ H E I own st ⟨xs, ys, qx, qy, hend⟩
    obtain ⟨s1, s2, ⟨x0, y0, s3⟩, s4, s5⟩ := st
    obtain ⟨us, ru, hu⟩ := sqB_get I qx
    obtain ⟨vs, rv, hv⟩ := sqB_get I qy
    have hd : X.A.in1.handled = none := I.ok.hd calm
    have lu : us.toArray.size = xs.length := by rw [ru.length]; simp
    have lv : vs.toArray.size = ys.length := by rw [rv.length]; simp
    have fin : ∀ (h' : Heap) (tk : Nat), (∀ q o, q ≠ z → q ≠ TO → q ≠ i1 → q ≠ i2 → s.heap.get? q = some o → h'.get? q = some o) → (none : Option Value) = none ∧ Inv X pins σ H { s with heap := h', toks := tk } := fun h' tk fk =>
      ⟨rfl, I.turnedL (t' := tk) (ch := [z, TI, TO, i1, i2]) (fun q o hq e => by
        simp only [List.mem_cons, List.not_mem_nil, or_false, not_or] at hq
        exact fk q o hq.1 hq.2.2.1 hq.2.2.2.1 hq.2.2.2.2 e) own⟩
    by_cases c1 : xs.length ≤ i <;> by_cases c2 : ys.length ≤ i
    · exact wpAny_pyNext_zipD2_end Z (draw_end hd b i1 l us.toArray i (by omega)) (draw_end hd c i2 m vs.toArray i (by omega)) s1 s2 s3 ⟨rfl, s4, hu⟩ ⟨rfl, s5, hv⟩ (Nat.le_refl _) (Nat.le_refl _) (.inl rfl) fin
    · exact wpAny_pyNext_zipD2_end Z (draw_end hd b i1 l us.toArray i (by omega)) (draw_b hd c i2 m hm vs.toArray) s1 s2 s3 ⟨rfl, s4, hu⟩ ⟨s5, hv⟩ (Nat.le_refl _) (by omega) (.inl rfl) fin
    · exact wpAny_pyNext_zipD2_end Z (draw_b hd b i1 l hl us.toArray) (draw_end hd c i2 m vs.toArray i (by omega)) s1 s2 s3 ⟨s4, hu⟩ ⟨rfl, s5, hv⟩ (by omega) (Nat.le_refl _) (.inr rfl) fin
    · rcases hend with e | e
      · exact absurd e c1
      · exact absurd e c2
def iZipM (K : PySem.W.Frag) (ta : TA) : TI := fun σ H R => ta σ H fun vs H1 => ∃ b c l m xs ys, vs = [.ref l, .ref m] ∧ SqB K b H1 l xs ∧ SqB K c H1 m ys ∧ R (ItzM K b c l m) H1
theorem pi_zipM {X : Cx} {e e2 : Expr} {ta : TA} {p pos tpos : Pos} {elts : List Expr} {kk : Nat} (hg : Gl X "zip") (hm : X.mg "zip" = none) (ha : PA X [e, e2] ta)
    (hs : starEach [e, e2] X.env = (false, eval e X.env) :: starEach [e2] X.env := by rfl) (hpl : (backTo pos (starEach [e2] X.env)).any (·.1) = false := by rfl) :
    PI X (.Tuple elts kk tpos) (.Call (.Name "zip" p) [e, e2] [] pos) (iZipM X.K ta) := by
  constructor
  intro pins s σ H R I h
  refine Call_ (ld_blt I hg hm PyProof.Rows.boot_zip (PyProof.Rows.callWith_type1 (thn (ha.run pos pins s σ H _ I h) fun us s1 ⟨vs, H1, I1, r1, ⟨b, c, l, m, xs, ys, ex, qx, qy, q⟩⟩ => ?_) hs hpl))
  subst ex
  obtain ⟨u, us', rfl, ru, r2⟩ : ∃ u us', us = u :: us' ∧ RelV (V.ref l) u ∧ Vals [V.ref m] us' := by cases r1 with | cons r rr => exact ⟨_, _, rfl, r, rr⟩
  obtain ⟨v, rfl, rv⟩ := vals_one r2
  cases ru
  cases rv
  obtain ⟨is, w1, hu⟩ := sqB_get I1 qx
  obtain ⟨js, w2, hv⟩ := sqB_get I1 qy
  have ll := isS_lt hu
  have lm := isS_lt hv
  refine zip_begins2 (begin_b b l is.toArray) (begin_b c m js.toArray) hu hv fun h' hz hTI hTO g1 g2 hsz hk => wpAny_pyIter_zip hz ?_
  refine ⟨_, [s1.heap.objs.size + 4, s1.heap.objs.size + 2, s1.heap.objs.size + 3, s1.heap.objs.size, s1.heap.objs.size + 1], _, _, H1, rfl, I1.kept (t' := s1.toks) hk, turn_zipM (zip_sep2 (fun q hq => ?_) (fun q hq => ?_)) (Nat.ne_of_lt ll) (Nat.ne_of_lt (Nat.lt_succ_of_lt lm)), ⟨hz, hTI, ⟨_, _, hTO⟩, itS_new g1, itS_new g2⟩, fun q hq => ?_, q⟩
  · rw [List.mem_singleton.mp hq]; exact ll
  · rw [List.mem_singleton.mp hq]; exact lm
  · have up : s1.heap.objs.size ≤ q := by
      simp only [List.mem_cons, List.not_mem_nil, or_false] at hq
      rcases hq with r | r | r | r | r <;> rw [r]
      · exact Nat.le_add_right _ _
      · exact Nat.le_add_right _ _
      · exact Nat.le_add_right _ _
      · exact Nat.le_refl _
      · exact Nat.le_add_right _ _
    exact I1.fpOk up (I1.hok.fresh up)
theorem itzM_ok {K : PySem.W.Frag} {F : Hp} {b c : Bool} {l m : Addr} {xs ys : List V} {ds es : List D} {st : Hp → Prop} (hs : ∀ H, Same F H → st H → SqB K b H l xs) (hs2 : ∀ H, Same F H → st H → SqB K c H m ys) (r : RepA K F xs ds) (r2 : RepA K F ys es) : ItO true K (ItzM K b c l m) F st (zipL ds es) := by
  refine ⟨fun i F' H' hi e1 e2 e3 => ?_, fun i d F' H' v H3 hd e1 e2 e3 yy => ?_, fun i F' H' hi e1 e2 e3 => ?_⟩
  · obtain ⟨d, e, h1, h2, _⟩ := zipL_at (List.getElem?_eq_getElem hi)
    obtain ⟨x, h3, _⟩ := r.get h1
    obtain ⟨y, h4, _⟩ := r2.get h2
    exact ⟨xs, ys, x, y, hs H' (e1.trans e2) e3, hs2 H' (e1.trans e2) e3, h3, h4⟩
  · obtain ⟨T, x, y, rfl, hT, rfl, y1, y2⟩ := yy
    obtain ⟨dx, dy, h1, h2, rfl⟩ := zipL_at hd
    obtain ⟨x', h3, h5⟩ := r.get h1
    obtain ⟨y', h4, h6⟩ := r2.get h2
    have q1 := y1 xs (hs H' (e1.trans e2) e3)
    have q2 := y2 ys (hs2 H' (e1.trans e2) e3)
    cases h3.symm.trans q1
    cases h4.symm.trans q2
    exact pair_ok e2 hT (h5.mono e1) (h6.mono e1)
  · rw [zipL_length] at hi
    exact ⟨xs, ys, hs H' (e1.trans e2) e3, hs2 H' (e1.trans e2) e3, by rw [r.length, r2.length]; omega⟩
/-- zip(d, e) of a list or a tuple each -/
def zipMD : List D → Option (List D)
  | [d, e] => (itemsD d).bind fun ds => (itemsD e).bind fun es => some (zipL ds es)
  | _ => none
theorem rep_sqB {K : PySem.W.Frag} {F H : Hp} {v : V} {d : D} {ds : List D} (r : Rep K F v d) (hd : itemsD d = some ds) (fh : Same F H) : ∃ b a xs, v = .ref a ∧ (∀ H', Same F H' → SqB K b H' a xs) ∧ RepA K F xs ds := by
  cases d with
  | list es =>
    cases hd
    cases r with
    | lst hs hr => exact ⟨true, _, _, rfl, fun H' s => s.seq hs, hr⟩
  | tuple es =>
    cases hd
    cases r with
    | tup hs hr => exact ⟨false, _, _, rfl, fun H' s => (hs.mono s).sq, hr⟩
  | _ => cases hd
theorem sem_zipM {K : PySem.W.Frag} {ta : TA} {fs : Rho → Option (List D)} (h : SemA K .fz ta fs) : SemI true K .fz (iZipM K ta) (fIs zipMD fs) := by
  intro B F H σ ρ ds R rel hf q
  obtain ⟨as, h1, h2⟩ := bind_some hf
  refine h B F H σ ρ as _ rel h1 fun vs F1 H1 x1 r1 => ?_
  match as, h2, r1 with
  | [d, e], h2, r1 =>
    obtain ⟨v, w, rfl, rv, rw'⟩ := resA2 r1
    obtain ⟨ds1, k1, h3⟩ := bind_some (show (itemsD d).bind (fun ds => (itemsD e).bind fun es => some (zipL ds es)) = some ds from h2)
    obtain ⟨es1, k2, h4⟩ := bind_some h3
    cases h4
    obtain ⟨b, l, xs, rfl, a1, a2⟩ := rep_sqB rv k1 x1.s
    obtain ⟨c, m, ys, rfl, c1, c2⟩ := rep_sqB rw' k2 x1.s
    exact ⟨b, c, l, m, xs, ys, rfl, a1 _ x1.s, c1 _ x1.s, q _ F1 H1 x1 (itzM_ok (fun H s _ => a1 H s) (fun H s _ => c1 H s) a2 c2)⟩
theorem di_zipMK (K' : PySem.W.Frag) {X : Cx} {ta : TA} {fs : Rho → Option (List D)} {p pos : Pos} {a b : Expr} {elts : List Expr} {kk : Nat} {tpos : Pos} (hg : Gl X "zip") (hm : X.mg "zip" = none) (ha : DA X .fz [a, b] ta fs) (hs : starEach [a, b] X.env = (false, eval a X.env) :: starEach [b] X.env := by rfl) (hpl : (backTo pos (starEach [b] X.env)).any (·.1) = false := by rfl) (hK : X.K = K' := by rfl) :
    DI true X .fz (.Tuple elts kk tpos) (.Call (.Name "zip" p) [a, b] [] pos) (iZipM K' ta) (fIs zipMD fs) := by
  subst hK
  exact ⟨pi_zipM hg hm ha.p hs hpl, sem_zipM ha.s⟩
@[simp] theorem zipMD_e {d e : D} : zipMD [d, e] = (itemsD d).bind fun ds => (itemsD e).bind fun es => some (zipL ds es) := rfl
end Q
end

/-! part: Q20 -/
section
set_option Elab.async false
set_option linter.all false
set_option maxRecDepth 100000
set_option maxHeartbeats 4000000
set_option autoImplicit false
namespace Q
open PySem PySem.Spec PySem.Calls PyProof.Rows L2
theorem tame_mk {α : Type} {mk : α → D} {n : Nat} (h : ∀ a, tame n (mk a) = true) (xs : List α) (hl : xs.length ≤ 1000) : tame (n + 1) (.tuple (xs.map mk)) = true := by
  simp [tame, hl, h]
theorem tame_two {a b : D} {n : Nat} (h1 : tame n a = true) (h2 : tame n b = true) : tame (n + 1) (.tuple [a, b]) = true := by
  simp [tame, h1, h2]
theorem tame_int (n : Nat) (i : Int) : tame (n + 1) (.int i) = true := rfl
theorem tame_ints (n : Nat) (xs : List Int) (hl : xs.length ≤ 1000) : tame (n + 2) (.tuple (xs.map .int)) = true := tame_mk (fun i => tame_int n i) xs hl
theorem lstd_mk {α : Type} {mk mk' : α → D} {n : Nat} (h : ∀ a, lstd n (mk a) = mk' a) (xs : List α) : lstd (n + 1) (.tuple (xs.map mk)) = .list (xs.map mk') := by
  rw [lstd, List.map_map]
  congr 2
  funext a
  exact h a
theorem lstd_ints (n : Nat) (xs : List Int) : lstd (n + 2) (.tuple (xs.map .int)) = .list (xs.map .int) := lstd_mk (fun _ => rfl) xs
/-- a whole number from 0 on -/
theorem nat_of {i : Int} (h : 0 ≤ i) : ∃ k : Nat, i = k := ⟨i.toNat, by omega⟩
theorem mod_nat (i : Int) {m : Int} (h : 0 < m) : ∃ k : Nat, i % m = k ∧ (k : Int) < m := by
  have h1 := Int.emod_nonneg i (Int.ne_of_gt h)
  have h2 := Int.emod_lt_of_pos i h
  exact ⟨(i % m).toNat, by omega, by omega⟩
/-- a loop that may go on, break or return: what is done so far -/
theorem forL_gen {α : Type} {step : D → Bd} {mk : α → D} {all : List α} (inv : List α → Rho → Prop) (fin : Rho → Prop) (R : D → Prop) : ∀ (xs pre : List α) (ρ : Rho), all = pre ++ xs → inv pre ρ →
    (∀ (pre post : List α) (ρ : Rho) (x : α), inv pre ρ → all = pre ++ x :: post → (∃ ρ', (step (mk x) ρ = some (.nx ρ') ∨ step (mk x) ρ = some (.ct ρ')) ∧ inv (pre ++ [x]) ρ') ∨ (∃ ρ', step (mk x) ρ = some (.bk ρ') ∧ fin ρ') ∨ ∃ d, step (mk x) ρ = some (.rt d) ∧ R d) →
    (∃ ρ', forL step (xs.map mk) ρ = some (.nx ρ') ∧ (inv all ρ' ∨ fin ρ')) ∨ ∃ d, forL step (xs.map mk) ρ = some (.rt d) ∧ R d
  | [], pre, ρ, e, h0, h => .inl ⟨ρ, rfl, .inl (by rw [e, List.append_nil]; exact h0)⟩
  | x :: xs, pre, ρ, e, h0, h => by
    rcases h pre xs ρ x h0 e with ⟨ρ1, h1, h2⟩ | ⟨ρ1, h1, h2⟩ | ⟨d, h1, h2⟩
    · have q := forL_gen inv fin R xs (pre ++ [x]) ρ1 (by rw [e]; simp) h2 h
      rw [List.map_cons]
      unfold forL
      rcases h1 with h1 | h1 <;> rw [h1] <;> exact q
    · refine .inl ⟨ρ1, ?_, .inr h2⟩
      rw [List.map_cons]
      unfold forL
      rw [h1]
      rfl
    · refine .inr ⟨d, ?_, h2⟩
      rw [List.map_cons]
      unfold forL
      rw [h1]
      rfl
theorem forL_any {α : Type} {step : D → Bd} {mk : α → D} {xs : List α} (inv : List α → Rho → Prop) (fin : Rho → Prop) (R : D → Prop) (ρ : Rho) (h0 : inv [] ρ)
    (h : ∀ (pre post : List α) (ρ : Rho) (x : α), inv pre ρ → xs = pre ++ x :: post → (∃ ρ', (step (mk x) ρ = some (.nx ρ') ∨ step (mk x) ρ = some (.ct ρ')) ∧ inv (pre ++ [x]) ρ') ∨ (∃ ρ', step (mk x) ρ = some (.bk ρ') ∧ fin ρ') ∨ ∃ d, step (mk x) ρ = some (.rt d) ∧ R d) :
    (∃ ρ', forL step (xs.map mk) ρ = some (.nx ρ') ∧ (inv xs ρ' ∨ fin ρ')) ∨ ∃ d, forL step (xs.map mk) ρ = some (.rt d) ∧ R d := forL_gen inv fin R xs [] ρ rfl h0 h
/-! Euclid -/
theorem euclid_step {a b k P : Nat} (hb : 0 < b) (h : a * b * 2 ^ k ≤ 2 * P) (hab : b ≤ a ∨ k = 0 ∧ a * b ≤ P) : b * (a % b) * 2 ^ (k + 1) ≤ 2 * P ∧ a % b ≤ b ∧ Nat.gcd b (a % b) = Nat.gcd a b := by
  have hr : a % b < b := Nat.mod_lt _ hb
  refine ⟨?_, Nat.le_of_lt hr, by rw [Nat.gcd_comm b, ← Nat.gcd_rec, Nat.gcd_comm]⟩
  rcases hab with hab | ⟨rfl, hab⟩
  · have h1 : a % b * 2 ≤ a := by
      have h2 := Nat.div_add_mod a b
      have h3 : 1 ≤ a / b := (Nat.le_div_iff_mul_le hb).mpr (by omega)
      have h4 : b * 1 ≤ b * (a / b) := Nat.mul_le_mul_left b h3
      omega
    calc b * (a % b) * 2 ^ (k + 1) = b * (a % b * 2) * 2 ^ k := by rw [Nat.pow_succ, Nat.mul_assoc, Nat.mul_assoc, Nat.mul_assoc]; congr 2; rw [Nat.mul_comm (2 ^ k)]
      _ ≤ b * a * 2 ^ k := Nat.mul_le_mul_right _ (Nat.mul_le_mul_left _ h1)
      _ ≤ 2 * P := by rw [Nat.mul_comm b a]; exact h
  · by_cases c : b ≤ a
    · have h1 : a % b * 2 ≤ a := by
        have h2 := Nat.div_add_mod a b
        have h3 : 1 ≤ a / b := (Nat.le_div_iff_mul_le hb).mpr (by omega)
        have h4 : b * 1 ≤ b * (a / b) := Nat.mul_le_mul_left b h3
        omega
      have h2 : b * (a % b * 2) ≤ b * a := Nat.mul_le_mul_left _ h1
      rw [Nat.mul_comm b a, ← Nat.mul_assoc] at h2
      simp only [Nat.zero_add, Nat.pow_one]
      omega
    · rw [Nat.mod_eq_of_lt (by omega), Nat.mul_comm b a]
      simp only [Nat.zero_add, Nat.pow_one]
      omega
def isT : Option D → Bool
  | some (.bool true) => true
  | _ => false
theorem isT_eq {x : Option D} (h : isT x = true) : x = some (.bool true) := by
  unfold isT at h
  split at h
  · rfl
  · cases h
/-! one sign in a text -/
def rSgn (k : Bool → Bool) : R2 := fun x y H Q => ∃ (c : Nat) (z : Str), x = .str ⟨#[c]⟩ ∧ y = .str z ∧ Q (.bl (k (decide (c ∈ z.cps.toList)))) H
def sgnD (k : Bool → Bool) : D → D → Option D
  | .str x, .str z => (match x.cps.toList with
    | [c] => some (.bool (k (decide (c ∈ z.cps.toList))))
    | _ => none)
  | _, _ => none
theorem op_sgn {X : Cx} : OpR X (compareOp .In) (rSgn id) := op_in_sign
theorem op_notSgn {X : Cx} : OpR X (compareOp .NotIn) (rSgn not) := op_notIn_sign
theorem ops_sgn {K : PySem.W.Frag} {k : Bool → Bool} : OpS K .fz (rSgn k) (sgnD k) := by
  intro F H Ha Hb x y d e z Q fh r1 r2 hz q
  match d, e, hz, r1, r2 with
  | .str u, .str w, hz, r1, r2 =>
    have hz' : (match u.cps.toList with
      | [c] => some (PyData.bool (k (decide (c ∈ w.cps.toList))))
      | _ => none) = some z := hz
    split at hz'
    · rename_i c hc
      cases hz'
      have e : u = ⟨#[c]⟩ := by
        obtain ⟨a⟩ := u
        have : a = #[c] := Array.toList_inj.mp hc
        rw [this]
      subst e
      exact ⟨c, w, r1.str, r2.str, q _ F H (.refl fh) (Rep.bl _)⟩
    · cases hz'
end Q
end

/-! part: Q21 -/
section
set_option Elab.async false
set_option linter.all false
set_option maxRecDepth 100000
set_option maxHeartbeats 4000000
set_option autoImplicit false
namespace Q
open PySem PySem.Spec PySem.Calls PyProof.Rows L2
@[simp] theorem fBP_e {m : Md} {Φ : List D → Option D} {fs : Rho → Option (List D)} {ρ : Rho} : fBP m Φ fs ρ = (fs ρ).bind fun ds => (Φ ds).bind fun r => if okR m r = true then some r else none := rfl
theorem nmA_mk {α : Type} {mk : α → D} (h : ∀ a, nm (mk a) = true) : ∀ xs : List α, nmA (xs.map mk) = true
  | [] => by simp [nmA]
  | x :: xs => by rw [List.map_cons, nmA, h x, nmA_mk h xs]; rfl
theorem okR_fr {α : Type} {mk : α → D} (h : ∀ a, nm (mk a) = true) (xs : List α) : okR .fr (.list (xs.map mk)) = true := nmA_mk h xs
theorem filter_nil {α : Type} (p : α → Bool) (xs : List α) : decide (xs.filter (fun x => !p x) = []) = xs.all p := by
  rw [Bool.eq_iff_iff]
  simp
/-! math.lcm, math.isqrt -/
def rLcm : List V → Hp → VK → Prop := fun vs H Q => ∃ a b : Int, vs = [.int a, .int b] ∧ (a.natAbs < 2 ^ 64 ∧ b.natAbs < 2 ^ 64) ∧ Q (.int ((Nat.lcm a.natAbs b.natAbs : Nat) : Int)) H
theorem cr_lcm {X : Cx} : CallR X (.builtin "math.lcm") rLcm := by
  intro pins s σ H vs us Q I r h
  obtain ⟨a, b, rfl, ⟨ha, hb⟩, q⟩ := h
  obtain ⟨t, u, rfl⟩ := Vals.int2 r
  exact PySem.W.mc_lcm ha hb fun _ => ⟨.int _, H, I.tok _, ⟨_, rfl⟩, q⟩
def lcmD : List D → Option D
  | [.int a, .int b] => if a.natAbs < 2 ^ 64 ∧ b.natAbs < 2 ^ 64 then some (.int ((Nat.lcm a.natAbs b.natAbs : Nat) : Int)) else none
  | _ => none
theorem cs_lcm {K : PySem.W.Frag} : CallS K .fz rLcm lcmD := by
  intro F H Ha vs ds z Q fh r hz q
  match ds, r, hz with
  | [.int a, .int b], r, hz =>
    obtain ⟨h1, h2⟩ := if_some (show (if a.natAbs < 2 ^ 64 ∧ b.natAbs < 2 ^ 64 then some (PyData.int ((Nat.lcm a.natAbs b.natAbs : Nat) : Int)) else none) = some z from hz)
    subst h2
    obtain ⟨v, w, rfl, r1, r2⟩ := resA2 r
    rw [r1.int, r2.int]
    exact ⟨a, b, rfl, h1, q _ F H (.refl fh) (Rep.int _)⟩
/-! list(range(i, j)) -/
def lr2D : D → D → Option D
  | .int i, .int j => if (-100000 ≤ i ∧ i ≤ 100000) ∧ -100000 ≤ j ∧ j ≤ 100000 then some (.list (rgD i (j - i).toNat)) else none
  | _, _ => none
theorem de_lr2 {X : Cx} {m1 m2 : Md} {a b : Expr} {ta tb : TE} {f g : Rho → Option D} {p p2 q pos : Pos} (hg : Gl X "list") (hm : X.mg "list" = none) (hg2 : Gl X "range") (hm2 : X.mg "range" = none) (ha : DE X m1 a ta f) (hb : DE X m2 b tb g) (hc : X.calm = true := by rfl)
    (na : starEach [.Call (.Name "range" p2) [a, b] [] q] X.env = (false, eval (.Call (.Name "range" p2) [a, b] [] q) X.env) :: starEach [] X.env := by rfl)
    (na2 : starEach [a, b] X.env = (false, eval a X.env) :: starEach [b] X.env := by rfl) (nb : starEach [b] X.env = (false, eval b X.env) :: starEach [] X.env := by rfl) (hp : (backTo q (starEach [b] X.env)).any (·.1) = false := by rfl) :
    DE X .fr (.Call (.Name "list" p) [.Call (.Name "range" p2) [a, b] [] q] [] pos) (tLstRg (tRg2 ta tb)) (f2 lr2D f g) := ⟨pe_listRg hc hg hm (prg_2 hg2 hm2 ha.p hb.p na2 nb hp) na, fun B F H σ ρ z Q r hf q => by
  obtain ⟨d, h1, h2⟩ := bind_some hf
  obtain ⟨e, h3, h4⟩ := bind_some h2
  refine ha.s B F H σ ρ d _ r h1 fun v F1 H1 x1 r1 => ?_
  refine hb.s B F1 H1 σ ρ e _ (r.ext x1) h3 fun w F2 H2 x2 r2 => ?_
  match d, e, h4, r1, r2 with
  | .int i, .int j, h4, r1, r2 =>
    obtain ⟨hn, rfl⟩ := if_some (show (if (-100000 ≤ i ∧ i ≤ 100000) ∧ -100000 ≤ j ∧ j ≤ 100000 then some (PyData.list (rgD i (j - i).toNat)) else none) = some z from h4)
    refine ⟨i, j, r1.int, r2.int, ⟨by omega, by omega, by omega, by omega, by omega⟩, ?_⟩
    exact newL_res (x1.trans x2) (repA_rg i j) q⟩
end Q
end

/-! part: HeadK25 -/
section
set_option Elab.async false
set_option linter.all false
set_option maxRecDepth 100000
set_option maxHeartbeats 0
namespace Hd
open PySem PySem.Spec PyProof.Rows L2
def top (i : Nat) : Stmt := PySem.Challenge.pw_playground_k25_swings_together_or_never.main.body.getD i (.Pass ⟨0, 0, 0, 0⟩)
abbrev s_need : Stmt := top 6
abbrev s_is_int : Stmt := top 7
abbrev s_is_seq : Stmt := top 8
abbrev s_is_within : Stmt := top 9
abbrev s_need_within : Stmt := top 10
abbrev s_need_int : Stmt := top 11
abbrev s_is_told : Stmt := top 12
abbrev s_to_row : Stmt := top 13
abbrev s_to_pair : Stmt := top 14
abbrev s_to_ints : Stmt := top 15
abbrev s_to_swing : Stmt := top 17
abbrev s_to_swings : Stmt := top 18
abbrev s_need_time : Stmt := top 19
abbrev s_is_front : Stmt := top 20
abbrev s_front : Stmt := top 21
abbrev s_fronts : Stmt := top 22
abbrev s_together : Stmt := top 23
abbrev s_again : Stmt := top 24
abbrev s_ladder : Stmt := top 25
abbrev s_ladder_holds : Stmt := top 26
abbrev s_denies_pair : Stmt := top 27
abbrev s_denial : Stmt := top 28
abbrev s_denial_holds : Stmt := top 29
abbrev s_pairs : Stmt := top 30
abbrev s_count_fronts : Stmt := top 31
abbrev s_clear : Stmt := top 32
abbrev s_how_many : Stmt := top 33
abbrev s_most : Stmt := top 34
abbrev s__law_cell : Stmt := top 36
abbrev s__law_numbers : Stmt := top 37
abbrev s__law_listed : Stmt := top 38
abbrev s__law_same : Stmt := top 39
abbrev s__law_gcd : Stmt := top 40
abbrev s__law_swings : Stmt := top 41
abbrev s__law_lcm : Stmt := top 42
abbrev s__law_ladder : Stmt := top 43
abbrev s_law : Stmt := top 44
def d_need : He.DefD := ⟨("need", none), "need", "need", defArgs s_need, defBody s_need, defScope s_need, [], []⟩
def d_is_int : He.DefD := ⟨("is_int", none), "is_int", "is_int", defArgs s_is_int, defBody s_is_int, defScope s_is_int, [], []⟩
def d_is_seq : He.DefD := ⟨("is_seq", none), "is_seq", "is_seq", defArgs s_is_seq, defBody s_is_seq, defScope s_is_seq, [], []⟩
def d_is_within : He.DefD := ⟨("is_within", none), "is_within", "is_within", defArgs s_is_within, defBody s_is_within, defScope s_is_within, [], []⟩
def d_need_within : He.DefD := ⟨("need_within", none), "need_within", "need_within", defArgs s_need_within, defBody s_need_within, defScope s_need_within, [], []⟩
def d_need_int : He.DefD := ⟨("need_int", none), "need_int", "need_int", defArgs s_need_int, defBody s_need_int, defScope s_need_int, [], []⟩
def d_is_told : He.DefD := ⟨("is_told", none), "is_told", "is_told", defArgs s_is_told, defBody s_is_told, defScope s_is_told, [], []⟩
def d_to_row : He.DefD := ⟨("to_row", none), "to_row", "to_row", defArgs s_to_row, defBody s_to_row, defScope s_to_row, [], []⟩
def d_to_pair : He.DefD := ⟨("to_pair", none), "to_pair", "to_pair", defArgs s_to_pair, defBody s_to_pair, defScope s_to_pair, [], []⟩
def d_to_ints : He.DefD := ⟨("to_ints", none), "to_ints", "to_ints", defArgs s_to_ints, defBody s_to_ints, defScope s_to_ints, [], []⟩
def d_to_swing : He.DefD := ⟨("to_swing", none), "to_swing", "to_swing", defArgs s_to_swing, defBody s_to_swing, defScope s_to_swing, [], []⟩
def d_to_swings : He.DefD := ⟨("to_swings", none), "to_swings", "to_swings", defArgs s_to_swings, defBody s_to_swings, defScope s_to_swings, [], []⟩
def d_need_time : He.DefD := ⟨("need_time", none), "need_time", "need_time", defArgs s_need_time, defBody s_need_time, defScope s_need_time, [], []⟩
def d_is_front : He.DefD := ⟨("is_front", none), "is_front", "is_front", defArgs s_is_front, defBody s_is_front, defScope s_is_front, [], []⟩
def d_front : He.DefD := ⟨("front", none), "front", "front", defArgs s_front, defBody s_front, defScope s_front, [], []⟩
def d_fronts : He.DefD := ⟨("fronts", none), "fronts", "fronts", defArgs s_fronts, defBody s_fronts, defScope s_fronts, [], []⟩
def d_together : He.DefD := ⟨("together", none), "together", "together", defArgs s_together, defBody s_together, defScope s_together, [], []⟩
def d_again : He.DefD := ⟨("again", none), "again", "again", defArgs s_again, defBody s_again, defScope s_again, [], []⟩
def d_ladder : He.DefD := ⟨("ladder", none), "ladder", "ladder", defArgs s_ladder, defBody s_ladder, defScope s_ladder, [], []⟩
def d_ladder_holds : He.DefD := ⟨("ladder_holds", none), "ladder_holds", "ladder_holds", defArgs s_ladder_holds, defBody s_ladder_holds, defScope s_ladder_holds, [], []⟩
def d_denies_pair : He.DefD := ⟨("denies_pair", none), "denies_pair", "denies_pair", defArgs s_denies_pair, defBody s_denies_pair, defScope s_denies_pair, [], []⟩
def d_denial : He.DefD := ⟨("denial", none), "denial", "denial", defArgs s_denial, defBody s_denial, defScope s_denial, [], []⟩
def d_denial_holds : He.DefD := ⟨("denial_holds", none), "denial_holds", "denial_holds", defArgs s_denial_holds, defBody s_denial_holds, defScope s_denial_holds, [], []⟩
def d_pairs : He.DefD := ⟨("pairs", none), "pairs", "pairs", defArgs s_pairs, defBody s_pairs, defScope s_pairs, [], []⟩
def d_count_fronts : He.DefD := ⟨("count_fronts", none), "count_fronts", "count_fronts", defArgs s_count_fronts, defBody s_count_fronts, defScope s_count_fronts, [], []⟩
def d_clear : He.DefD := ⟨("clear", none), "clear", "clear", defArgs s_clear, defBody s_clear, defScope s_clear, [], []⟩
def d_how_many : He.DefD := ⟨("how_many", none), "how_many", "how_many", defArgs s_how_many, defBody s_how_many, defScope s_how_many, [], []⟩
def d_most : He.DefD := ⟨("most", none), "most", "most", defArgs s_most, defBody s_most, defScope s_most, [], []⟩
def d__law_cell : He.DefD := ⟨("_law_cell", none), "_law_cell", "_law_cell", defArgs s__law_cell, defBody s__law_cell, defScope s__law_cell, [], []⟩
def d__law_numbers : He.DefD := ⟨("_law_numbers", none), "_law_numbers", "_law_numbers", defArgs s__law_numbers, defBody s__law_numbers, defScope s__law_numbers, [], []⟩
def d__law_listed : He.DefD := ⟨("_law_listed", none), "_law_listed", "_law_listed", defArgs s__law_listed, defBody s__law_listed, defScope s__law_listed, [], []⟩
def d__law_same : He.DefD := ⟨("_law_same", none), "_law_same", "_law_same", defArgs s__law_same, defBody s__law_same, defScope s__law_same, [], []⟩
def d__law_gcd : He.DefD := ⟨("_law_gcd", none), "_law_gcd", "_law_gcd", defArgs s__law_gcd, defBody s__law_gcd, defScope s__law_gcd, [], []⟩
def d__law_swings : He.DefD := ⟨("_law_swings", none), "_law_swings", "_law_swings", defArgs s__law_swings, defBody s__law_swings, defScope s__law_swings, [], []⟩
def d__law_lcm : He.DefD := ⟨("_law_lcm", none), "_law_lcm", "_law_lcm", defArgs s__law_lcm, defBody s__law_lcm, defScope s__law_lcm, [], []⟩
def d__law_ladder : He.DefD := ⟨("_law_ladder", none), "_law_ladder", "_law_ladder", defArgs s__law_ladder, defBody s__law_ladder, defScope s__law_ladder, [], []⟩
def d_law : He.DefD := ⟨("law", none), "law", "law", defArgs s_law, defBody s_law, defScope s_law, [], []⟩
def fn_0 : List He.DefD := [d_need, d_is_int, d_is_seq, d_is_within, d_need_within, d_need_int, d_is_told, d_to_row, d_to_pair, d_to_ints, d_to_swing, d_to_swings, d_need_time, d_is_front, d_front, d_fronts, d_together, d_again, d_ladder, d_ladder_holds]
def fn_1 : List He.DefD := [d_denies_pair, d_denial, d_denial_holds, d_pairs, d_count_fronts, d_clear, d_how_many, d_most, d__law_cell, d__law_numbers, d__law_listed, d__law_same, d__law_gcd, d__law_swings, d__law_lcm, d__law_ladder, d_law]
def fn : List He.DefD := fn_0 ++ fn_1
def fa_0 : List He.Fa := [.glo "need", .glo "is_int", .glo "is_seq", .glo "is_within", .glo "need_within", .glo "need_int", .glo "is_told", .glo "to_row", .glo "to_pair", .glo "to_ints", .glo "to_swing", .glo "to_swings", .glo "need_time", .glo "is_front", .glo "front", .glo "fronts", .glo "together", .glo "again", .glo "ladder", .glo "ladder_holds"]
def fa_1 : List He.Fa := [.glo "denies_pair", .glo "denial", .glo "denial_holds", .glo "pairs", .glo "count_fronts", .glo "clear", .glo "how_many", .glo "most", .glo "_law_cell", .glo "_law_numbers", .glo "_law_listed", .glo "_law_same", .glo "_law_gcd", .glo "_law_swings", .glo "_law_lcm", .glo "_law_ladder", .glo "law", .free "Exception", .free "isinstance", .free "bool"]
def fa_2 : List He.Fa := [.free "int", .free "str", .free "enumerate", .free "tuple", .free "any", .free "len", .free "range", .free "list", .free "max", .free "all"]
def fa : List He.Fa := fa_0 ++ fa_1 ++ fa_2
abbrev R : PySem.W.OpenRow := PySem.W.OpenLaw.row PySem.Challenge.rw_playground_k25_swings_together_or_never
def ck : List Q.Ck := [.fun_ "gcd" "math.gcd", .fun_ "lcm" "math.lcm"]
abbrev hk : PySem.W.Hook := Q.hookQ 7 fa fn ck
def ob (s : PySem.W.SharedT) : He.AlD × Bool := Q.obsQ 7 fa fn ck (HandSHeadRun.getT s)
theorem ob_eq (s : PySem.W.SharedT) : ob s = hk.obs s.abs := Q.obsQ_eq (HandSHeadRun.getT_eq s)
def loose_0 : List PySem.Str := ["gcd", "lcm", "PlayError", "BadValue", "TooMany", "need", "is_int", "is_seq", "is_within", "need_within", "need_int", "is_told", "to_row", "to_pair", "to_ints", "to_swing", "to_swings", "need_time", "is_front", "front"]
def loose_1 : List PySem.Str := ["fronts", "together", "again", "ladder", "ladder_holds", "denies_pair", "denial", "denial_holds", "pairs", "count_fronts", "clear", "how_many", "most", "_law_cell", "_law_numbers", "_law_listed", "_law_same", "_law_gcd", "_law_swings", "_law_lcm"]
def loose_2 : List PySem.Str := ["_law_ladder"]
def loose : List PySem.Str := loose_0 ++ loose_1 ++ loose_2
theorem run (w : World) : HandSHeadRun.RunEqI R (PySem.W.view R.prog [0, 44]) hk ob 6000 loose w := by
  unfold HandSHeadRun.RunEqI
  kernel_rfl
end Hd
end

/-! part: DenK25 -/
section
set_option Elab.async false
set_option linter.all false
set_option maxRecDepth 100000
set_option maxHeartbeats 0
namespace Hd
open PySem PySem.Spec PySem.Calls PyProof.Rows L2 Q
/-- what the head tells -/
structure Fx (K : PySem.W.Frag) (mg : Str → Option Value) : Prop where
  f__law_swings : ∃ fd, FunD K "_law_swings" "_law_swings" (defArgs s__law_swings) (defBody s__law_swings) (defScope s__law_swings) [] [] (He.ga K "_law_swings") fd
  f__law_gcd : ∃ fd, FunD K "_law_gcd" "_law_gcd" (defArgs s__law_gcd) (defBody s__law_gcd) (defScope s__law_gcd) [] [] (He.ga K "_law_gcd") fd
  f__law_lcm : ∃ fd, FunD K "_law_lcm" "_law_lcm" (defArgs s__law_lcm) (defBody s__law_lcm) (defScope s__law_lcm) [] [] (He.ga K "_law_lcm") fd
  f__law_ladder : ∃ fd, FunD K "_law_ladder" "_law_ladder" (defArgs s__law_ladder) (defBody s__law_ladder) (defScope s__law_ladder) [] [] (He.ga K "_law_ladder") fd
  f__law_same : ∃ fd, FunD K "_law_same" "_law_same" (defArgs s__law_same) (defBody s__law_same) (defScope s__law_same) [] [] (He.ga K "_law_same") fd
  f__law_cell : ∃ fd, FunD K "_law_cell" "_law_cell" (defArgs s__law_cell) (defBody s__law_cell) (defScope s__law_cell) [] [] (He.ga K "_law_cell") fd
  f__law_numbers : ∃ fd, FunD K "_law_numbers" "_law_numbers" (defArgs s__law_numbers) (defBody s__law_numbers) (defScope s__law_numbers) [] [] (He.ga K "_law_numbers") fd
  f_need : ∃ fd, FunD K "need" "need" (defArgs s_need) (defBody s_need) (defScope s_need) [] [] (He.ga K "need") fd
  f_is_seq : ∃ fd, FunD K "is_seq" "is_seq" (defArgs s_is_seq) (defBody s_is_seq) (defScope s_is_seq) [] [] (He.ga K "is_seq") fd
  f_to_row : ∃ fd, FunD K "to_row" "to_row" (defArgs s_to_row) (defBody s_to_row) (defScope s_to_row) [] [] (He.ga K "to_row") fd
  f_to_pair : ∃ fd, FunD K "to_pair" "to_pair" (defArgs s_to_pair) (defBody s_to_pair) (defScope s_to_pair) [] [] (He.ga K "to_pair") fd
  f_is_int : ∃ fd, FunD K "is_int" "is_int" (defArgs s_is_int) (defBody s_is_int) (defScope s_is_int) [] [] (He.ga K "is_int") fd
  f_is_within : ∃ fd, FunD K "is_within" "is_within" (defArgs s_is_within) (defBody s_is_within) (defScope s_is_within) [] [] (He.ga K "is_within") fd
  f_to_swing : ∃ fd, FunD K "to_swing" "to_swing" (defArgs s_to_swing) (defBody s_to_swing) (defScope s_to_swing) [] [] (He.ga K "to_swing") fd
  f_to_swings : ∃ fd, FunD K "to_swings" "to_swings" (defArgs s_to_swings) (defBody s_to_swings) (defScope s_to_swings) [] [] (He.ga K "to_swings") fd
  f_again : ∃ fd, FunD K "again" "again" (defArgs s_again) (defBody s_again) (defScope s_again) [] [] (He.ga K "again") fd
  f_is_front : ∃ fd, FunD K "is_front" "is_front" (defArgs s_is_front) (defBody s_is_front) (defScope s_is_front) [] [] (He.ga K "is_front") fd
  f_count_fronts : ∃ fd, FunD K "count_fronts" "count_fronts" (defArgs s_count_fronts) (defBody s_count_fronts) (defScope s_count_fronts) [] [] (He.ga K "count_fronts") fd
  f_most : ∃ fd, FunD K "most" "most" (defArgs s_most) (defBody s_most) (defScope s_most) [] [] (He.ga K "most") fd
  f_ladder : ∃ fd, FunD K "ladder" "ladder" (defArgs s_ladder) (defBody s_ladder) (defScope s_ladder) [] [] (He.ga K "ladder") fd
  f_is_told : ∃ fd, FunD K "is_told" "is_told" (defArgs s_is_told) (defBody s_is_told) (defScope s_is_told) [] [] (He.ga K "is_told") fd
  f_ladder_holds : ∃ fd, FunD K "ladder_holds" "ladder_holds" (defArgs s_ladder_holds) (defBody s_ladder_holds) (defScope s_ladder_holds) [] [] (He.ga K "ladder_holds") fd
  f_need_int : ∃ fd, FunD K "need_int" "need_int" (defArgs s_need_int) (defBody s_need_int) (defScope s_need_int) [] [] (He.ga K "need_int") fd
  f_need_within : ∃ fd, FunD K "need_within" "need_within" (defArgs s_need_within) (defBody s_need_within) (defScope s_need_within) [] [] (He.ga K "need_within") fd
  f_need_time : ∃ fd, FunD K "need_time" "need_time" (defArgs s_need_time) (defBody s_need_time) (defScope s_need_time) [] [] (He.ga K "need_time") fd
  f_how_many : ∃ fd, FunD K "how_many" "how_many" (defArgs s_how_many) (defBody s_how_many) (defScope s_how_many) [] [] (He.ga K "how_many") fd
  f_together : ∃ fd, FunD K "together" "together" (defArgs s_together) (defBody s_together) (defScope s_together) [] [] (He.ga K "together") fd
  f_denies_pair : ∃ fd, FunD K "denies_pair" "denies_pair" (defArgs s_denies_pair) (defBody s_denies_pair) (defScope s_denies_pair) [] [] (He.ga K "denies_pair") fd
  f_denial : ∃ fd, FunD K "denial" "denial" (defArgs s_denial) (defBody s_denial) (defScope s_denial) [] [] (He.ga K "denial") fd
  f_pairs : ∃ fd, FunD K "pairs" "pairs" (defArgs s_pairs) (defBody s_pairs) (defScope s_pairs) [] [] (He.ga K "pairs") fd
  f_clear : ∃ fd, FunD K "clear" "clear" (defArgs s_clear) (defBody s_clear) (defScope s_clear) [] [] (He.ga K "clear") fd
  f__law_listed : ∃ fd, FunD K "_law_listed" "_law_listed" (defArgs s__law_listed) (defBody s__law_listed) (defScope s__law_listed) [] [] (He.ga K "_law_listed") fd
  f_fronts : ∃ fd, FunD K "fronts" "fronts" (defArgs s_fronts) (defBody s_fronts) (defScope s_fronts) [] [] (He.ga K "fronts") fd
  f_front : ∃ fd, FunD K "front" "front" (defArgs s_front) (defBody s_front) (defScope s_front) [] [] (He.ga K "front") fd
  f_to_ints : ∃ fd, FunD K "to_ints" "to_ints" (defArgs s_to_ints) (defBody s_to_ints) (defScope s_to_ints) [] [] (He.ga K "to_ints") fd
  f_denial_holds : ∃ fd, FunD K "denial_holds" "denial_holds" (defArgs s_denial_holds) (defBody s_denial_holds) (defScope s_denial_holds) [] [] (He.ga K "denial_holds") fd
  f_law : ∃ fd, FunD K "law" "law" (defArgs s_law) (defBody s_law) (defScope s_law) [] [] (He.ga K "law") fd
  g__law_swings : mg "_law_swings" = some (.ref (He.ga K "_law_swings"))
  g__law_gcd : mg "_law_gcd" = some (.ref (He.ga K "_law_gcd"))
  g__law_lcm : mg "_law_lcm" = some (.ref (He.ga K "_law_lcm"))
  g__law_ladder : mg "_law_ladder" = some (.ref (He.ga K "_law_ladder"))
  g__law_same : mg "_law_same" = some (.ref (He.ga K "_law_same"))
  g__law_cell : mg "_law_cell" = some (.ref (He.ga K "_law_cell"))
  g__law_numbers : mg "_law_numbers" = some (.ref (He.ga K "_law_numbers"))
  g_need : mg "need" = some (.ref (He.ga K "need"))
  g_is_seq : mg "is_seq" = some (.ref (He.ga K "is_seq"))
  g_to_row : mg "to_row" = some (.ref (He.ga K "to_row"))
  g_to_pair : mg "to_pair" = some (.ref (He.ga K "to_pair"))
  g_is_int : mg "is_int" = some (.ref (He.ga K "is_int"))
  g_is_within : mg "is_within" = some (.ref (He.ga K "is_within"))
  g_to_swing : mg "to_swing" = some (.ref (He.ga K "to_swing"))
  g_to_swings : mg "to_swings" = some (.ref (He.ga K "to_swings"))
  g_again : mg "again" = some (.ref (He.ga K "again"))
  g_is_front : mg "is_front" = some (.ref (He.ga K "is_front"))
  g_count_fronts : mg "count_fronts" = some (.ref (He.ga K "count_fronts"))
  g_most : mg "most" = some (.ref (He.ga K "most"))
  g_ladder : mg "ladder" = some (.ref (He.ga K "ladder"))
  g_is_told : mg "is_told" = some (.ref (He.ga K "is_told"))
  g_ladder_holds : mg "ladder_holds" = some (.ref (He.ga K "ladder_holds"))
  g_need_int : mg "need_int" = some (.ref (He.ga K "need_int"))
  g_need_within : mg "need_within" = some (.ref (He.ga K "need_within"))
  g_need_time : mg "need_time" = some (.ref (He.ga K "need_time"))
  g_how_many : mg "how_many" = some (.ref (He.ga K "how_many"))
  g_together : mg "together" = some (.ref (He.ga K "together"))
  g_denies_pair : mg "denies_pair" = some (.ref (He.ga K "denies_pair"))
  g_denial : mg "denial" = some (.ref (He.ga K "denial"))
  g_pairs : mg "pairs" = some (.ref (He.ga K "pairs"))
  g_clear : mg "clear" = some (.ref (He.ga K "clear"))
  g__law_listed : mg "_law_listed" = some (.ref (He.ga K "_law_listed"))
  g_fronts : mg "fronts" = some (.ref (He.ga K "fronts"))
  g_front : mg "front" = some (.ref (He.ga K "front"))
  g_to_ints : mg "to_ints" = some (.ref (He.ga K "to_ints"))
  g_denial_holds : mg "denial_holds" = some (.ref (He.ga K "denial_holds"))
  g_law : mg "law" = some (.ref (He.ga K "law"))
  n_Exception : mg "Exception" = none
  n_isinstance : mg "isinstance" = none
  n_bool : mg "bool" = none
  n_int : mg "int" = none
  n_str : mg "str" = none
  n_enumerate : mg "enumerate" = none
  n_tuple : mg "tuple" = none
  n_any : mg "any" = none
  n_len : mg "len" = none
  n_range : mg "range" = none
  n_list : mg "list" = none
  n_max : mg "max" = none
  n_all : mg "all" = none
  k_gcd : mg "gcd" = some (.builtin "math.gcd")
  k_lcm : mg "lcm" = some (.builtin "math.lcm")
theorem fx_ok {K : PySem.W.Frag} {h : Heap} {mg : Str → Option Value} (X : K.In h) (G : h.Ns mainGlobals mg) (c : He.SaysD fa fn K) (c2 : (ck.all fun c => c.ok K) = true) : Fx K mg where
  f__law_swings := c.def_ 33 (d := d__law_swings) rfl
  f__law_gcd := c.def_ 32 (d := d__law_gcd) rfl
  f__law_lcm := c.def_ 34 (d := d__law_lcm) rfl
  f__law_ladder := c.def_ 35 (d := d__law_ladder) rfl
  f__law_same := c.def_ 31 (d := d__law_same) rfl
  f__law_cell := c.def_ 28 (d := d__law_cell) rfl
  f__law_numbers := c.def_ 29 (d := d__law_numbers) rfl
  f_need := c.def_ 0 (d := d_need) rfl
  f_is_seq := c.def_ 2 (d := d_is_seq) rfl
  f_to_row := c.def_ 7 (d := d_to_row) rfl
  f_to_pair := c.def_ 8 (d := d_to_pair) rfl
  f_is_int := c.def_ 1 (d := d_is_int) rfl
  f_is_within := c.def_ 3 (d := d_is_within) rfl
  f_to_swing := c.def_ 10 (d := d_to_swing) rfl
  f_to_swings := c.def_ 11 (d := d_to_swings) rfl
  f_again := c.def_ 17 (d := d_again) rfl
  f_is_front := c.def_ 13 (d := d_is_front) rfl
  f_count_fronts := c.def_ 24 (d := d_count_fronts) rfl
  f_most := c.def_ 27 (d := d_most) rfl
  f_ladder := c.def_ 18 (d := d_ladder) rfl
  f_is_told := c.def_ 6 (d := d_is_told) rfl
  f_ladder_holds := c.def_ 19 (d := d_ladder_holds) rfl
  f_need_int := c.def_ 5 (d := d_need_int) rfl
  f_need_within := c.def_ 4 (d := d_need_within) rfl
  f_need_time := c.def_ 12 (d := d_need_time) rfl
  f_how_many := c.def_ 26 (d := d_how_many) rfl
  f_together := c.def_ 16 (d := d_together) rfl
  f_denies_pair := c.def_ 20 (d := d_denies_pair) rfl
  f_denial := c.def_ 21 (d := d_denial) rfl
  f_pairs := c.def_ 23 (d := d_pairs) rfl
  f_clear := c.def_ 25 (d := d_clear) rfl
  f__law_listed := c.def_ 30 (d := d__law_listed) rfl
  f_fronts := c.def_ 15 (d := d_fronts) rfl
  f_front := c.def_ 14 (d := d_front) rfl
  f_to_ints := c.def_ 9 (d := d_to_ints) rfl
  f_denial_holds := c.def_ 22 (d := d_denial_holds) rfl
  f_law := c.def_ 36 (d := d_law) rfl
  g__law_swings := He.glo_ok X G (c.fact 33 (f := .glo "_law_swings") rfl)
  g__law_gcd := He.glo_ok X G (c.fact 32 (f := .glo "_law_gcd") rfl)
  g__law_lcm := He.glo_ok X G (c.fact 34 (f := .glo "_law_lcm") rfl)
  g__law_ladder := He.glo_ok X G (c.fact 35 (f := .glo "_law_ladder") rfl)
  g__law_same := He.glo_ok X G (c.fact 31 (f := .glo "_law_same") rfl)
  g__law_cell := He.glo_ok X G (c.fact 28 (f := .glo "_law_cell") rfl)
  g__law_numbers := He.glo_ok X G (c.fact 29 (f := .glo "_law_numbers") rfl)
  g_need := He.glo_ok X G (c.fact 0 (f := .glo "need") rfl)
  g_is_seq := He.glo_ok X G (c.fact 2 (f := .glo "is_seq") rfl)
  g_to_row := He.glo_ok X G (c.fact 7 (f := .glo "to_row") rfl)
  g_to_pair := He.glo_ok X G (c.fact 8 (f := .glo "to_pair") rfl)
  g_is_int := He.glo_ok X G (c.fact 1 (f := .glo "is_int") rfl)
  g_is_within := He.glo_ok X G (c.fact 3 (f := .glo "is_within") rfl)
  g_to_swing := He.glo_ok X G (c.fact 10 (f := .glo "to_swing") rfl)
  g_to_swings := He.glo_ok X G (c.fact 11 (f := .glo "to_swings") rfl)
  g_again := He.glo_ok X G (c.fact 17 (f := .glo "again") rfl)
  g_is_front := He.glo_ok X G (c.fact 13 (f := .glo "is_front") rfl)
  g_count_fronts := He.glo_ok X G (c.fact 24 (f := .glo "count_fronts") rfl)
  g_most := He.glo_ok X G (c.fact 27 (f := .glo "most") rfl)
  g_ladder := He.glo_ok X G (c.fact 18 (f := .glo "ladder") rfl)
  g_is_told := He.glo_ok X G (c.fact 6 (f := .glo "is_told") rfl)
  g_ladder_holds := He.glo_ok X G (c.fact 19 (f := .glo "ladder_holds") rfl)
  g_need_int := He.glo_ok X G (c.fact 5 (f := .glo "need_int") rfl)
  g_need_within := He.glo_ok X G (c.fact 4 (f := .glo "need_within") rfl)
  g_need_time := He.glo_ok X G (c.fact 12 (f := .glo "need_time") rfl)
  g_how_many := He.glo_ok X G (c.fact 26 (f := .glo "how_many") rfl)
  g_together := He.glo_ok X G (c.fact 16 (f := .glo "together") rfl)
  g_denies_pair := He.glo_ok X G (c.fact 20 (f := .glo "denies_pair") rfl)
  g_denial := He.glo_ok X G (c.fact 21 (f := .glo "denial") rfl)
  g_pairs := He.glo_ok X G (c.fact 23 (f := .glo "pairs") rfl)
  g_clear := He.glo_ok X G (c.fact 25 (f := .glo "clear") rfl)
  g__law_listed := He.glo_ok X G (c.fact 30 (f := .glo "_law_listed") rfl)
  g_fronts := He.glo_ok X G (c.fact 15 (f := .glo "fronts") rfl)
  g_front := He.glo_ok X G (c.fact 14 (f := .glo "front") rfl)
  g_to_ints := He.glo_ok X G (c.fact 9 (f := .glo "to_ints") rfl)
  g_denial_holds := He.glo_ok X G (c.fact 22 (f := .glo "denial_holds") rfl)
  g_law := He.glo_ok X G (c.fact 36 (f := .glo "law") rfl)
  n_Exception := He.free_ok X G (c.fact 37 (f := .free "Exception") rfl)
  n_isinstance := He.free_ok X G (c.fact 38 (f := .free "isinstance") rfl)
  n_bool := He.free_ok X G (c.fact 39 (f := .free "bool") rfl)
  n_int := He.free_ok X G (c.fact 40 (f := .free "int") rfl)
  n_str := He.free_ok X G (c.fact 41 (f := .free "str") rfl)
  n_enumerate := He.free_ok X G (c.fact 42 (f := .free "enumerate") rfl)
  n_tuple := He.free_ok X G (c.fact 43 (f := .free "tuple") rfl)
  n_any := He.free_ok X G (c.fact 44 (f := .free "any") rfl)
  n_len := He.free_ok X G (c.fact 45 (f := .free "len") rfl)
  n_range := He.free_ok X G (c.fact 46 (f := .free "range") rfl)
  n_list := He.free_ok X G (c.fact 47 (f := .free "list") rfl)
  n_max := He.free_ok X G (c.fact 48 (f := .free "max") rfl)
  n_all := He.free_ok X G (c.fact 49 (f := .free "all") rfl)
  k_gcd := ck_fun X G (ck_at c2 0 rfl)
  k_lcm := ck_fun X G (ck_at c2 1 rfl)
section
variable {P : Program} {w : World} {K : PySem.W.Frag} {mg : Str → Option Value} {base : Heap}
abbrev N__law_swings : List Str := ["numbers", "great", "found", "n", "period"]
theorem sc__law_swings : FnScope N__law_swings ["numbers", "great"] (defScope s__law_swings) := ⟨rfl, rfl, rfl, by decide +kernel, rfl, by decide +kernel, by decide +kernel⟩
def L__law_swings_1 : Bd := bSeq (bAsg 4 (f2 addD (cD (.int 1)) (f2 modD (vF 3) (fIf (fTr (vF 1)) (cD (.int 60)) (cD (.int 12)))))) (bApp 2 (fTup (aCons (vF 4) (aCons (f2 modD (fB intD (aCons (f2 fdivD (vF 3) (cD (.int 60))) (aNil))) (vF 4)) (aNil)))))
theorem bi__law_swings : ∀ (kV doc pm : Value) (an : Option Addr) (cdv ct : Value) (us : List Value), us.length = (["numbers", "great"] : List Str).length → bindArgs (PySem.W.fnOf "_law_swings" "_law_swings" (defArgs s__law_swings) (defBody s__law_swings) (defScope s__law_swings) .none kV doc pm an cdv ct) ⟨us, []⟩ = pure ((["numbers", "great"] : List Str).zip us) :=
  fun _ _ _ _ _ _ us hl => match us, hl with | [_, _], _ => rfl
def b__law_swings : Bd := bSeq (bOwn 2 (fLst (aNil))) (bSeq (bFor (fI (vF 0)) (sN 3) (L__law_swings_1)) (bRet (fB tupD (aCons (vP 2) (aNil)))))
def Ph__law_swings : List D → Option D := fnB (N__law_swings).length (["numbers", "great"] : List Str).length b__law_swings
theorem dd__law_swings (Z : Fx K mg) (cdv : Value) (A : Around) (outer : List Env) (s : Shared) (H : Hp) (E : XK) (hr : Room (0) (A.deeper (envOfC "_law_swings" (defScope s__law_swings) s.heap.objs.size (He.ga K "_law_swings") cdv))) :
    ∃ W t, DSs (cxOf CX0 P w K mg base N__law_swings "_law_swings" (defScope s__law_swings) (He.ga K "_law_swings") cdv A outer s H E).nox .fz W (defBody s__law_swings) t (b__law_swings) := ⟨_, _,
  dss_cons (ds_own (i := 2) (de_lst (da_nil)) sc__law_swings.nd) (dss_cons (ds_for (di_anyK K (de_v 0)) (dg_n sc__law_swings.nd (i := 3)) (dss_cons (ds_asg (i := 4) (de_op (op_addAK K) ops_addA (de_int) (de_op op_modN ops_mod (de_v 3) (de_if (dt_truK K (de_v 1)) (de_int) (de_int)))) sc__law_swings.nd) (dss_one (ds_app (j := 2) (de_tup (da_cons (de_v 4) (da_cons (de_op op_modN ops_mod (de_ct call_int1 cs_int rfl Z.n_int bt_int (da_cons (de_op op_fdivN ops_fdiv (de_v 3) (de_int)) (da_nil))) (de_v 4)) (da_nil)))))))) (dss_one (ds_ret (de_ct (cr_tupK K) cs_tup rfl Z.n_tuple bt_tuple (da_cons (de_p 2) (da_nil))))))⟩
theorem ok__law_swings (Z : Fx K mg) : Ok P w K mg base 1 "_law_swings" ["numbers", "great"] .fz Ph__law_swings := by
  obtain ⟨fd, F⟩ := Z.f__law_swings
  exact ok_fz (P := P) (w := w) (mg := mg) (base := base) (b := b__law_swings) (k := 0) (N := N__law_swings) F sc__law_swings bi__law_swings Z.g__law_swings (dd__law_swings Z)
abbrev N__law_gcd : List Str := ["one", "other", "k"]
theorem sc__law_gcd : FnScope N__law_gcd ["one", "other"] (defScope s__law_gcd) := ⟨rfl, rfl, rfl, by decide +kernel, rfl, by decide +kernel, by decide +kernel⟩
def L__law_gcd_1 : Bd := bSeq (bIf (fT (f2 eqD (vF 1) (cD (.int 0)))) (bRet (vF 0)) (bNext)) (bPar 0 1 (aCons (vF 1) (aCons (f2 modD (fB intD (aCons (vF 0) (aNil))) (vF 1)) (aNil))))
theorem bi__law_gcd : ∀ (kV doc pm : Value) (an : Option Addr) (cdv ct : Value) (us : List Value), us.length = (["one", "other"] : List Str).length → bindArgs (PySem.W.fnOf "_law_gcd" "_law_gcd" (defArgs s__law_gcd) (defBody s__law_gcd) (defScope s__law_gcd) .none kV doc pm an cdv ct) ⟨us, []⟩ = pure ((["one", "other"] : List Str).zip us) :=
  fun _ _ _ _ _ _ us hl => match us, hl with | [_, _], _ => rfl
def b__law_gcd : Bd := bSeq (bFor (fIs rg1D (aCons (cD (.int 400)) (aNil))) (sN 2) (L__law_gcd_1)) (bRet (vF 0))
def Ph__law_gcd : List D → Option D := fnB (N__law_gcd).length (["one", "other"] : List Str).length b__law_gcd
theorem dd__law_gcd (Z : Fx K mg) (cdv : Value) (A : Around) (outer : List Env) (s : Shared) (H : Hp) (E : XK) (hr : Room (0) (A.deeper (envOfC "_law_gcd" (defScope s__law_gcd) s.heap.objs.size (He.ga K "_law_gcd") cdv))) :
    ∃ W t, DSs (cxOf CX0 P w K mg base N__law_gcd "_law_gcd" (defScope s__law_gcd) (He.ga K "_law_gcd") cdv A outer s H E).nox .fz W (defBody s__law_gcd) t (b__law_gcd) := ⟨_, _,
  dss_cons (ds_for (di_rg1 rfl Z.n_range (da_cons (de_int) (da_nil))) (dg_n sc__law_gcd.nd (i := 2)) (dss_cons (ds_if (dt_cmp (op_eqDK K hr.u64) ops_eq rfl (de_v 1) (de_int)) (dss_one (ds_ret (de_v 0))) (dss_nil)) (dss_one (ds_par (i := 0) (j := 1) (da_cons (de_v 1) (da_cons (de_op op_modN ops_mod (de_ct call_int1 cs_int rfl Z.n_int bt_int (da_cons (de_v 0) (da_nil))) (de_v 1)) (da_nil))) sc__law_gcd.nd)))) (dss_one (ds_ret (de_v 0)))⟩
theorem ok__law_gcd (Z : Fx K mg) : Ok P w K mg base 1 "_law_gcd" ["one", "other"] .fz Ph__law_gcd := by
  obtain ⟨fd, F⟩ := Z.f__law_gcd
  exact ok_fz (P := P) (w := w) (mg := mg) (base := base) (b := b__law_gcd) (k := 0) (N := N__law_gcd) F sc__law_gcd bi__law_gcd Z.g__law_gcd (dd__law_gcd Z)
abbrev N__law_lcm : List Str := ["one", "other"]
theorem sc__law_lcm : FnScope N__law_lcm ["one", "other"] (defScope s__law_lcm) := ⟨rfl, rfl, rfl, by decide +kernel, rfl, by decide +kernel, by decide +kernel⟩
theorem bi__law_lcm : ∀ (kV doc pm : Value) (an : Option Addr) (cdv ct : Value) (us : List Value), us.length = (["one", "other"] : List Str).length → bindArgs (PySem.W.fnOf "_law_lcm" "_law_lcm" (defArgs s__law_lcm) (defBody s__law_lcm) (defScope s__law_lcm) .none kV doc pm an cdv ct) ⟨us, []⟩ = pure ((["one", "other"] : List Str).zip us) :=
  fun _ _ _ _ _ _ us hl => match us, hl with | [_, _], _ => rfl
def b__law_lcm : Bd := bRet (fB intD (aCons (f2 fdivD (f2 mulD (vF 0) (vF 1)) (fB (Ph__law_gcd) (aCons (vF 0) (aCons (vF 1) (aNil))))) (aNil)))
def Ph__law_lcm : List D → Option D := fnB (N__law_lcm).length (["one", "other"] : List Str).length b__law_lcm
theorem dd__law_lcm (Z : Fx K mg) (cdv : Value) (A : Around) (outer : List Env) (s : Shared) (H : Hp) (E : XK) (hr : Room (1) (A.deeper (envOfC "_law_lcm" (defScope s__law_lcm) s.heap.objs.size (He.ga K "_law_lcm") cdv))) :
    ∃ W t, DSs (cxOf CX0 P w K mg base N__law_lcm "_law_lcm" (defScope s__law_lcm) (He.ga K "_law_lcm") cdv A outer s H E).nox .fz W (defBody s__law_lcm) t (b__law_lcm) := ⟨_, _,
  dss_one (ds_ret (de_ct call_int1 cs_int rfl Z.n_int bt_int (da_cons (de_op op_fdivN ops_fdiv (de_op op_mul ops_mul (de_v 0) (de_v 1)) (de_fnK K (ok__law_gcd Z) hr (by omega) rfl (da_cons (de_v 0) (da_cons (de_v 1) (da_nil))))) (da_nil))))⟩
theorem ok__law_lcm (Z : Fx K mg) : Ok P w K mg base 2 "_law_lcm" ["one", "other"] .fz Ph__law_lcm := by
  obtain ⟨fd, F⟩ := Z.f__law_lcm
  exact ok_fz (P := P) (w := w) (mg := mg) (base := base) (b := b__law_lcm) (k := 1) (N := N__law_lcm) F sc__law_lcm bi__law_lcm Z.g__law_lcm (dd__law_lcm Z)
abbrev N__law_ladder : List Str := ["swings", "time", "step", "rows", "period", "phase", "fits", "k"]
theorem sc__law_ladder : FnScope N__law_ladder ["swings"] (defScope s__law_ladder) := ⟨rfl, rfl, rfl, by decide +kernel, rfl, by decide +kernel, by decide +kernel⟩
def L__law_ladder_1 : Bd := bSeq (bAsg 6 (fLc (fIs rg1D (aCons (vF 4) (aNil))) (sN 7) (fT (f2 eqD (f2 modD (f2 addD (vF 1) (f2 mulD (vF 2) (vF 7))) (vF 4)) (vF 5))) (f2 addD (vF 1) (f2 mulD (vF 2) (vF 7))) [7])) (bSeq (bIf (fT (f2 eqD (vF 6) (fLst (aNil)))) (bRet (cD .none)) (bNext)) (bSeq (bAsg 1 (f2 ixD (vF 6) (cD (.int 0)))) (bSeq (bAsg 2 (fB (Ph__law_lcm) (aCons (vF 2) (aCons (vF 4) (aNil))))) (bApp 3 (fTup (aCons (vF 1) (aCons (vF 2) (aNil))))))))
theorem bi__law_ladder : ∀ (kV doc pm : Value) (an : Option Addr) (cdv ct : Value) (us : List Value), us.length = (["swings"] : List Str).length → bindArgs (PySem.W.fnOf "_law_ladder" "_law_ladder" (defArgs s__law_ladder) (defBody s__law_ladder) (defScope s__law_ladder) .none kV doc pm an cdv ct) ⟨us, []⟩ = pure ((["swings"] : List Str).zip us) :=
  fun _ _ _ _ _ _ us hl => match us, hl with | [_], _ => rfl
def b__law_ladder : Bd := bSeq (bAsg 1 (f2 ixD (f2 ixD (vF 0) (cD (.int 0))) (cD (.int 1)))) (bSeq (bAsg 2 (f2 ixD (f2 ixD (vF 0) (cD (.int 0))) (cD (.int 0)))) (bSeq (bOwn 3 (fLst (aCons (fTup (aCons (vF 1) (aCons (vF 2) (aNil)))) (aNil)))) (bSeq (bFor (fI (fSl (vF 0) (oIs (cD (.int 1))) (oNo))) (sT 2 (sCons (sN 4) (sCons (sN 5) (sNil)))) (L__law_ladder_1)) (bRet (fB tupD (aCons (vP 3) (aNil)))))))
def Ph__law_ladder : List D → Option D := fnB (N__law_ladder).length (["swings"] : List Str).length b__law_ladder
theorem dd__law_ladder (Z : Fx K mg) (cdv : Value) (A : Around) (outer : List Env) (s : Shared) (H : Hp) (E : XK) (hr : Room (2) (A.deeper (envOfC "_law_ladder" (defScope s__law_ladder) s.heap.objs.size (He.ga K "_law_ladder") cdv))) :
    ∃ W t, DSs (cxOf CX0 P w K mg base N__law_ladder "_law_ladder" (defScope s__law_ladder) (He.ga K "_law_ladder") cdv A outer s H E).nox .fz W (defBody s__law_ladder) t (b__law_ladder) := ⟨_, _,
  dss_cons (ds_asg (i := 1) (de_ixK K (de_ixK K (de_v 0) (de_int)) (de_int)) sc__law_ladder.nd) (dss_cons (ds_asg (i := 2) (de_ixK K (de_ixK K (de_v 0) (de_int)) (de_int)) sc__law_ladder.nd) (dss_cons (ds_own (i := 3) (de_lst (da_cons (de_tup (da_cons (de_v 1) (da_cons (de_v 2) (da_nil)))) (da_nil))) sc__law_ladder.nd) (dss_cons (ds_for (di_anyK K (de_slK K (de_v 0) (do_is (de_int)) (do_no))) (dg_tK K (n := 2) (dgs_cons (dg_n sc__law_ladder.nd (i := 4)) (dgs_cons (dg_n sc__law_ladder.nd (i := 5)) (dgs_nil)))) (dss_cons (ds_asgLc (i := 6) [("k", 7)] sc__law_ladder.nd (di_rg1 rfl Z.n_range (da_cons (de_v 4) (da_nil))) (blk_of (N := N__law_ladder) (sc := defScope s__law_ladder) (by decide +kernel)) (fun _ _ _ _ _ => dg_n sc__law_ladder.nd (i := 7)) (fun _ _ _ _ _ => dts_one (dt_cmp (op_eqDK K hr.u64) ops_eq rfl (de_op op_modN ops_mod (de_op (op_addAK K) ops_addA (de_v 1) (de_op op_mul ops_mul (de_v 2) (de_v 7))) (de_v 4)) (de_v 5))) (fun _ _ _ _ _ => de_op (op_addAK K) ops_addA (de_v 1) (de_op op_mul ops_mul (de_v 2) (de_v 7))) (by decide) (sw_true rfl rfl rfl (by decide +kernel))) (dss_cons (ds_if (dt_cmp (op_eqDK K hr.u64) ops_eq rfl (de_v 6) (de_lst (da_nil))) (dss_one (ds_ret (de_non))) (dss_nil)) (dss_cons (ds_asg (i := 1) (de_ixK K (de_v 6) (de_int)) sc__law_ladder.nd) (dss_cons (ds_asg (i := 2) (de_fnK K (ok__law_lcm Z) hr (by omega) rfl (da_cons (de_v 2) (da_cons (de_v 4) (da_nil)))) sc__law_ladder.nd) (dss_one (ds_app (j := 3) (de_tup (da_cons (de_v 1) (da_cons (de_v 2) (da_nil))))))))))) (dss_one (ds_ret (de_ct (cr_tupK K) cs_tup rfl Z.n_tuple bt_tuple (da_cons (de_p 3) (da_nil))))))))⟩
theorem ok__law_ladder (Z : Fx K mg) : Ok P w K mg base 3 "_law_ladder" ["swings"] .fz Ph__law_ladder := by
  obtain ⟨fd, F⟩ := Z.f__law_ladder
  exact ok_fz (P := P) (w := w) (mg := mg) (base := base) (b := b__law_ladder) (k := 2) (N := N__law_ladder) F sc__law_ladder bi__law_ladder Z.g__law_ladder (dd__law_ladder Z)
abbrev N__law_same : List Str := ["one", "other", "k"]
theorem sc__law_same : FnScope N__law_same ["one", "other"] (defScope s__law_same) := ⟨rfl, rfl, rfl, by decide +kernel, rfl, by decide +kernel, by decide +kernel⟩
theorem bi__law_same : ∀ (kV doc pm : Value) (an : Option Addr) (cdv ct : Value) (us : List Value), us.length = (["one", "other"] : List Str).length → bindArgs (PySem.W.fnOf "_law_same" "_law_same" (defArgs s__law_same) (defBody s__law_same) (defScope s__law_same) .none kV doc pm an cdv ct) ⟨us, []⟩ = pure ((["one", "other"] : List Str).zip us) :=
  fun _ _ _ _ _ _ us hl => match us, hl with | [_, _], _ => rfl
def b__law_same (φ : List D → Option D) : Bd := bSeq (bIf (fAndT (fTr (fIsi "tuple" (vF 0))) (fTr (fIsi "tuple" (vF 1)))) (bRet (fAnd (f2 eqD (fB lenD (aCons (vF 0) (aNil))) (fB lenD (aCons (vF 1) (aNil)))) (f2 eqD (fLc (fIs rg1D (aCons (fB lenD (aCons (vF 0) (aNil))) (aNil))) (sN 2) (fNotT (fTr (fB φ (aCons (f2 ixD (vF 0) (vF 2)) (aCons (f2 ixD (vF 1) (vF 2)) (aNil)))))) (vF 2) [2]) (fLst (aNil))))) (bNext)) (bSeq (bIf (fOrT (fT (f2 isND (vF 0) (cD .none))) (fT (f2 isND (vF 1) (cD .none)))) (bRet (fAnd (f2 isND (vF 0) (cD .none)) (f2 isND (vF 1) (cD .none)))) (bNext)) (bSeq (bIf (fOrT (fTr (fIsi "bool" (vF 0))) (fTr (fIsi "bool" (vF 1)))) (bRet (fAnd (fIsi "bool" (vF 0)) (fAnd (fIsi "bool" (vF 1)) (f2 eqD (vF 0) (vF 1))))) (bNext)) (bRet (fAnd (fIsi2 "int" "str" (vF 0)) (fAnd (f2 eqD (fIsi "int" (vF 0)) (fIsi "int" (vF 1))) (f2 eqD (vF 0) (vF 1)))))))
def Ph__law_same : Nat → List D → Option D
  | 0 => fun _ => none
  | n + 1 => fnB (N__law_same).length (["one", "other"] : List Str).length (b__law_same (Ph__law_same n))
theorem dd__law_same (Z : Fx K mg) {φ : List D → Option D} (n : Nat) (ih : Ok P w K mg base (n + 0) "_law_same" ["one", "other"] .fz φ) (cdv : Value) (A : Around) (outer : List Env) (s : Shared) (H : Hp) (E : XK) (hr : Room (n + 0) (A.deeper (envOfC "_law_same" (defScope s__law_same) s.heap.objs.size (He.ga K "_law_same") cdv))) :
    ∃ W t, DSs (cxOf CX0 P w K mg base N__law_same "_law_same" (defScope s__law_same) (He.ga K "_law_same") cdv A outer s H E).nox .fz W (defBody s__law_same) t (b__law_same φ) := ⟨_, _,
  dss_cons (ds_if (dt_w (dw_and (dt_truK K (de_isiK K rfl rfl Z.n_isinstance bt_isinstance rfl Z.n_tuple bt_tuple (de_v 0))) (dw_and1 (dt_truK K (de_isiK K rfl rfl Z.n_isinstance bt_isinstance rfl Z.n_tuple bt_tuple (de_v 1)))))) (dss_one (ds_ret (de_andK K (de_cmp (op_eqDK K hr.u64) ops_eq rfl (de_cb (call_lenK K) cs_len rfl Z.n_len bt_len (da_cons (de_v 0) (da_nil))) (de_cb (call_lenK K) cs_len rfl Z.n_len bt_len (da_cons (de_v 1) (da_nil)))) (de_one (de_cmp (op_eqDK K hr.u64) ops_eq rfl (de_lc [("k", 2)] sc__law_same.nd (di_rg1 rfl Z.n_range (da_cons (de_cb (call_lenK K) cs_len rfl Z.n_len bt_len (da_cons (de_v 0) (da_nil))) (da_nil))) (blk_of (N := N__law_same) (sc := defScope s__law_same) (by decide +kernel)) (fun _ _ _ _ _ => dg_n sc__law_same.nd (i := 2)) (fun _ _ _ _ _ => dts_one (dt_not (dt_truK K (de_fnK K ih hr (by omega) rfl (da_cons (de_ixK K (de_v 0) (de_v 2)) (da_cons (de_ixK K (de_v 1) (de_v 2)) (da_nil))))))) (fun _ _ _ _ _ => de_v 2) (by decide)) (de_lst (da_nil))))))) (dss_nil)) (dss_cons (ds_if (dt_w (dw_or (dt_cmp L2.op_isN ops_isN rfl (de_v 0) (de_non)) (dw_or1 (dt_cmp L2.op_isN ops_isN rfl (de_v 1) (de_non))))) (dss_one (ds_ret (de_andK K (de_cmp L2.op_isN ops_isN rfl (de_v 0) (de_non)) (de_one (de_cmp L2.op_isN ops_isN rfl (de_v 1) (de_non)))))) (dss_nil)) (dss_cons (ds_if (dt_w (dw_or (dt_truK K (de_isiK K rfl rfl Z.n_isinstance bt_isinstance rfl Z.n_bool bt_bool (de_v 0))) (dw_or1 (dt_truK K (de_isiK K rfl rfl Z.n_isinstance bt_isinstance rfl Z.n_bool bt_bool (de_v 1)))))) (dss_one (ds_ret (de_andK K (de_isiK K rfl rfl Z.n_isinstance bt_isinstance rfl Z.n_bool bt_bool (de_v 0)) (de_andK K (de_isiK K rfl rfl Z.n_isinstance bt_isinstance rfl Z.n_bool bt_bool (de_v 1)) (de_one (de_cmp (op_eqDK K hr.u64) ops_eq rfl (de_v 0) (de_v 1))))))) (dss_nil)) (dss_one (ds_ret (de_andK K (de_isi2K K rfl rfl Z.n_isinstance bt_isinstance rfl Z.n_int bt_int rfl Z.n_str bt_str (de_v 0)) (de_andK K (de_cmp (op_eqDK K hr.u64) ops_eq rfl (de_isiK K rfl rfl Z.n_isinstance bt_isinstance rfl Z.n_int bt_int (de_v 0)) (de_isiK K rfl rfl Z.n_isinstance bt_isinstance rfl Z.n_int bt_int (de_v 1))) (de_one (de_cmp (op_eqDK K hr.u64) ops_eq rfl (de_v 0) (de_v 1)))))))))⟩
theorem ok__law_same (Z : Fx K mg) : ∀ n : Nat, Ok P w K mg base (n + 0) "_law_same" ["one", "other"] .fz (Ph__law_same n)
  | 0 => by obtain ⟨fd, F⟩ := Z.f__law_same; exact ok_zero F bi__law_same Z.g__law_same
  | n + 1 => by
    obtain ⟨fd, F⟩ := Z.f__law_same
    have e : n + 1 + 0 = n + 0 + 1 := by omega
    rw [e]
    exact ok_fz (P := P) (w := w) (mg := mg) (base := base) (b := b__law_same (Ph__law_same n)) (k := n + 0) (N := N__law_same) F sc__law_same bi__law_same Z.g__law_same (dd__law_same Z n (ok__law_same Z n))
abbrev N__law_cell : List Str := ["script", "spot"]
theorem sc__law_cell : FnScope N__law_cell ["script", "spot"] (defScope s__law_cell) := ⟨rfl, rfl, rfl, by decide +kernel, rfl, by decide +kernel, by decide +kernel⟩
theorem bi__law_cell : ∀ (kV doc pm : Value) (an : Option Addr) (cdv ct : Value) (us : List Value), us.length = (["script", "spot"] : List Str).length → bindArgs (PySem.W.fnOf "_law_cell" "_law_cell" (defArgs s__law_cell) (defBody s__law_cell) (defScope s__law_cell) .none kV doc pm an cdv ct) ⟨us, []⟩ = pure ((["script", "spot"] : List Str).zip us) :=
  fun _ _ _ _ _ _ us hl => match us, hl with | [_, _], _ => rfl
def b__law_cell : Bd := bSeq (bIf (fT (f2 ltD (vF 1) (fB lenD (aCons (vF 0) (aNil))))) (bRet (fB intD (aCons (f2 ixD (vF 0) (vF 1)) (aNil)))) (bNext)) (bRet (cD (.int 0)))
def Ph__law_cell : List D → Option D := fnB (N__law_cell).length (["script", "spot"] : List Str).length b__law_cell
theorem dd__law_cell (Z : Fx K mg) (cdv : Value) (A : Around) (outer : List Env) (s : Shared) (H : Hp) (E : XK) (hr : Room (0) (A.deeper (envOfC "_law_cell" (defScope s__law_cell) s.heap.objs.size (He.ga K "_law_cell") cdv))) :
    ∃ W t, DSs (cxOf CX0 P w K mg base N__law_cell "_law_cell" (defScope s__law_cell) (He.ga K "_law_cell") cdv A outer s H E).nox .fz W (defBody s__law_cell) t (b__law_cell) := ⟨_, _,
  dss_cons (ds_if (dt_cmp (op_lt_K K hr.u64) ops_lt rfl (de_v 1) (de_cb (call_lenK K) cs_len rfl Z.n_len bt_len (da_cons (de_v 0) (da_nil)))) (dss_one (ds_ret (de_ct call_int1 cs_int rfl Z.n_int bt_int (da_cons (de_ixK K (de_v 0) (de_v 1)) (da_nil))))) (dss_nil)) (dss_one (ds_ret (de_int)))⟩
theorem ok__law_cell (Z : Fx K mg) : Ok P w K mg base 1 "_law_cell" ["script", "spot"] .fz Ph__law_cell := by
  obtain ⟨fd, F⟩ := Z.f__law_cell
  exact ok_fz (P := P) (w := w) (mg := mg) (base := base) (b := b__law_cell) (k := 0) (N := N__law_cell) F sc__law_cell bi__law_cell Z.g__law_cell (dd__law_cell Z)
abbrev N__law_numbers : List Str := ["script", "spot", "size", "cell", "numbers", "remains", "k", "spun"]
theorem sc__law_numbers : FnScope N__law_numbers ["script", "spot", "size"] (defScope s__law_numbers) := ⟨rfl, rfl, rfl, by decide +kernel, rfl, by decide +kernel, by decide +kernel⟩
def L__law_numbers_1 : Bd := bIf (fT (f2 geD (vF 3) (f2 powD (cD (.int 10)) (cD (.int 18))))) (bSeq (bApp 4 (f2 modD (fB intD (aCons (vF 5) (aNil))) (f2 powD (cD (.int 10)) (cD (.int 9))))) (bAsg 5 (f2 fdivD (vF 5) (f2 powD (cD (.int 10)) (cD (.int 9)))))) (bSeq (bAsg 7 (f2 modD (fB intD (aCons (f2 addD (f2 addD (f2 mulD (vF 3) (cD (.int 48271))) (f2 mulD (f2 addD (vF 6) (cD (.int 1))) (cD (.int 69621)))) (vF 1)) (aNil))) (cD (.int 2147483647)))) (bApp 4 (f2 modD (f2 modD (fB intD (aCons (f2 addD (f2 mulD (vF 7) (cD (.int 16807))) (f2 mulD (f2 addD (vF 6) (cD (.int 3))) (cD (.int 40692)))) (aNil))) (cD (.int 2147483399))) (f2 powD (cD (.int 10)) (cD (.int 9))))))
theorem bi__law_numbers : ∀ (kV doc pm : Value) (an : Option Addr) (cdv ct : Value) (us : List Value), us.length = (["script", "spot", "size"] : List Str).length → bindArgs (PySem.W.fnOf "_law_numbers" "_law_numbers" (defArgs s__law_numbers) (defBody s__law_numbers) (defScope s__law_numbers) .none kV doc pm an cdv ct) ⟨us, []⟩ = pure ((["script", "spot", "size"] : List Str).zip us) :=
  fun _ _ _ _ _ _ us hl => match us, hl with | [_, _, _], _ => rfl
def b__law_numbers : Bd := bSeq (bAsg 3 (fB (Ph__law_cell) (aCons (vF 0) (aCons (vF 1) (aNil))))) (bSeq (bOwn 4 (fLst (aNil))) (bSeq (bAsg 5 (vF 3)) (bSeq (bFor (fIs rg1D (aCons (vF 2) (aNil))) (sN 6) (L__law_numbers_1)) (bRet (vO 4)))))
def Ph__law_numbers : List D → Option D := fnR (N__law_numbers).length (["script", "spot", "size"] : List Str).length b__law_numbers
theorem dd__law_numbers (Z : Fx K mg) (cdv : Value) (A : Around) (outer : List Env) (s : Shared) (H : Hp) (E : XK) (hr : Room (1) (A.deeper (envOfC "_law_numbers" (defScope s__law_numbers) s.heap.objs.size (He.ga K "_law_numbers") cdv))) :
    ∃ W t, DSs (cxOf CX0 P w K mg base N__law_numbers "_law_numbers" (defScope s__law_numbers) (He.ga K "_law_numbers") cdv A outer s H E).nox .fr W (defBody s__law_numbers) t (b__law_numbers) := ⟨_, _,
  dss_cons (ds_asg (i := 3) (de_fnK K (ok__law_cell Z) hr (by omega) rfl (da_cons (de_v 0) (da_cons (de_v 1) (da_nil)))) sc__law_numbers.nd) (dss_cons (ds_own (i := 4) (de_lst (da_nil)) sc__law_numbers.nd) (dss_cons (ds_asg (i := 5) (de_v 3) sc__law_numbers.nd) (dss_cons (ds_for (di_rg1 rfl Z.n_range (da_cons (de_v 2) (da_nil))) (dg_n sc__law_numbers.nd (i := 6)) (dss_one (ds_if (dt_cmp (op_ge_K K hr.u64) ops_ge rfl (de_v 3) (de_op op_pow ops_pow (de_int) (de_int))) (dss_cons (ds_app (j := 4) (de_op op_modN ops_mod (de_ct call_int1 cs_int rfl Z.n_int bt_int (da_cons (de_v 5) (da_nil))) (de_op op_pow ops_pow (de_int) (de_int)))) (dss_one (ds_asg (i := 5) (de_op op_fdivN ops_fdiv (de_v 5) (de_op op_pow ops_pow (de_int) (de_int))) sc__law_numbers.nd))) (dss_cons (ds_asg (i := 7) (de_op op_modN ops_mod (de_ct call_int1 cs_int rfl Z.n_int bt_int (da_cons (de_op (op_addAK K) ops_addA (de_op (op_addAK K) ops_addA (de_op op_mul ops_mul (de_v 3) (de_int)) (de_op op_mul ops_mul (de_op (op_addAK K) ops_addA (de_v 6) (de_int)) (de_int))) (de_v 1)) (da_nil))) (de_int)) sc__law_numbers.nd) (dss_one (ds_app (j := 4) (de_op op_modN ops_mod (de_op op_modN ops_mod (de_ct call_int1 cs_int rfl Z.n_int bt_int (da_cons (de_op (op_addAK K) ops_addA (de_op op_mul ops_mul (de_v 7) (de_int)) (de_op op_mul ops_mul (de_op (op_addAK K) ops_addA (de_v 6) (de_int)) (de_int))) (da_nil))) (de_int)) (de_op op_pow ops_pow (de_int) (de_int))))))))) (dss_one (ds_retOwn (i := 4))))))⟩
theorem ok__law_numbers (Z : Fx K mg) : Ok P w K mg base 2 "_law_numbers" ["script", "spot", "size"] .fr Ph__law_numbers := by
  obtain ⟨fd, F⟩ := Z.f__law_numbers
  exact ok_fr (P := P) (w := w) (mg := mg) (base := base) (b := b__law_numbers) (k := 1) (N := N__law_numbers) F sc__law_numbers bi__law_numbers Z.g__law_numbers (dd__law_numbers Z)
abbrev N_need : List Str := ["at", "value"]
theorem sc_need : FnScope N_need ["at", "value"] (defScope s_need) := ⟨rfl, rfl, rfl, by decide +kernel, rfl, by decide +kernel, by decide +kernel⟩
theorem bi_need : ∀ (kV doc pm : Value) (an : Option Addr) (cdv ct : Value) (us : List Value), us.length = (["at", "value"] : List Str).length → bindArgs (PySem.W.fnOf "need" "need" (defArgs s_need) (defBody s_need) (defScope s_need) .none kV doc pm an cdv ct) ⟨us, []⟩ = pure ((["at", "value"] : List Str).zip us) :=
  fun _ _ _ _ _ _ us hl => match us, hl with | [_, _], _ => rfl
def b_need : Bd := bSeq (bIf (fT (f2 isND (vF 1) (cD .none))) (bNever) (bNext)) (bRet (vF 1))
def Ph_need : List D → Option D := fnB (N_need).length (["at", "value"] : List Str).length b_need
theorem dd_need (Z : Fx K mg) (cdv : Value) (A : Around) (outer : List Env) (s : Shared) (H : Hp) (E : XK) (hr : Room (0) (A.deeper (envOfC "need" (defScope s_need) s.heap.objs.size (He.ga K "need") cdv))) :
    ∃ W t, DSs (cxOf CX0 P w K mg base N_need "need" (defScope s_need) (He.ga K "need") cdv A outer s H E).nox .fz W (defBody s_need) t (b_need) := ⟨_, _,
  dss_cons (ds_if (dt_cmp L2.op_isN ops_isN rfl (de_v 1) (de_non)) (dss_one (ds_never)) (dss_nil)) (dss_one (ds_ret (de_v 1)))⟩
theorem ok_need (Z : Fx K mg) : Ok P w K mg base 1 "need" ["at", "value"] .fz Ph_need := by
  obtain ⟨fd, F⟩ := Z.f_need
  exact ok_fz (P := P) (w := w) (mg := mg) (base := base) (b := b_need) (k := 0) (N := N_need) F sc_need bi_need Z.g_need (dd_need Z)
abbrev N_is_seq : List Str := ["value"]
theorem sc_is_seq : FnScope N_is_seq ["value"] (defScope s_is_seq) := ⟨rfl, rfl, rfl, by decide +kernel, rfl, by decide +kernel, by decide +kernel⟩
theorem bi_is_seq : ∀ (kV doc pm : Value) (an : Option Addr) (cdv ct : Value) (us : List Value), us.length = (["value"] : List Str).length → bindArgs (PySem.W.fnOf "is_seq" "is_seq" (defArgs s_is_seq) (defBody s_is_seq) (defScope s_is_seq) .none kV doc pm an cdv ct) ⟨us, []⟩ = pure ((["value"] : List Str).zip us) :=
  fun _ _ _ _ _ _ us hl => match us, hl with | [_], _ => rfl
def b_is_seq : Bd := bRet (fIsi2 "list" "tuple" (vF 0))
def Ph_is_seq : List D → Option D := fnB (N_is_seq).length (["value"] : List Str).length b_is_seq
theorem dd_is_seq (Z : Fx K mg) (cdv : Value) (A : Around) (outer : List Env) (s : Shared) (H : Hp) (E : XK) (hr : Room (0) (A.deeper (envOfC "is_seq" (defScope s_is_seq) s.heap.objs.size (He.ga K "is_seq") cdv))) :
    ∃ W t, DSs (cxOf CX0 P w K mg base N_is_seq "is_seq" (defScope s_is_seq) (He.ga K "is_seq") cdv A outer s H E).nox .fz W (defBody s_is_seq) t (b_is_seq) := ⟨_, _,
  dss_one (ds_ret (de_isi2K K rfl rfl Z.n_isinstance bt_isinstance rfl Z.n_list bt_list rfl Z.n_tuple bt_tuple (de_v 0)))⟩
theorem ok_is_seq (Z : Fx K mg) : Ok P w K mg base 1 "is_seq" ["value"] .fz Ph_is_seq := by
  obtain ⟨fd, F⟩ := Z.f_is_seq
  exact ok_fz (P := P) (w := w) (mg := mg) (base := base) (b := b_is_seq) (k := 0) (N := N_is_seq) F sc_is_seq bi_is_seq Z.g_is_seq (dd_is_seq Z)
abbrev N_to_row : List Str := ["value", "least", "most"]
theorem sc_to_row : FnScope N_to_row ["value", "least", "most"] (defScope s_to_row) := ⟨rfl, rfl, rfl, by decide +kernel, rfl, by decide +kernel, by decide +kernel⟩
theorem bi_to_row : ∀ (kV doc pm : Value) (an : Option Addr) (cdv ct : Value) (us : List Value), us.length = (["value", "least", "most"] : List Str).length → bindArgs (PySem.W.fnOf "to_row" "to_row" (defArgs s_to_row) (defBody s_to_row) (defScope s_to_row) .none kV doc pm an cdv ct) ⟨us, []⟩ = pure ((["value", "least", "most"] : List Str).zip us) :=
  fun _ _ _ _ _ _ us hl => match us, hl with | [_, _, _], _ => rfl
def b_to_row : Bd := bSeq (bIf (fOrT (fNotT (fTr (fB (Ph_is_seq) (aCons (vF 0) (aNil))))) (fNotT (fT (f3 leD leD (vF 1) (fB lenD (aCons (vF 0) (aNil))) (vF 2))))) (bRet (cD .none)) (bNext)) (bRet (fB tupD (aCons (vF 0) (aNil))))
def Ph_to_row : List D → Option D := fnB (N_to_row).length (["value", "least", "most"] : List Str).length b_to_row
theorem dd_to_row (Z : Fx K mg) (cdv : Value) (A : Around) (outer : List Env) (s : Shared) (H : Hp) (E : XK) (hr : Room (1) (A.deeper (envOfC "to_row" (defScope s_to_row) s.heap.objs.size (He.ga K "to_row") cdv))) :
    ∃ W t, DSs (cxOf CX0 P w K mg base N_to_row "to_row" (defScope s_to_row) (He.ga K "to_row") cdv A outer s H E).nox .fz W (defBody s_to_row) t (b_to_row) := ⟨_, _,
  dss_cons (ds_if (dt_w (dw_or (dt_not (dt_truK K (de_fnK K (ok_is_seq Z) hr (by omega) rfl (da_cons (de_v 0) (da_nil))))) (dw_or1 (dt_not (dt_chain (op_le_K K hr.u64) (op_le_K K hr.u64) ops_le ops_le (de_v 1) (de_cb (call_lenK K) cs_len rfl Z.n_len bt_len (da_cons (de_v 0) (da_nil))) (de_v 2)))))) (dss_one (ds_ret (de_non))) (dss_nil)) (dss_one (ds_ret (de_ct (cr_tupK K) cs_tup rfl Z.n_tuple bt_tuple (da_cons (de_v 0) (da_nil)))))⟩
theorem ok_to_row (Z : Fx K mg) : Ok P w K mg base 2 "to_row" ["value", "least", "most"] .fz Ph_to_row := by
  obtain ⟨fd, F⟩ := Z.f_to_row
  exact ok_fz (P := P) (w := w) (mg := mg) (base := base) (b := b_to_row) (k := 1) (N := N_to_row) F sc_to_row bi_to_row Z.g_to_row (dd_to_row Z)
abbrev N_to_pair : List Str := ["value"]
theorem sc_to_pair : FnScope N_to_pair ["value"] (defScope s_to_pair) := ⟨rfl, rfl, rfl, by decide +kernel, rfl, by decide +kernel, by decide +kernel⟩
theorem bi_to_pair : ∀ (kV doc pm : Value) (an : Option Addr) (cdv ct : Value) (us : List Value), us.length = (["value"] : List Str).length → bindArgs (PySem.W.fnOf "to_pair" "to_pair" (defArgs s_to_pair) (defBody s_to_pair) (defScope s_to_pair) .none kV doc pm an cdv ct) ⟨us, []⟩ = pure ((["value"] : List Str).zip us) :=
  fun _ _ _ _ _ _ us hl => match us, hl with | [_], _ => rfl
def b_to_pair : Bd := bRet (fB (Ph_to_row) (aCons (vF 0) (aCons (cD (.int 2)) (aCons (cD (.int 2)) (aNil)))))
def Ph_to_pair : List D → Option D := fnB (N_to_pair).length (["value"] : List Str).length b_to_pair
theorem dd_to_pair (Z : Fx K mg) (cdv : Value) (A : Around) (outer : List Env) (s : Shared) (H : Hp) (E : XK) (hr : Room (2) (A.deeper (envOfC "to_pair" (defScope s_to_pair) s.heap.objs.size (He.ga K "to_pair") cdv))) :
    ∃ W t, DSs (cxOf CX0 P w K mg base N_to_pair "to_pair" (defScope s_to_pair) (He.ga K "to_pair") cdv A outer s H E).nox .fz W (defBody s_to_pair) t (b_to_pair) := ⟨_, _,
  dss_one (ds_ret (de_fnK K (ok_to_row Z) hr (by omega) rfl (da_cons (de_v 0) (da_cons (de_int) (da_cons (de_int) (da_nil))))))⟩
theorem ok_to_pair (Z : Fx K mg) : Ok P w K mg base 3 "to_pair" ["value"] .fz Ph_to_pair := by
  obtain ⟨fd, F⟩ := Z.f_to_pair
  exact ok_fz (P := P) (w := w) (mg := mg) (base := base) (b := b_to_pair) (k := 2) (N := N_to_pair) F sc_to_pair bi_to_pair Z.g_to_pair (dd_to_pair Z)
abbrev N_is_int : List Str := ["value"]
theorem sc_is_int : FnScope N_is_int ["value"] (defScope s_is_int) := ⟨rfl, rfl, rfl, by decide +kernel, rfl, by decide +kernel, by decide +kernel⟩
theorem bi_is_int : ∀ (kV doc pm : Value) (an : Option Addr) (cdv ct : Value) (us : List Value), us.length = (["value"] : List Str).length → bindArgs (PySem.W.fnOf "is_int" "is_int" (defArgs s_is_int) (defBody s_is_int) (defScope s_is_int) .none kV doc pm an cdv ct) ⟨us, []⟩ = pure ((["value"] : List Str).zip us) :=
  fun _ _ _ _ _ _ us hl => match us, hl with | [_], _ => rfl
def b_is_int : Bd := bRet (fAnd (fIsi "int" (vF 0)) (fNot (fIsi "bool" (vF 0))))
def Ph_is_int : List D → Option D := fnB (N_is_int).length (["value"] : List Str).length b_is_int
theorem dd_is_int (Z : Fx K mg) (cdv : Value) (A : Around) (outer : List Env) (s : Shared) (H : Hp) (E : XK) (hr : Room (0) (A.deeper (envOfC "is_int" (defScope s_is_int) s.heap.objs.size (He.ga K "is_int") cdv))) :
    ∃ W t, DSs (cxOf CX0 P w K mg base N_is_int "is_int" (defScope s_is_int) (He.ga K "is_int") cdv A outer s H E).nox .fz W (defBody s_is_int) t (b_is_int) := ⟨_, _,
  dss_one (ds_ret (de_andK K (de_isiK K rfl rfl Z.n_isinstance bt_isinstance rfl Z.n_int bt_int (de_v 0)) (de_one (de_notK K (de_isiK K rfl rfl Z.n_isinstance bt_isinstance rfl Z.n_bool bt_bool (de_v 0))))))⟩
theorem ok_is_int (Z : Fx K mg) : Ok P w K mg base 1 "is_int" ["value"] .fz Ph_is_int := by
  obtain ⟨fd, F⟩ := Z.f_is_int
  exact ok_fz (P := P) (w := w) (mg := mg) (base := base) (b := b_is_int) (k := 0) (N := N_is_int) F sc_is_int bi_is_int Z.g_is_int (dd_is_int Z)
abbrev N_is_within : List Str := ["value", "low", "high"]
theorem sc_is_within : FnScope N_is_within ["value", "low", "high"] (defScope s_is_within) := ⟨rfl, rfl, rfl, by decide +kernel, rfl, by decide +kernel, by decide +kernel⟩
theorem bi_is_within : ∀ (kV doc pm : Value) (an : Option Addr) (cdv ct : Value) (us : List Value), us.length = (["value", "low", "high"] : List Str).length → bindArgs (PySem.W.fnOf "is_within" "is_within" (defArgs s_is_within) (defBody s_is_within) (defScope s_is_within) .none kV doc pm an cdv ct) ⟨us, []⟩ = pure ((["value", "low", "high"] : List Str).zip us) :=
  fun _ _ _ _ _ _ us hl => match us, hl with | [_, _, _], _ => rfl
def b_is_within : Bd := bRet (fAnd (fB (Ph_is_int) (aCons (vF 0) (aNil))) (f3 leD leD (vF 1) (vF 0) (vF 2)))
def Ph_is_within : List D → Option D := fnB (N_is_within).length (["value", "low", "high"] : List Str).length b_is_within
theorem dd_is_within (Z : Fx K mg) (cdv : Value) (A : Around) (outer : List Env) (s : Shared) (H : Hp) (E : XK) (hr : Room (1) (A.deeper (envOfC "is_within" (defScope s_is_within) s.heap.objs.size (He.ga K "is_within") cdv))) :
    ∃ W t, DSs (cxOf CX0 P w K mg base N_is_within "is_within" (defScope s_is_within) (He.ga K "is_within") cdv A outer s H E).nox .fz W (defBody s_is_within) t (b_is_within) := ⟨_, _,
  dss_one (ds_ret (de_andK K (de_fnK K (ok_is_int Z) hr (by omega) rfl (da_cons (de_v 0) (da_nil))) (de_one (de_chain (op_le_K K hr.u64) (op_le_K K hr.u64) ops_le ops_le (de_v 1) (de_v 0) (de_v 2)))))⟩
theorem ok_is_within (Z : Fx K mg) : Ok P w K mg base 2 "is_within" ["value", "low", "high"] .fz Ph_is_within := by
  obtain ⟨fd, F⟩ := Z.f_is_within
  exact ok_fz (P := P) (w := w) (mg := mg) (base := base) (b := b_is_within) (k := 1) (N := N_is_within) F sc_is_within bi_is_within Z.g_is_within (dd_is_within Z)
abbrev N_to_swing : List Str := ["value", "pair"]
theorem sc_to_swing : FnScope N_to_swing ["value"] (defScope s_to_swing) := ⟨rfl, rfl, rfl, by decide +kernel, rfl, by decide +kernel, by decide +kernel⟩
theorem bi_to_swing : ∀ (kV doc pm : Value) (an : Option Addr) (cdv ct : Value) (us : List Value), us.length = (["value"] : List Str).length → bindArgs (PySem.W.fnOf "to_swing" "to_swing" (defArgs s_to_swing) (defBody s_to_swing) (defScope s_to_swing) .none kV doc pm an cdv ct) ⟨us, []⟩ = pure ((["value"] : List Str).zip us) :=
  fun _ _ _ _ _ _ us hl => match us, hl with | [_], _ => rfl
def b_to_swing : Bd := bSeq (bAsg 1 (fB (Ph_to_pair) (aCons (vF 0) (aNil)))) (bSeq (bIf (fOrT (fT (f2 isND (vF 1) (cD .none))) (fOrT (fNotT (fTr (fB (Ph_is_within) (aCons (f2 ixD (vF 1) (cD (.int 0))) (aCons (cD (.int 1)) (aCons (cD (.int 60)) (aNil))))))) (fNotT (fTr (fB (Ph_is_within) (aCons (f2 ixD (vF 1) (cD (.int 1))) (aCons (cD (.int 0)) (aCons (f2 subD (f2 ixD (vF 1) (cD (.int 0))) (cD (.int 1))) (aNil))))))))) (bRet (cD .none)) (bNext)) (bRet (vF 1)))
def Ph_to_swing : List D → Option D := fnB (N_to_swing).length (["value"] : List Str).length b_to_swing
theorem dd_to_swing (Z : Fx K mg) (cdv : Value) (A : Around) (outer : List Env) (s : Shared) (H : Hp) (E : XK) (hr : Room (3) (A.deeper (envOfC "to_swing" (defScope s_to_swing) s.heap.objs.size (He.ga K "to_swing") cdv))) :
    ∃ W t, DSs (cxOf CX0 P w K mg base N_to_swing "to_swing" (defScope s_to_swing) (He.ga K "to_swing") cdv A outer s H E).nox .fz W (defBody s_to_swing) t (b_to_swing) := ⟨_, _,
  dss_cons (ds_asg (i := 1) (de_fnK K (ok_to_pair Z) hr (by omega) rfl (da_cons (de_v 0) (da_nil))) sc_to_swing.nd) (dss_cons (ds_if (dt_w (dw_or (dt_cmp L2.op_isN ops_isN rfl (de_v 1) (de_non)) (dw_or (dt_not (dt_truK K (de_fnK K (ok_is_within Z) hr (by omega) rfl (da_cons (de_ixK K (de_v 1) (de_int)) (da_cons (de_int) (da_cons (de_int) (da_nil))))))) (dw_or1 (dt_not (dt_truK K (de_fnK K (ok_is_within Z) hr (by omega) rfl (da_cons (de_ixK K (de_v 1) (de_int)) (da_cons (de_int) (da_cons (de_op op_sub ops_sub (de_ixK K (de_v 1) (de_int)) (de_int)) (da_nil))))))))))) (dss_one (ds_ret (de_non))) (dss_nil)) (dss_one (ds_ret (de_v 1))))⟩
theorem ok_to_swing (Z : Fx K mg) : Ok P w K mg base 4 "to_swing" ["value"] .fz Ph_to_swing := by
  obtain ⟨fd, F⟩ := Z.f_to_swing
  exact ok_fz (P := P) (w := w) (mg := mg) (base := base) (b := b_to_swing) (k := 3) (N := N_to_swing) F sc_to_swing bi_to_swing Z.g_to_swing (dd_to_swing Z)
abbrev N_to_swings : List Str := ["value", "row", "swings", "member", "swing"]
theorem sc_to_swings : FnScope N_to_swings ["value"] (defScope s_to_swings) := ⟨rfl, rfl, rfl, by decide +kernel, rfl, by decide +kernel, by decide +kernel⟩
theorem bi_to_swings : ∀ (kV doc pm : Value) (an : Option Addr) (cdv ct : Value) (us : List Value), us.length = (["value"] : List Str).length → bindArgs (PySem.W.fnOf "to_swings" "to_swings" (defArgs s_to_swings) (defBody s_to_swings) (defScope s_to_swings) .none kV doc pm an cdv ct) ⟨us, []⟩ = pure ((["value"] : List Str).zip us) :=
  fun _ _ _ _ _ _ us hl => match us, hl with | [_], _ => rfl
def b_to_swings : Bd := bSeq (bAsg 1 (fB (Ph_to_row) (aCons (vF 0) (aCons (cD (.int 1)) (aCons (cD (.int 6)) (aNil)))))) (bSeq (bIf (fT (f2 isND (vF 1) (cD .none))) (bRet (cD .none)) (bNext)) (bSeq (bAsg 2 (fLc (fI (vF 1)) (sN 3) (fYes) (fB (Ph_to_swing) (aCons (vF 3) (aNil))) [3])) (bSeq (bIf (fTr (fB anyD (aCons (fLc (fI (vF 2)) (sN 4) (fYes) (f2 isND (vF 4) (cD .none)) [4]) (aNil)))) (bRet (cD .none)) (bNext)) (bRet (fB tupD (aCons (vF 2) (aNil)))))))
def Ph_to_swings : List D → Option D := fnB (N_to_swings).length (["value"] : List Str).length b_to_swings
theorem dd_to_swings (Z : Fx K mg) (cdv : Value) (A : Around) (outer : List Env) (s : Shared) (H : Hp) (E : XK) (hr : Room (4) (A.deeper (envOfC "to_swings" (defScope s_to_swings) s.heap.objs.size (He.ga K "to_swings") cdv))) :
    ∃ W t, DSs (cxOf CX0 P w K mg base N_to_swings "to_swings" (defScope s_to_swings) (He.ga K "to_swings") cdv A outer s H E).nox .fz W (defBody s_to_swings) t (b_to_swings) := ⟨_, _,
  dss_cons (ds_asg (i := 1) (de_fnK K (ok_to_row Z) hr (by omega) rfl (da_cons (de_v 0) (da_cons (de_int) (da_cons (de_int) (da_nil))))) sc_to_swings.nd) (dss_cons (ds_if (dt_cmp L2.op_isN ops_isN rfl (de_v 1) (de_non)) (dss_one (ds_ret (de_non))) (dss_nil)) (dss_cons (ds_asgLc (i := 2) [("member", 3)] sc_to_swings.nd (di_anyK K (de_v 1)) (blk_of (N := N_to_swings) (sc := defScope s_to_swings) (by decide +kernel)) (fun _ _ _ _ _ => dg_n sc_to_swings.nd (i := 3)) (fun _ _ _ _ _ => dts_nil) (fun _ _ _ _ _ => de_fnK K (ok_to_swing Z) hr (by omega) rfl (da_cons (de_v 3) (da_nil))) (by decide) (sw_true rfl rfl rfl (by decide +kernel))) (dss_cons (ds_if (dt_truK K (de_cb (cr_anyK K rfl) cs_any rfl Z.n_any bt_any (da_cons (de_lc [("swing", 4)] sc_to_swings.nd (di_anyK K (de_v 2)) (blk_of (N := N_to_swings) (sc := defScope s_to_swings) (by decide +kernel)) (fun _ _ _ _ _ => dg_n sc_to_swings.nd (i := 4)) (fun _ _ _ _ _ => dts_nil) (fun _ _ _ _ _ => de_cmp L2.op_isN ops_isN rfl (de_v 4) (de_non)) (by decide)) (da_nil)))) (dss_one (ds_ret (de_non))) (dss_nil)) (dss_one (ds_ret (de_ct (cr_tupK K) cs_tup rfl Z.n_tuple bt_tuple (da_cons (de_v 2) (da_nil))))))))⟩
theorem ok_to_swings (Z : Fx K mg) : Ok P w K mg base 5 "to_swings" ["value"] .fz Ph_to_swings := by
  obtain ⟨fd, F⟩ := Z.f_to_swings
  exact ok_fz (P := P) (w := w) (mg := mg) (base := base) (b := b_to_swings) (k := 4) (N := N_to_swings) F sc_to_swings bi_to_swings Z.g_to_swings (dd_to_swings Z)
abbrev N_again : List Str := ["swings", "whole", "swing"]
theorem sc_again : FnScope N_again ["swings"] (defScope s_again) := ⟨rfl, rfl, rfl, by decide +kernel, rfl, by decide +kernel, by decide +kernel⟩
def L_again_1 : Bd := bAsg 1 (fB lcmD (aCons (vF 1) (aCons (f2 ixD (vF 2) (cD (.int 0))) (aNil))))
theorem bi_again : ∀ (kV doc pm : Value) (an : Option Addr) (cdv ct : Value) (us : List Value), us.length = (["swings"] : List Str).length → bindArgs (PySem.W.fnOf "again" "again" (defArgs s_again) (defBody s_again) (defScope s_again) .none kV doc pm an cdv ct) ⟨us, []⟩ = pure ((["swings"] : List Str).zip us) :=
  fun _ _ _ _ _ _ us hl => match us, hl with | [_], _ => rfl
def b_again : Bd := bSeq (bAsg 0 (fB (Ph_need) (aCons (cD (.int 1)) (aCons (fB (Ph_to_swings) (aCons (vF 0) (aNil))) (aNil))))) (bSeq (bAsg 1 (cD (.int 1))) (bSeq (bFor (fI (vF 0)) (sN 2) (L_again_1)) (bRet (vF 1))))
def Ph_again : List D → Option D := fnB (N_again).length (["swings"] : List Str).length b_again
theorem dd_again (Z : Fx K mg) (cdv : Value) (A : Around) (outer : List Env) (s : Shared) (H : Hp) (E : XK) (hr : Room (5) (A.deeper (envOfC "again" (defScope s_again) s.heap.objs.size (He.ga K "again") cdv))) :
    ∃ W t, DSs (cxOf CX0 P w K mg base N_again "again" (defScope s_again) (He.ga K "again") cdv A outer s H E).nox .fz W (defBody s_again) t (b_again) := ⟨_, _,
  dss_cons (ds_asg (i := 0) (de_fnK K (ok_need Z) hr (by omega) rfl (da_cons (de_int) (da_cons (de_fnK K (ok_to_swings Z) hr (by omega) rfl (da_cons (de_v 0) (da_nil))) (da_nil)))) sc_again.nd) (dss_cons (ds_asg (i := 1) (de_int) sc_again.nd) (dss_cons (ds_for (di_anyK K (de_v 0)) (dg_n sc_again.nd (i := 2)) (dss_one (ds_asg (i := 1) (de_bf cr_lcm cs_lcm rfl Z.k_lcm (da_cons (de_v 1) (da_cons (de_ixK K (de_v 2) (de_int)) (da_nil)))) sc_again.nd))) (dss_one (ds_ret (de_v 1)))))⟩
theorem ok_again (Z : Fx K mg) : Ok P w K mg base 6 "again" ["swings"] .fz Ph_again := by
  obtain ⟨fd, F⟩ := Z.f_again
  exact ok_fz (P := P) (w := w) (mg := mg) (base := base) (b := b_again) (k := 5) (N := N_again) F sc_again bi_again Z.g_again (dd_again Z)
abbrev N_is_front : List Str := ["swing", "time"]
theorem sc_is_front : FnScope N_is_front ["swing", "time"] (defScope s_is_front) := ⟨rfl, rfl, rfl, by decide +kernel, rfl, by decide +kernel, by decide +kernel⟩
theorem bi_is_front : ∀ (kV doc pm : Value) (an : Option Addr) (cdv ct : Value) (us : List Value), us.length = (["swing", "time"] : List Str).length → bindArgs (PySem.W.fnOf "is_front" "is_front" (defArgs s_is_front) (defBody s_is_front) (defScope s_is_front) .none kV doc pm an cdv ct) ⟨us, []⟩ = pure ((["swing", "time"] : List Str).zip us) :=
  fun _ _ _ _ _ _ us hl => match us, hl with | [_, _], _ => rfl
def b_is_front : Bd := bRet (f2 eqD (f2 modD (vF 1) (f2 ixD (vF 0) (cD (.int 0)))) (f2 ixD (vF 0) (cD (.int 1))))
def Ph_is_front : List D → Option D := fnB (N_is_front).length (["swing", "time"] : List Str).length b_is_front
theorem dd_is_front (Z : Fx K mg) (cdv : Value) (A : Around) (outer : List Env) (s : Shared) (H : Hp) (E : XK) (hr : Room (0) (A.deeper (envOfC "is_front" (defScope s_is_front) s.heap.objs.size (He.ga K "is_front") cdv))) :
    ∃ W t, DSs (cxOf CX0 P w K mg base N_is_front "is_front" (defScope s_is_front) (He.ga K "is_front") cdv A outer s H E).nox .fz W (defBody s_is_front) t (b_is_front) := ⟨_, _,
  dss_one (ds_ret (de_cmp (op_eqDK K hr.u64) ops_eq rfl (de_op op_modN ops_mod (de_v 1) (de_ixK K (de_v 0) (de_int))) (de_ixK K (de_v 0) (de_int))))⟩
theorem ok_is_front (Z : Fx K mg) : Ok P w K mg base 1 "is_front" ["swing", "time"] .fz Ph_is_front := by
  obtain ⟨fd, F⟩ := Z.f_is_front
  exact ok_fz (P := P) (w := w) (mg := mg) (base := base) (b := b_is_front) (k := 0) (N := N_is_front) F sc_is_front bi_is_front Z.g_is_front (dd_is_front Z)
abbrev N_count_fronts : List Str := ["swings", "time", "swing"]
theorem sc_count_fronts : FnScope N_count_fronts ["swings", "time"] (defScope s_count_fronts) := ⟨rfl, rfl, rfl, by decide +kernel, rfl, by decide +kernel, by decide +kernel⟩
theorem bi_count_fronts : ∀ (kV doc pm : Value) (an : Option Addr) (cdv ct : Value) (us : List Value), us.length = (["swings", "time"] : List Str).length → bindArgs (PySem.W.fnOf "count_fronts" "count_fronts" (defArgs s_count_fronts) (defBody s_count_fronts) (defScope s_count_fronts) .none kV doc pm an cdv ct) ⟨us, []⟩ = pure ((["swings", "time"] : List Str).zip us) :=
  fun _ _ _ _ _ _ us hl => match us, hl with | [_, _], _ => rfl
def b_count_fronts : Bd := bRet (fB lenD (aCons (fLc (fI (vF 0)) (sN 2) (fTr (fB (Ph_is_front) (aCons (vF 2) (aCons (vF 1) (aNil))))) (vF 2) [2]) (aNil)))
def Ph_count_fronts : List D → Option D := fnB (N_count_fronts).length (["swings", "time"] : List Str).length b_count_fronts
theorem dd_count_fronts (Z : Fx K mg) (cdv : Value) (A : Around) (outer : List Env) (s : Shared) (H : Hp) (E : XK) (hr : Room (1) (A.deeper (envOfC "count_fronts" (defScope s_count_fronts) s.heap.objs.size (He.ga K "count_fronts") cdv))) :
    ∃ W t, DSs (cxOf CX0 P w K mg base N_count_fronts "count_fronts" (defScope s_count_fronts) (He.ga K "count_fronts") cdv A outer s H E).nox .fz W (defBody s_count_fronts) t (b_count_fronts) := ⟨_, _,
  dss_one (ds_ret (de_cb (call_lenK K) cs_len rfl Z.n_len bt_len (da_cons (de_lc [("swing", 2)] sc_count_fronts.nd (di_anyK K (de_v 0)) (blk_of (N := N_count_fronts) (sc := defScope s_count_fronts) (by decide +kernel)) (fun _ _ _ _ _ => dg_n sc_count_fronts.nd (i := 2)) (fun _ _ _ _ _ => dts_one (dt_truK K (de_fnK K (ok_is_front Z) hr (by omega) rfl (da_cons (de_v 2) (da_cons (de_v 1) (da_nil)))))) (fun _ _ _ _ _ => de_v 2) (by decide)) (da_nil))))⟩
theorem ok_count_fronts (Z : Fx K mg) : Ok P w K mg base 2 "count_fronts" ["swings", "time"] .fz Ph_count_fronts := by
  obtain ⟨fd, F⟩ := Z.f_count_fronts
  exact ok_fz (P := P) (w := w) (mg := mg) (base := base) (b := b_count_fronts) (k := 1) (N := N_count_fronts) F sc_count_fronts bi_count_fronts Z.g_count_fronts (dd_count_fronts Z)
abbrev N_most : List Str := ["swings", "whole", "counts", "time"]
theorem sc_most : FnScope N_most ["swings"] (defScope s_most) := ⟨rfl, rfl, rfl, by decide +kernel, rfl, by decide +kernel, by decide +kernel⟩
theorem bi_most : ∀ (kV doc pm : Value) (an : Option Addr) (cdv ct : Value) (us : List Value), us.length = (["swings"] : List Str).length → bindArgs (PySem.W.fnOf "most" "most" (defArgs s_most) (defBody s_most) (defScope s_most) .none kV doc pm an cdv ct) ⟨us, []⟩ = pure ((["swings"] : List Str).zip us) :=
  fun _ _ _ _ _ _ us hl => match us, hl with | [_], _ => rfl
def b_most : Bd := bSeq (bAsg 1 (fB (Ph_again) (aCons (vF 0) (aNil)))) (bSeq (bIf (fT (f2 gtD (vF 1) (cD (.int 20000)))) (bNever) (bNext)) (bSeq (bAsg 2 (fLc (fIs rg1D (aCons (vF 1) (aNil))) (sN 3) (fYes) (fB (Ph_count_fronts) (aCons (vF 0) (aCons (vF 3) (aNil)))) [3])) (bRet (fTup (aCons (fB maxA (aCons (vF 2) (aNil))) (aCons (f2 idxD (vF 2) (fB maxA (aCons (vF 2) (aNil)))) (aNil)))))))
def Ph_most : List D → Option D := fnB (N_most).length (["swings"] : List Str).length b_most
theorem dd_most (Z : Fx K mg) (cdv : Value) (A : Around) (outer : List Env) (s : Shared) (H : Hp) (E : XK) (hr : Room (6) (A.deeper (envOfC "most" (defScope s_most) s.heap.objs.size (He.ga K "most") cdv))) :
    ∃ W t, DSs (cxOf CX0 P w K mg base N_most "most" (defScope s_most) (He.ga K "most") cdv A outer s H E).nox .fz W (defBody s_most) t (b_most) := ⟨_, _,
  dss_cons (ds_asg (i := 1) (de_fnK K (ok_again Z) hr (by omega) rfl (da_cons (de_v 0) (da_nil))) sc_most.nd) (dss_cons (ds_if (dt_cmp (op_gt_K K hr.u64) ops_gt rfl (de_v 1) (de_int)) (dss_one (ds_never)) (dss_nil)) (dss_cons (ds_asgLc (i := 2) [("time", 3)] sc_most.nd (di_rg1 rfl Z.n_range (da_cons (de_v 1) (da_nil))) (blk_of (N := N_most) (sc := defScope s_most) (by decide +kernel)) (fun _ _ _ _ _ => dg_n sc_most.nd (i := 3)) (fun _ _ _ _ _ => dts_nil) (fun _ _ _ _ _ => de_fnK K (ok_count_fronts Z) hr (by omega) rfl (da_cons (de_v 0) (da_cons (de_v 3) (da_nil)))) (by decide) (sw_true rfl rfl rfl (by decide +kernel))) (dss_one (ds_ret (de_tup (da_cons (de_cb (cr_maxAK K rfl hr.u70) cs_maxA rfl Z.n_max bt_max (da_cons (de_v 2) (da_nil))) (da_cons (de_index K hr.u65 (de_v 2) (de_cb (cr_maxAK K rfl hr.u70) cs_maxA rfl Z.n_max bt_max (da_cons (de_v 2) (da_nil)))) (da_nil))))))))⟩
theorem ok_most (Z : Fx K mg) : Ok P w K mg base 7 "most" ["swings"] .fz Ph_most := by
  obtain ⟨fd, F⟩ := Z.f_most
  exact ok_fz (P := P) (w := w) (mg := mg) (base := base) (b := b_most) (k := 6) (N := N_most) F sc_most bi_most Z.g_most (dd_most Z)
abbrev N_ladder : List Str := ["swings", "rungs", "swing", "step", "time", "whole"]
theorem sc_ladder : FnScope N_ladder ["swings"] (defScope s_ladder) := ⟨rfl, rfl, rfl, by decide +kernel, rfl, by decide +kernel, by decide +kernel⟩
def C_ladder_1 : Rho → Option Bool := fAndT (fT (f2 ltD (vF 4) (vF 5))) (fNotT (fTr (fB (Ph_is_front) (aCons (vF 2) (aCons (vF 4) (aNil))))))
def W_ladder_1 : Bd := augD addS 4 (vF 3)
def L_ladder_1 : Bd := bSeq (bAsg 5 (fB lcmD (aCons (vF 3) (aCons (f2 ixD (vF 2) (cD (.int 0))) (aNil))))) (bSeq (whileL (C_ladder_1) (W_ladder_1) 400) (bSeq (bIf (fT (f2 geD (vF 4) (vF 5))) (bRet (cD .none)) (bNext)) (bSeq (bAsg 3 (vF 5)) (bApp 1 (fTup (aCons (vF 4) (aCons (vF 3) (aNil))))))))
theorem bi_ladder : ∀ (kV doc pm : Value) (an : Option Addr) (cdv ct : Value) (us : List Value), us.length = (["swings"] : List Str).length → bindArgs (PySem.W.fnOf "ladder" "ladder" (defArgs s_ladder) (defBody s_ladder) (defScope s_ladder) .none kV doc pm an cdv ct) ⟨us, []⟩ = pure ((["swings"] : List Str).zip us) :=
  fun _ _ _ _ _ _ us hl => match us, hl with | [_], _ => rfl
def b_ladder : Bd := bSeq (bAsg 0 (fB (Ph_need) (aCons (cD (.int 1)) (aCons (fB (Ph_to_swings) (aCons (vF 0) (aNil))) (aNil))))) (bSeq (bAsgG (f2 ixD (vF 0) (cD (.int 0))) (sT 2 (sCons (sN 3) (sCons (sN 4) (sNil))))) (bSeq (bOwn 1 (fLst (aCons (fTup (aCons (vF 4) (aCons (vF 3) (aNil)))) (aNil)))) (bSeq (bFor (fI (fSl (vF 0) (oIs (cD (.int 1))) (oNo))) (sN 2) (L_ladder_1)) (bRet (fB tupD (aCons (vP 1) (aNil)))))))
def Ph_ladder : List D → Option D := fnB (N_ladder).length (["swings"] : List Str).length b_ladder
theorem dd_ladder (Z : Fx K mg) (cdv : Value) (A : Around) (outer : List Env) (s : Shared) (H : Hp) (E : XK) (hr : Room (5) (A.deeper (envOfC "ladder" (defScope s_ladder) s.heap.objs.size (He.ga K "ladder") cdv))) :
    ∃ W t, DSs (cxOf CX0 P w K mg base N_ladder "ladder" (defScope s_ladder) (He.ga K "ladder") cdv A outer s H E).nox .fz W (defBody s_ladder) t (b_ladder) := ⟨_, _,
  dss_cons (ds_asg (i := 0) (de_fnK K (ok_need Z) hr (by omega) rfl (da_cons (de_int) (da_cons (de_fnK K (ok_to_swings Z) hr (by omega) rfl (da_cons (de_v 0) (da_nil))) (da_nil)))) sc_ladder.nd) (dss_cons (ds_asgG (de_ixK K (de_v 0) (de_int)) (dg_tK K (n := 2) (dgs_cons (dg_n sc_ladder.nd (i := 3)) (dgs_cons (dg_n sc_ladder.nd (i := 4)) (dgs_nil))))) (dss_cons (ds_own (i := 1) (de_lst (da_cons (de_tup (da_cons (de_v 4) (da_cons (de_v 3) (da_nil)))) (da_nil))) sc_ladder.nd) (dss_cons (ds_for (di_anyK K (de_slK K (de_v 0) (do_is (de_int)) (do_no))) (dg_n sc_ladder.nd (i := 2)) (dss_cons (ds_asg (i := 5) (de_bf cr_lcm cs_lcm rfl Z.k_lcm (da_cons (de_v 3) (da_cons (de_ixK K (de_v 2) (de_int)) (da_nil)))) sc_ladder.nd) (dss_cons (ds_while (N := 400) (dt_w (dw_and (dt_cmp (op_lt_K K hr.u64) ops_lt rfl (de_v 4) (de_v 5)) (dw_and1 (dt_not (dt_truK K (de_fnK K (ok_is_front Z) hr (by omega) rfl (da_cons (de_v 2) (da_cons (de_v 4) (da_nil))))))))) (dss_one (ds_augAdd (i := 4) (de_v 3) sc_ladder.nd))) (dss_cons (ds_if (dt_cmp (op_ge_K K hr.u64) ops_ge rfl (de_v 4) (de_v 5)) (dss_one (ds_ret (de_non))) (dss_nil)) (dss_cons (ds_asg (i := 3) (de_v 5) sc_ladder.nd) (dss_one (ds_app (j := 1) (de_tup (da_cons (de_v 4) (da_cons (de_v 3) (da_nil))))))))))) (dss_one (ds_ret (de_ct (cr_tupK K) cs_tup rfl Z.n_tuple bt_tuple (da_cons (de_p 1) (da_nil))))))))⟩
theorem ok_ladder (Z : Fx K mg) : Ok P w K mg base 6 "ladder" ["swings"] .fz Ph_ladder := by
  obtain ⟨fd, F⟩ := Z.f_ladder
  exact ok_fz (P := P) (w := w) (mg := mg) (base := base) (b := b_ladder) (k := 5) (N := N_ladder) F sc_ladder bi_ladder Z.g_ladder (dd_ladder Z)
abbrev N_is_told : List Str := ["value", "told", "at", "member"]
theorem sc_is_told : FnScope N_is_told ["value", "told"] (defScope s_is_told) := ⟨rfl, rfl, rfl, by decide +kernel, rfl, by decide +kernel, by decide +kernel⟩
def L_is_told_1 (φ : List D → Option D) : Bd := bIf (fNotT (fTr (fB φ (aCons (f2 ixD (vF 0) (vF 2)) (aCons (vF 3) (aNil)))))) (bRet (cD (.bool false))) (bNext)
theorem bi_is_told : ∀ (kV doc pm : Value) (an : Option Addr) (cdv ct : Value) (us : List Value), us.length = (["value", "told"] : List Str).length → bindArgs (PySem.W.fnOf "is_told" "is_told" (defArgs s_is_told) (defBody s_is_told) (defScope s_is_told) .none kV doc pm an cdv ct) ⟨us, []⟩ = pure ((["value", "told"] : List Str).zip us) :=
  fun _ _ _ _ _ _ us hl => match us, hl with | [_, _], _ => rfl
def b_is_told (φ : List D → Option D) : Bd := bSeq (bIf (fT (f2 isND (vF 1) (cD .none))) (bRet (f2 isND (vF 0) (cD .none))) (bNext)) (bSeq (bIf (fTr (fIsi "bool" (vF 1))) (bRet (fAnd (fIsi "bool" (vF 0)) (f2 eqD (vF 0) (vF 1)))) (bNext)) (bSeq (bIf (fTr (fIsi "int" (vF 1))) (bRet (fAnd (fB (Ph_is_int) (aCons (vF 0) (aNil))) (f2 eqD (vF 0) (vF 1)))) (bNext)) (bSeq (bIf (fTr (fIsi "str" (vF 1))) (bRet (fAnd (fIsi "str" (vF 0)) (f2 eqD (vF 0) (vF 1)))) (bNext)) (bSeq (bIf (fOrT (fNotT (fTr (fB (Ph_is_seq) (aCons (vF 0) (aNil))))) (fT (f2 neD (fB lenD (aCons (vF 0) (aNil))) (fB lenD (aCons (vF 1) (aNil)))))) (bRet (cD (.bool false))) (bNext)) (bSeq (bFor (fEnum (vF 1)) (sT 2 (sCons (sN 2) (sCons (sN 3) (sNil)))) ((L_is_told_1 φ))) (bRet (cD (.bool true))))))))
def Ph_is_told : Nat → List D → Option D
  | 0 => fun _ => none
  | n + 1 => fnB (N_is_told).length (["value", "told"] : List Str).length (b_is_told (Ph_is_told n))
theorem dd_is_told (Z : Fx K mg) {φ : List D → Option D} (n : Nat) (ih : Ok P w K mg base (n + 1) "is_told" ["value", "told"] .fz φ) (cdv : Value) (A : Around) (outer : List Env) (s : Shared) (H : Hp) (E : XK) (hr : Room (n + 1) (A.deeper (envOfC "is_told" (defScope s_is_told) s.heap.objs.size (He.ga K "is_told") cdv))) :
    ∃ W t, DSs (cxOf CX0 P w K mg base N_is_told "is_told" (defScope s_is_told) (He.ga K "is_told") cdv A outer s H E).nox .fz W (defBody s_is_told) t (b_is_told φ) := ⟨_, _,
  dss_cons (ds_if (dt_cmp L2.op_isN ops_isN rfl (de_v 1) (de_non)) (dss_one (ds_ret (de_cmp L2.op_isN ops_isN rfl (de_v 0) (de_non)))) (dss_nil)) (dss_cons (ds_if (dt_truK K (de_isiK K rfl rfl Z.n_isinstance bt_isinstance rfl Z.n_bool bt_bool (de_v 1))) (dss_one (ds_ret (de_andK K (de_isiK K rfl rfl Z.n_isinstance bt_isinstance rfl Z.n_bool bt_bool (de_v 0)) (de_one (de_cmp (op_eqDK K hr.u64) ops_eq rfl (de_v 0) (de_v 1)))))) (dss_nil)) (dss_cons (ds_if (dt_truK K (de_isiK K rfl rfl Z.n_isinstance bt_isinstance rfl Z.n_int bt_int (de_v 1))) (dss_one (ds_ret (de_andK K (de_fnK K (ok_is_int Z) hr (by omega) rfl (da_cons (de_v 0) (da_nil))) (de_one (de_cmp (op_eqDK K hr.u64) ops_eq rfl (de_v 0) (de_v 1)))))) (dss_nil)) (dss_cons (ds_if (dt_truK K (de_isiK K rfl rfl Z.n_isinstance bt_isinstance rfl Z.n_str bt_str (de_v 1))) (dss_one (ds_ret (de_andK K (de_isiK K rfl rfl Z.n_isinstance bt_isinstance rfl Z.n_str bt_str (de_v 0)) (de_one (de_cmp (op_eqDK K hr.u64) ops_eq rfl (de_v 0) (de_v 1)))))) (dss_nil)) (dss_cons (ds_if (dt_w (dw_or (dt_not (dt_truK K (de_fnK K (ok_is_seq Z) hr (by omega) rfl (da_cons (de_v 0) (da_nil))))) (dw_or1 (dt_cmp (op_neDK K hr.u64) ops_ne rfl (de_cb (call_lenK K) cs_len rfl Z.n_len bt_len (da_cons (de_v 0) (da_nil))) (de_cb (call_lenK K) cs_len rfl Z.n_len bt_len (da_cons (de_v 1) (da_nil))))))) (dss_one (ds_ret (de_bl))) (dss_nil)) (dss_cons (ds_for (di_enumK K rfl Z.n_enumerate (de_v 1)) (dg_tK K (n := 2) (dgs_cons (dg_n sc_is_told.nd (i := 2)) (dgs_cons (dg_n sc_is_told.nd (i := 3)) (dgs_nil)))) (dss_one (ds_if (dt_not (dt_truK K (de_fnK K ih hr (by omega) rfl (da_cons (de_ixK K (de_v 0) (de_v 2)) (da_cons (de_v 3) (da_nil)))))) (dss_one (ds_ret (de_bl))) (dss_nil)))) (dss_one (ds_ret (de_bl))))))))⟩
theorem ok_is_told (Z : Fx K mg) : ∀ n : Nat, Ok P w K mg base (n + 1) "is_told" ["value", "told"] .fz (Ph_is_told n)
  | 0 => by obtain ⟨fd, F⟩ := Z.f_is_told; exact ok_zero F bi_is_told Z.g_is_told
  | n + 1 => by
    obtain ⟨fd, F⟩ := Z.f_is_told
    have e : n + 1 + 1 = n + 1 + 1 := by omega
    rw [e]
    exact ok_fz (P := P) (w := w) (mg := mg) (base := base) (b := b_is_told (Ph_is_told n)) (k := n + 1) (N := N_is_told) F sc_is_told bi_is_told Z.g_is_told (dd_is_told Z n (ok_is_told Z n))
abbrev N_ladder_holds : List Str := ["swings", "value", "rungs"]
theorem sc_ladder_holds : FnScope N_ladder_holds ["swings", "value"] (defScope s_ladder_holds) := ⟨rfl, rfl, rfl, by decide +kernel, rfl, by decide +kernel, by decide +kernel⟩
theorem bi_ladder_holds : ∀ (kV doc pm : Value) (an : Option Addr) (cdv ct : Value) (us : List Value), us.length = (["swings", "value"] : List Str).length → bindArgs (PySem.W.fnOf "ladder_holds" "ladder_holds" (defArgs s_ladder_holds) (defBody s_ladder_holds) (defScope s_ladder_holds) .none kV doc pm an cdv ct) ⟨us, []⟩ = pure ((["swings", "value"] : List Str).zip us) :=
  fun _ _ _ _ _ _ us hl => match us, hl with | [_, _], _ => rfl
def b_ladder_holds : Bd := bSeq (bAsg 2 (fB (Ph_ladder) (aCons (vF 0) (aNil)))) (bRet (fAnd (f2 notND (vF 2) (cD .none)) (fB (Ph_is_told 4) (aCons (vF 1) (aCons (vF 2) (aNil))))))
def Ph_ladder_holds : List D → Option D := fnB (N_ladder_holds).length (["swings", "value"] : List Str).length b_ladder_holds
theorem dd_ladder_holds (Z : Fx K mg) (cdv : Value) (A : Around) (outer : List Env) (s : Shared) (H : Hp) (E : XK) (hr : Room (6) (A.deeper (envOfC "ladder_holds" (defScope s_ladder_holds) s.heap.objs.size (He.ga K "ladder_holds") cdv))) :
    ∃ W t, DSs (cxOf CX0 P w K mg base N_ladder_holds "ladder_holds" (defScope s_ladder_holds) (He.ga K "ladder_holds") cdv A outer s H E).nox .fz W (defBody s_ladder_holds) t (b_ladder_holds) := ⟨_, _,
  dss_cons (ds_asg (i := 2) (de_fnK K (ok_ladder Z) hr (by omega) rfl (da_cons (de_v 0) (da_nil))) sc_ladder_holds.nd) (dss_one (ds_ret (de_andK K (de_cmp L2.op_notN ops_notN rfl (de_v 2) (de_non)) (de_one (de_fnK K (ok_is_told Z 4) hr (by omega) rfl (da_cons (de_v 1) (da_cons (de_v 2) (da_nil))))))))⟩
theorem ok_ladder_holds (Z : Fx K mg) : Ok P w K mg base 7 "ladder_holds" ["swings", "value"] .fz Ph_ladder_holds := by
  obtain ⟨fd, F⟩ := Z.f_ladder_holds
  exact ok_fz (P := P) (w := w) (mg := mg) (base := base) (b := b_ladder_holds) (k := 6) (N := N_ladder_holds) F sc_ladder_holds bi_ladder_holds Z.g_ladder_holds (dd_ladder_holds Z)
abbrev N_need_int : List Str := ["at", "value"]
theorem sc_need_int : FnScope N_need_int ["at", "value"] (defScope s_need_int) := ⟨rfl, rfl, rfl, by decide +kernel, rfl, by decide +kernel, by decide +kernel⟩
theorem bi_need_int : ∀ (kV doc pm : Value) (an : Option Addr) (cdv ct : Value) (us : List Value), us.length = (["at", "value"] : List Str).length → bindArgs (PySem.W.fnOf "need_int" "need_int" (defArgs s_need_int) (defBody s_need_int) (defScope s_need_int) .none kV doc pm an cdv ct) ⟨us, []⟩ = pure ((["at", "value"] : List Str).zip us) :=
  fun _ _ _ _ _ _ us hl => match us, hl with | [_, _], _ => rfl
def b_need_int : Bd := bSeq (bIf (fNotT (fTr (fB (Ph_is_int) (aCons (vF 1) (aNil))))) (bNever) (bNext)) (bRet (vF 1))
def Ph_need_int : List D → Option D := fnB (N_need_int).length (["at", "value"] : List Str).length b_need_int
theorem dd_need_int (Z : Fx K mg) (cdv : Value) (A : Around) (outer : List Env) (s : Shared) (H : Hp) (E : XK) (hr : Room (1) (A.deeper (envOfC "need_int" (defScope s_need_int) s.heap.objs.size (He.ga K "need_int") cdv))) :
    ∃ W t, DSs (cxOf CX0 P w K mg base N_need_int "need_int" (defScope s_need_int) (He.ga K "need_int") cdv A outer s H E).nox .fz W (defBody s_need_int) t (b_need_int) := ⟨_, _,
  dss_cons (ds_if (dt_not (dt_truK K (de_fnK K (ok_is_int Z) hr (by omega) rfl (da_cons (de_v 1) (da_nil))))) (dss_one (ds_never)) (dss_nil)) (dss_one (ds_ret (de_v 1)))⟩
theorem ok_need_int (Z : Fx K mg) : Ok P w K mg base 2 "need_int" ["at", "value"] .fz Ph_need_int := by
  obtain ⟨fd, F⟩ := Z.f_need_int
  exact ok_fz (P := P) (w := w) (mg := mg) (base := base) (b := b_need_int) (k := 1) (N := N_need_int) F sc_need_int bi_need_int Z.g_need_int (dd_need_int Z)
abbrev N_need_within : List Str := ["at", "value", "low", "high"]
theorem sc_need_within : FnScope N_need_within ["at", "value", "low", "high"] (defScope s_need_within) := ⟨rfl, rfl, rfl, by decide +kernel, rfl, by decide +kernel, by decide +kernel⟩
theorem bi_need_within : ∀ (kV doc pm : Value) (an : Option Addr) (cdv ct : Value) (us : List Value), us.length = (["at", "value", "low", "high"] : List Str).length → bindArgs (PySem.W.fnOf "need_within" "need_within" (defArgs s_need_within) (defBody s_need_within) (defScope s_need_within) .none kV doc pm an cdv ct) ⟨us, []⟩ = pure ((["at", "value", "low", "high"] : List Str).zip us) :=
  fun _ _ _ _ _ _ us hl => match us, hl with | [_, _, _, _], _ => rfl
def b_need_within : Bd := bSeq (bIf (fNotT (fTr (fB (Ph_is_within) (aCons (vF 1) (aCons (vF 2) (aCons (vF 3) (aNil))))))) (bNever) (bNext)) (bRet (vF 1))
def Ph_need_within : List D → Option D := fnB (N_need_within).length (["at", "value", "low", "high"] : List Str).length b_need_within
theorem dd_need_within (Z : Fx K mg) (cdv : Value) (A : Around) (outer : List Env) (s : Shared) (H : Hp) (E : XK) (hr : Room (2) (A.deeper (envOfC "need_within" (defScope s_need_within) s.heap.objs.size (He.ga K "need_within") cdv))) :
    ∃ W t, DSs (cxOf CX0 P w K mg base N_need_within "need_within" (defScope s_need_within) (He.ga K "need_within") cdv A outer s H E).nox .fz W (defBody s_need_within) t (b_need_within) := ⟨_, _,
  dss_cons (ds_if (dt_not (dt_truK K (de_fnK K (ok_is_within Z) hr (by omega) rfl (da_cons (de_v 1) (da_cons (de_v 2) (da_cons (de_v 3) (da_nil))))))) (dss_one (ds_never)) (dss_nil)) (dss_one (ds_ret (de_v 1)))⟩
theorem ok_need_within (Z : Fx K mg) : Ok P w K mg base 3 "need_within" ["at", "value", "low", "high"] .fz Ph_need_within := by
  obtain ⟨fd, F⟩ := Z.f_need_within
  exact ok_fz (P := P) (w := w) (mg := mg) (base := base) (b := b_need_within) (k := 2) (N := N_need_within) F sc_need_within bi_need_within Z.g_need_within (dd_need_within Z)
abbrev N_need_time : List Str := ["at", "value"]
theorem sc_need_time : FnScope N_need_time ["at", "value"] (defScope s_need_time) := ⟨rfl, rfl, rfl, by decide +kernel, rfl, by decide +kernel, by decide +kernel⟩
theorem bi_need_time : ∀ (kV doc pm : Value) (an : Option Addr) (cdv ct : Value) (us : List Value), us.length = (["at", "value"] : List Str).length → bindArgs (PySem.W.fnOf "need_time" "need_time" (defArgs s_need_time) (defBody s_need_time) (defScope s_need_time) .none kV doc pm an cdv ct) ⟨us, []⟩ = pure ((["at", "value"] : List Str).zip us) :=
  fun _ _ _ _ _ _ us hl => match us, hl with | [_, _], _ => rfl
def b_need_time : Bd := bSeq (bAsg 1 (fB (Ph_need_int) (aCons (vF 0) (aCons (vF 1) (aNil))))) (bRet (fB (Ph_need_within) (aCons (vF 0) (aCons (vF 1) (aCons (cD (.int 0)) (aCons (vF 1) (aNil)))))))
def Ph_need_time : List D → Option D := fnB (N_need_time).length (["at", "value"] : List Str).length b_need_time
theorem dd_need_time (Z : Fx K mg) (cdv : Value) (A : Around) (outer : List Env) (s : Shared) (H : Hp) (E : XK) (hr : Room (3) (A.deeper (envOfC "need_time" (defScope s_need_time) s.heap.objs.size (He.ga K "need_time") cdv))) :
    ∃ W t, DSs (cxOf CX0 P w K mg base N_need_time "need_time" (defScope s_need_time) (He.ga K "need_time") cdv A outer s H E).nox .fz W (defBody s_need_time) t (b_need_time) := ⟨_, _,
  dss_cons (ds_asg (i := 1) (de_fnK K (ok_need_int Z) hr (by omega) rfl (da_cons (de_v 0) (da_cons (de_v 1) (da_nil)))) sc_need_time.nd) (dss_one (ds_ret (de_fnK K (ok_need_within Z) hr (by omega) rfl (da_cons (de_v 0) (da_cons (de_v 1) (da_cons (de_int) (da_cons (de_v 1) (da_nil))))))))⟩
theorem ok_need_time (Z : Fx K mg) : Ok P w K mg base 4 "need_time" ["at", "value"] .fz Ph_need_time := by
  obtain ⟨fd, F⟩ := Z.f_need_time
  exact ok_fz (P := P) (w := w) (mg := mg) (base := base) (b := b_need_time) (k := 3) (N := N_need_time) F sc_need_time bi_need_time Z.g_need_time (dd_need_time Z)
abbrev N_how_many : List Str := ["swings", "time"]
theorem sc_how_many : FnScope N_how_many ["swings", "time"] (defScope s_how_many) := ⟨rfl, rfl, rfl, by decide +kernel, rfl, by decide +kernel, by decide +kernel⟩
theorem bi_how_many : ∀ (kV doc pm : Value) (an : Option Addr) (cdv ct : Value) (us : List Value), us.length = (["swings", "time"] : List Str).length → bindArgs (PySem.W.fnOf "how_many" "how_many" (defArgs s_how_many) (defBody s_how_many) (defScope s_how_many) .none kV doc pm an cdv ct) ⟨us, []⟩ = pure ((["swings", "time"] : List Str).zip us) :=
  fun _ _ _ _ _ _ us hl => match us, hl with | [_, _], _ => rfl
def b_how_many : Bd := bSeq (bAsg 0 (fB (Ph_need) (aCons (cD (.int 1)) (aCons (fB (Ph_to_swings) (aCons (vF 0) (aNil))) (aNil))))) (bSeq (bAsg 1 (fB (Ph_need_time) (aCons (cD (.int 2)) (aCons (vF 1) (aNil))))) (bRet (fB (Ph_count_fronts) (aCons (vF 0) (aCons (vF 1) (aNil))))))
def Ph_how_many : List D → Option D := fnB (N_how_many).length (["swings", "time"] : List Str).length b_how_many
theorem dd_how_many (Z : Fx K mg) (cdv : Value) (A : Around) (outer : List Env) (s : Shared) (H : Hp) (E : XK) (hr : Room (5) (A.deeper (envOfC "how_many" (defScope s_how_many) s.heap.objs.size (He.ga K "how_many") cdv))) :
    ∃ W t, DSs (cxOf CX0 P w K mg base N_how_many "how_many" (defScope s_how_many) (He.ga K "how_many") cdv A outer s H E).nox .fz W (defBody s_how_many) t (b_how_many) := ⟨_, _,
  dss_cons (ds_asg (i := 0) (de_fnK K (ok_need Z) hr (by omega) rfl (da_cons (de_int) (da_cons (de_fnK K (ok_to_swings Z) hr (by omega) rfl (da_cons (de_v 0) (da_nil))) (da_nil)))) sc_how_many.nd) (dss_cons (ds_asg (i := 1) (de_fnK K (ok_need_time Z) hr (by omega) rfl (da_cons (de_int) (da_cons (de_v 1) (da_nil)))) sc_how_many.nd) (dss_one (ds_ret (de_fnK K (ok_count_fronts Z) hr (by omega) rfl (da_cons (de_v 0) (da_cons (de_v 1) (da_nil)))))))⟩
theorem ok_how_many (Z : Fx K mg) : Ok P w K mg base 6 "how_many" ["swings", "time"] .fz Ph_how_many := by
  obtain ⟨fd, F⟩ := Z.f_how_many
  exact ok_fz (P := P) (w := w) (mg := mg) (base := base) (b := b_how_many) (k := 5) (N := N_how_many) F sc_how_many bi_how_many Z.g_how_many (dd_how_many Z)
abbrev N_together : List Str := ["swings", "rungs"]
theorem sc_together : FnScope N_together ["swings"] (defScope s_together) := ⟨rfl, rfl, rfl, by decide +kernel, rfl, by decide +kernel, by decide +kernel⟩
theorem bi_together : ∀ (kV doc pm : Value) (an : Option Addr) (cdv ct : Value) (us : List Value), us.length = (["swings"] : List Str).length → bindArgs (PySem.W.fnOf "together" "together" (defArgs s_together) (defBody s_together) (defScope s_together) .none kV doc pm an cdv ct) ⟨us, []⟩ = pure ((["swings"] : List Str).zip us) :=
  fun _ _ _ _ _ _ us hl => match us, hl with | [_], _ => rfl
def b_together : Bd := bSeq (bAsg 1 (fB (Ph_ladder) (aCons (vF 0) (aNil)))) (bRet (fIf (fT (f2 isND (vF 1) (cD .none))) (cD .none) (f2 ixD (f2 ixD (vF 1) (f1 negD (cD (.int 1)))) (cD (.int 0)))))
def Ph_together : List D → Option D := fnB (N_together).length (["swings"] : List Str).length b_together
theorem dd_together (Z : Fx K mg) (cdv : Value) (A : Around) (outer : List Env) (s : Shared) (H : Hp) (E : XK) (hr : Room (6) (A.deeper (envOfC "together" (defScope s_together) s.heap.objs.size (He.ga K "together") cdv))) :
    ∃ W t, DSs (cxOf CX0 P w K mg base N_together "together" (defScope s_together) (He.ga K "together") cdv A outer s H E).nox .fz W (defBody s_together) t (b_together) := ⟨_, _,
  dss_cons (ds_asg (i := 1) (de_fnK K (ok_ladder Z) hr (by omega) rfl (da_cons (de_v 0) (da_nil))) sc_together.nd) (dss_one (ds_ret (de_if (dt_cmp L2.op_isN ops_isN rfl (de_v 1) (de_non)) (de_non) (de_ixK K (de_ixK K (de_v 1) (de_neg (de_int))) (de_int)))))⟩
theorem ok_together (Z : Fx K mg) : Ok P w K mg base 7 "together" ["swings"] .fz Ph_together := by
  obtain ⟨fd, F⟩ := Z.f_together
  exact ok_fz (P := P) (w := w) (mg := mg) (base := base) (b := b_together) (k := 6) (N := N_together) F sc_together bi_together Z.g_together (dd_together Z)
abbrev N_denies_pair : List Str := ["one", "other", "d"]
theorem sc_denies_pair : FnScope N_denies_pair ["one", "other", "d"] (defScope s_denies_pair) := ⟨rfl, rfl, rfl, by decide +kernel, rfl, by decide +kernel, by decide +kernel⟩
theorem bi_denies_pair : ∀ (kV doc pm : Value) (an : Option Addr) (cdv ct : Value) (us : List Value), us.length = (["one", "other", "d"] : List Str).length → bindArgs (PySem.W.fnOf "denies_pair" "denies_pair" (defArgs s_denies_pair) (defBody s_denies_pair) (defScope s_denies_pair) .none kV doc pm an cdv ct) ⟨us, []⟩ = pure ((["one", "other", "d"] : List Str).zip us) :=
  fun _ _ _ _ _ _ us hl => match us, hl with | [_, _, _], _ => rfl
def b_denies_pair : Bd := bRet (f2 neD (f2 modD (f2 ixD (vF 0) (cD (.int 1))) (vF 2)) (f2 modD (f2 ixD (vF 1) (cD (.int 1))) (vF 2)))
def Ph_denies_pair : List D → Option D := fnB (N_denies_pair).length (["one", "other", "d"] : List Str).length b_denies_pair
theorem dd_denies_pair (Z : Fx K mg) (cdv : Value) (A : Around) (outer : List Env) (s : Shared) (H : Hp) (E : XK) (hr : Room (0) (A.deeper (envOfC "denies_pair" (defScope s_denies_pair) s.heap.objs.size (He.ga K "denies_pair") cdv))) :
    ∃ W t, DSs (cxOf CX0 P w K mg base N_denies_pair "denies_pair" (defScope s_denies_pair) (He.ga K "denies_pair") cdv A outer s H E).nox .fz W (defBody s_denies_pair) t (b_denies_pair) := ⟨_, _,
  dss_one (ds_ret (de_cmp (op_neDK K hr.u64) ops_ne rfl (de_op op_modN ops_mod (de_ixK K (de_v 0) (de_int)) (de_v 2)) (de_op op_modN ops_mod (de_ixK K (de_v 1) (de_int)) (de_v 2))))⟩
theorem ok_denies_pair (Z : Fx K mg) : Ok P w K mg base 1 "denies_pair" ["one", "other", "d"] .fz Ph_denies_pair := by
  obtain ⟨fd, F⟩ := Z.f_denies_pair
  exact ok_fz (P := P) (w := w) (mg := mg) (base := base) (b := b_denies_pair) (k := 0) (N := N_denies_pair) F sc_denies_pair bi_denies_pair Z.g_denies_pair (dd_denies_pair Z)
abbrev N_denial : List Str := ["swings", "i", "one", "j", "other", "d"]
theorem sc_denial : FnScope N_denial ["swings"] (defScope s_denial) := ⟨rfl, rfl, rfl, by decide +kernel, rfl, by decide +kernel, by decide +kernel⟩
def L_denial_1 : Bd := bSeq (bAsg 5 (fB gcdD (aCons (f2 ixD (vF 2) (cD (.int 0))) (aCons (f2 ixD (vF 4) (cD (.int 0))) (aNil))))) (bIf (fAndT (fT (f2 ltD (vF 1) (vF 3))) (fTr (fB (Ph_denies_pair) (aCons (vF 2) (aCons (vF 4) (aCons (vF 5) (aNil))))))) (bRet (fTup (aCons (vF 1) (aCons (vF 3) (aCons (vF 5) (aNil)))))) (bNext))
def L_denial_2 : Bd := bFor (fEnum (vF 0)) (sT 2 (sCons (sN 3) (sCons (sN 4) (sNil)))) (L_denial_1)
theorem bi_denial : ∀ (kV doc pm : Value) (an : Option Addr) (cdv ct : Value) (us : List Value), us.length = (["swings"] : List Str).length → bindArgs (PySem.W.fnOf "denial" "denial" (defArgs s_denial) (defBody s_denial) (defScope s_denial) .none kV doc pm an cdv ct) ⟨us, []⟩ = pure ((["swings"] : List Str).zip us) :=
  fun _ _ _ _ _ _ us hl => match us, hl with | [_], _ => rfl
def b_denial : Bd := bSeq (bAsg 0 (fB (Ph_need) (aCons (cD (.int 1)) (aCons (fB (Ph_to_swings) (aCons (vF 0) (aNil))) (aNil))))) (bSeq (bFor (fEnum (vF 0)) (sT 2 (sCons (sN 1) (sCons (sN 2) (sNil)))) (L_denial_2)) (bRet (cD .none)))
def Ph_denial : List D → Option D := fnB (N_denial).length (["swings"] : List Str).length b_denial
theorem dd_denial (Z : Fx K mg) (cdv : Value) (A : Around) (outer : List Env) (s : Shared) (H : Hp) (E : XK) (hr : Room (5) (A.deeper (envOfC "denial" (defScope s_denial) s.heap.objs.size (He.ga K "denial") cdv))) :
    ∃ W t, DSs (cxOf CX0 P w K mg base N_denial "denial" (defScope s_denial) (He.ga K "denial") cdv A outer s H E).nox .fz W (defBody s_denial) t (b_denial) := ⟨_, _,
  dss_cons (ds_asg (i := 0) (de_fnK K (ok_need Z) hr (by omega) rfl (da_cons (de_int) (da_cons (de_fnK K (ok_to_swings Z) hr (by omega) rfl (da_cons (de_v 0) (da_nil))) (da_nil)))) sc_denial.nd) (dss_cons (ds_for (di_enumK K rfl Z.n_enumerate (de_v 0)) (dg_tK K (n := 2) (dgs_cons (dg_n sc_denial.nd (i := 1)) (dgs_cons (dg_n sc_denial.nd (i := 2)) (dgs_nil)))) (dss_one (ds_for (di_enumK K rfl Z.n_enumerate (de_v 0)) (dg_tK K (n := 2) (dgs_cons (dg_n sc_denial.nd (i := 3)) (dgs_cons (dg_n sc_denial.nd (i := 4)) (dgs_nil)))) (dss_cons (ds_asg (i := 5) (de_bf cr_gcd cs_gcd rfl Z.k_gcd (da_cons (de_ixK K (de_v 2) (de_int)) (da_cons (de_ixK K (de_v 4) (de_int)) (da_nil)))) sc_denial.nd) (dss_one (ds_if (dt_w (dw_and (dt_cmp (op_lt_K K hr.u64) ops_lt rfl (de_v 1) (de_v 3)) (dw_and1 (dt_truK K (de_fnK K (ok_denies_pair Z) hr (by omega) rfl (da_cons (de_v 2) (da_cons (de_v 4) (da_cons (de_v 5) (da_nil))))))))) (dss_one (ds_ret (de_tup (da_cons (de_v 1) (da_cons (de_v 3) (da_cons (de_v 5) (da_nil))))))) (dss_nil))))))) (dss_one (ds_ret (de_non))))⟩
theorem ok_denial (Z : Fx K mg) : Ok P w K mg base 6 "denial" ["swings"] .fz Ph_denial := by
  obtain ⟨fd, F⟩ := Z.f_denial
  exact ok_fz (P := P) (w := w) (mg := mg) (base := base) (b := b_denial) (k := 5) (N := N_denial) F sc_denial bi_denial Z.g_denial (dd_denial Z)
abbrev N_pairs : List Str := ["swings", "found", "i", "one", "j", "other"]
theorem sc_pairs : FnScope N_pairs ["swings"] (defScope s_pairs) := ⟨rfl, rfl, rfl, by decide +kernel, rfl, by decide +kernel, by decide +kernel⟩
def L_pairs_1 : Bd := bIf (fAndT (fT (f2 ltD (vF 2) (vF 4))) (fNotT (fTr (fB (Ph_denies_pair) (aCons (vF 3) (aCons (vF 5) (aCons (fB gcdD (aCons (f2 ixD (vF 3) (cD (.int 0))) (aCons (f2 ixD (vF 5) (cD (.int 0))) (aNil)))) (aNil)))))))) (bApp 1 (fTup (aCons (vF 2) (aCons (vF 4) (aNil))))) (bNext)
def L_pairs_2 : Bd := bFor (fEnum (vF 0)) (sT 2 (sCons (sN 4) (sCons (sN 5) (sNil)))) (L_pairs_1)
theorem bi_pairs : ∀ (kV doc pm : Value) (an : Option Addr) (cdv ct : Value) (us : List Value), us.length = (["swings"] : List Str).length → bindArgs (PySem.W.fnOf "pairs" "pairs" (defArgs s_pairs) (defBody s_pairs) (defScope s_pairs) .none kV doc pm an cdv ct) ⟨us, []⟩ = pure ((["swings"] : List Str).zip us) :=
  fun _ _ _ _ _ _ us hl => match us, hl with | [_], _ => rfl
def b_pairs : Bd := bSeq (bAsg 0 (fB (Ph_need) (aCons (cD (.int 1)) (aCons (fB (Ph_to_swings) (aCons (vF 0) (aNil))) (aNil))))) (bSeq (bOwn 1 (fLst (aNil))) (bSeq (bFor (fEnum (vF 0)) (sT 2 (sCons (sN 2) (sCons (sN 3) (sNil)))) (L_pairs_2)) (bRet (fB tupD (aCons (vP 1) (aNil))))))
def Ph_pairs : List D → Option D := fnB (N_pairs).length (["swings"] : List Str).length b_pairs
theorem dd_pairs (Z : Fx K mg) (cdv : Value) (A : Around) (outer : List Env) (s : Shared) (H : Hp) (E : XK) (hr : Room (5) (A.deeper (envOfC "pairs" (defScope s_pairs) s.heap.objs.size (He.ga K "pairs") cdv))) :
    ∃ W t, DSs (cxOf CX0 P w K mg base N_pairs "pairs" (defScope s_pairs) (He.ga K "pairs") cdv A outer s H E).nox .fz W (defBody s_pairs) t (b_pairs) := ⟨_, _,
  dss_cons (ds_asg (i := 0) (de_fnK K (ok_need Z) hr (by omega) rfl (da_cons (de_int) (da_cons (de_fnK K (ok_to_swings Z) hr (by omega) rfl (da_cons (de_v 0) (da_nil))) (da_nil)))) sc_pairs.nd) (dss_cons (ds_own (i := 1) (de_lst (da_nil)) sc_pairs.nd) (dss_cons (ds_for (di_enumK K rfl Z.n_enumerate (de_v 0)) (dg_tK K (n := 2) (dgs_cons (dg_n sc_pairs.nd (i := 2)) (dgs_cons (dg_n sc_pairs.nd (i := 3)) (dgs_nil)))) (dss_one (ds_for (di_enumK K rfl Z.n_enumerate (de_v 0)) (dg_tK K (n := 2) (dgs_cons (dg_n sc_pairs.nd (i := 4)) (dgs_cons (dg_n sc_pairs.nd (i := 5)) (dgs_nil)))) (dss_one (ds_if (dt_w (dw_and (dt_cmp (op_lt_K K hr.u64) ops_lt rfl (de_v 2) (de_v 4)) (dw_and1 (dt_not (dt_truK K (de_fnK K (ok_denies_pair Z) hr (by omega) rfl (da_cons (de_v 3) (da_cons (de_v 5) (da_cons (de_bf cr_gcd cs_gcd rfl Z.k_gcd (da_cons (de_ixK K (de_v 3) (de_int)) (da_cons (de_ixK K (de_v 5) (de_int)) (da_nil)))) (da_nil)))))))))) (dss_one (ds_app (j := 1) (de_tup (da_cons (de_v 2) (da_cons (de_v 4) (da_nil)))))) (dss_nil)))))) (dss_one (ds_ret (de_ct (cr_tupK K) cs_tup rfl Z.n_tuple bt_tuple (da_cons (de_p 1) (da_nil)))))))⟩
theorem ok_pairs (Z : Fx K mg) : Ok P w K mg base 6 "pairs" ["swings"] .fz Ph_pairs := by
  obtain ⟨fd, F⟩ := Z.f_pairs
  exact ok_fz (P := P) (w := w) (mg := mg) (base := base) (b := b_pairs) (k := 5) (N := N_pairs) F sc_pairs bi_pairs Z.g_pairs (dd_pairs Z)
abbrev N_clear : List Str := ["swings", "first", "last", "time"]
theorem sc_clear : FnScope N_clear ["swings", "first", "last"] (defScope s_clear) := ⟨rfl, rfl, rfl, by decide +kernel, rfl, by decide +kernel, by decide +kernel⟩
theorem bi_clear : ∀ (kV doc pm : Value) (an : Option Addr) (cdv ct : Value) (us : List Value), us.length = (["swings", "first", "last"] : List Str).length → bindArgs (PySem.W.fnOf "clear" "clear" (defArgs s_clear) (defBody s_clear) (defScope s_clear) .none kV doc pm an cdv ct) ⟨us, []⟩ = pure ((["swings", "first", "last"] : List Str).zip us) :=
  fun _ _ _ _ _ _ us hl => match us, hl with | [_, _, _], _ => rfl
def b_clear : Bd := bSeq (bAsg 0 (fB (Ph_need) (aCons (cD (.int 1)) (aCons (fB (Ph_to_swings) (aCons (vF 0) (aNil))) (aNil))))) (bSeq (bAsg 1 (fB (Ph_need_within) (aCons (cD (.int 2)) (aCons (vF 1) (aCons (cD (.int 0)) (aCons (cD (.int 9999)) (aNil))))))) (bSeq (bAsg 2 (fB (Ph_need_within) (aCons (cD (.int 3)) (aCons (vF 2) (aCons (cD (.int 0)) (aCons (cD (.int 9999)) (aNil))))))) (bRet (fB tupD (aCons (fLc (fIs rg2D (aCons (vF 1) (aCons (f2 addD (vF 2) (cD (.int 1))) (aNil)))) (sN 3) (fT (f2 eqD (fB (Ph_count_fronts) (aCons (vF 0) (aCons (vF 3) (aNil)))) (cD (.int 0)))) (vF 3) [3]) (aNil))))))
def Ph_clear : List D → Option D := fnB (N_clear).length (["swings", "first", "last"] : List Str).length b_clear
theorem dd_clear (Z : Fx K mg) (cdv : Value) (A : Around) (outer : List Env) (s : Shared) (H : Hp) (E : XK) (hr : Room (5) (A.deeper (envOfC "clear" (defScope s_clear) s.heap.objs.size (He.ga K "clear") cdv))) :
    ∃ W t, DSs (cxOf CX0 P w K mg base N_clear "clear" (defScope s_clear) (He.ga K "clear") cdv A outer s H E).nox .fz W (defBody s_clear) t (b_clear) := ⟨_, _,
  dss_cons (ds_asg (i := 0) (de_fnK K (ok_need Z) hr (by omega) rfl (da_cons (de_int) (da_cons (de_fnK K (ok_to_swings Z) hr (by omega) rfl (da_cons (de_v 0) (da_nil))) (da_nil)))) sc_clear.nd) (dss_cons (ds_asg (i := 1) (de_fnK K (ok_need_within Z) hr (by omega) rfl (da_cons (de_int) (da_cons (de_v 1) (da_cons (de_int) (da_cons (de_int) (da_nil)))))) sc_clear.nd) (dss_cons (ds_asg (i := 2) (de_fnK K (ok_need_within Z) hr (by omega) rfl (da_cons (de_int) (da_cons (de_v 2) (da_cons (de_int) (da_cons (de_int) (da_nil)))))) sc_clear.nd) (dss_one (ds_ret (de_ct (cr_tupK K) cs_tup rfl Z.n_tuple bt_tuple (da_cons (de_lc [("time", 3)] sc_clear.nd (di_rg2 rfl Z.n_range (da_cons (de_v 1) (da_cons (de_op (op_addAK K) ops_addA (de_v 2) (de_int)) (da_nil)))) (blk_of (N := N_clear) (sc := defScope s_clear) (by decide +kernel)) (fun _ _ _ _ _ => dg_n sc_clear.nd (i := 3)) (fun _ _ _ _ _ => dts_one (dt_cmp (op_eqDK K hr.u64) ops_eq rfl (de_fnK K (ok_count_fronts Z) hr (by omega) rfl (da_cons (de_v 0) (da_cons (de_v 3) (da_nil)))) (de_int))) (fun _ _ _ _ _ => de_v 3) (by decide)) (da_nil)))))))⟩
theorem ok_clear (Z : Fx K mg) : Ok P w K mg base 6 "clear" ["swings", "first", "last"] .fz Ph_clear := by
  obtain ⟨fd, F⟩ := Z.f_clear
  exact ok_fz (P := P) (w := w) (mg := mg) (base := base) (b := b_clear) (k := 5) (N := N_clear) F sc_clear bi_clear Z.g_clear (dd_clear Z)
abbrev N__law_listed : List Str := ["value", "one"]
theorem sc__law_listed : FnScope N__law_listed ["value"] (defScope s__law_listed) := ⟨rfl, rfl, rfl, by decide +kernel, rfl, by decide +kernel, by decide +kernel⟩
theorem bi__law_listed : ∀ (kV doc pm : Value) (an : Option Addr) (cdv ct : Value) (us : List Value), us.length = (["value"] : List Str).length → bindArgs (PySem.W.fnOf "_law_listed" "_law_listed" (defArgs s__law_listed) (defBody s__law_listed) (defScope s__law_listed) .none kV doc pm an cdv ct) ⟨us, []⟩ = pure ((["value"] : List Str).zip us) :=
  fun _ _ _ _ _ _ us hl => match us, hl with | [_], _ => rfl
def b__law_listed (φ : List D → Option D) : Bd := bSeq (bIf (fTr (fIsi "tuple" (vF 0))) (bRet (fLc (fI (vF 0)) (sN 1) (fYes) (fB φ (aCons (vF 1) (aNil))) [1])) (bNext)) (bRet (vF 0))
def Ph__law_listed : Nat → List D → Option D
  | 0 => fun _ => none
  | n + 1 => fnB (N__law_listed).length (["value"] : List Str).length (b__law_listed (Ph__law_listed n))
theorem dd__law_listed (Z : Fx K mg) {φ : List D → Option D} (n : Nat) (ih : Ok P w K mg base (n + 0) "_law_listed" ["value"] .fz φ) (cdv : Value) (A : Around) (outer : List Env) (s : Shared) (H : Hp) (E : XK) (hr : Room (n + 0) (A.deeper (envOfC "_law_listed" (defScope s__law_listed) s.heap.objs.size (He.ga K "_law_listed") cdv))) :
    ∃ W t, DSs (cxOf CX0 P w K mg base N__law_listed "_law_listed" (defScope s__law_listed) (He.ga K "_law_listed") cdv A outer s H E).nox .fz W (defBody s__law_listed) t (b__law_listed φ) := ⟨_, _,
  dss_cons (ds_if (dt_truK K (de_isiK K rfl rfl Z.n_isinstance bt_isinstance rfl Z.n_tuple bt_tuple (de_v 0))) (dss_one (ds_ret (DE.frz (de_lc [("one", 1)] sc__law_listed.nd (di_anyK K (de_v 0)) (blk_of (N := N__law_listed) (sc := defScope s__law_listed) (by decide +kernel)) (fun _ _ _ _ _ => dg_n sc__law_listed.nd (i := 1)) (fun _ _ _ _ _ => dts_nil) (fun _ _ _ _ _ => de_fnK K ih hr (by omega) rfl (da_cons (de_v 1) (da_nil))) (by decide))))) (dss_nil)) (dss_one (ds_ret (de_v 0)))⟩
theorem ok__law_listed (Z : Fx K mg) : ∀ n : Nat, Ok P w K mg base (n + 0) "_law_listed" ["value"] .fz (Ph__law_listed n)
  | 0 => by obtain ⟨fd, F⟩ := Z.f__law_listed; exact ok_zero F bi__law_listed Z.g__law_listed
  | n + 1 => by
    obtain ⟨fd, F⟩ := Z.f__law_listed
    have e : n + 1 + 0 = n + 0 + 1 := by omega
    rw [e]
    exact ok_fz (P := P) (w := w) (mg := mg) (base := base) (b := b__law_listed (Ph__law_listed n)) (k := n + 0) (N := N__law_listed) F sc__law_listed bi__law_listed Z.g__law_listed (dd__law_listed Z n (ok__law_listed Z n))
abbrev N_fronts : List Str := ["swing", "first", "last", "time"]
theorem sc_fronts : FnScope N_fronts ["swing", "first", "last"] (defScope s_fronts) := ⟨rfl, rfl, rfl, by decide +kernel, rfl, by decide +kernel, by decide +kernel⟩
theorem bi_fronts : ∀ (kV doc pm : Value) (an : Option Addr) (cdv ct : Value) (us : List Value), us.length = (["swing", "first", "last"] : List Str).length → bindArgs (PySem.W.fnOf "fronts" "fronts" (defArgs s_fronts) (defBody s_fronts) (defScope s_fronts) .none kV doc pm an cdv ct) ⟨us, []⟩ = pure ((["swing", "first", "last"] : List Str).zip us) :=
  fun _ _ _ _ _ _ us hl => match us, hl with | [_, _, _], _ => rfl
def b_fronts : Bd := bSeq (bAsg 0 (fB (Ph_need) (aCons (cD (.int 1)) (aCons (fB (Ph_to_swing) (aCons (vF 0) (aNil))) (aNil))))) (bSeq (bAsg 1 (fB (Ph_need_within) (aCons (cD (.int 2)) (aCons (vF 1) (aCons (cD (.int 0)) (aCons (cD (.int 9999)) (aNil))))))) (bSeq (bAsg 2 (fB (Ph_need_within) (aCons (cD (.int 3)) (aCons (vF 2) (aCons (cD (.int 0)) (aCons (cD (.int 9999)) (aNil))))))) (bRet (fB tupD (aCons (fLc (fIs rg2D (aCons (vF 1) (aCons (f2 addD (vF 2) (cD (.int 1))) (aNil)))) (sN 3) (fTr (fB (Ph_is_front) (aCons (vF 0) (aCons (vF 3) (aNil))))) (vF 3) [3]) (aNil))))))
def Ph_fronts : List D → Option D := fnB (N_fronts).length (["swing", "first", "last"] : List Str).length b_fronts
theorem dd_fronts (Z : Fx K mg) (cdv : Value) (A : Around) (outer : List Env) (s : Shared) (H : Hp) (E : XK) (hr : Room (4) (A.deeper (envOfC "fronts" (defScope s_fronts) s.heap.objs.size (He.ga K "fronts") cdv))) :
    ∃ W t, DSs (cxOf CX0 P w K mg base N_fronts "fronts" (defScope s_fronts) (He.ga K "fronts") cdv A outer s H E).nox .fz W (defBody s_fronts) t (b_fronts) := ⟨_, _,
  dss_cons (ds_asg (i := 0) (de_fnK K (ok_need Z) hr (by omega) rfl (da_cons (de_int) (da_cons (de_fnK K (ok_to_swing Z) hr (by omega) rfl (da_cons (de_v 0) (da_nil))) (da_nil)))) sc_fronts.nd) (dss_cons (ds_asg (i := 1) (de_fnK K (ok_need_within Z) hr (by omega) rfl (da_cons (de_int) (da_cons (de_v 1) (da_cons (de_int) (da_cons (de_int) (da_nil)))))) sc_fronts.nd) (dss_cons (ds_asg (i := 2) (de_fnK K (ok_need_within Z) hr (by omega) rfl (da_cons (de_int) (da_cons (de_v 2) (da_cons (de_int) (da_cons (de_int) (da_nil)))))) sc_fronts.nd) (dss_one (ds_ret (de_ct (cr_tupK K) cs_tup rfl Z.n_tuple bt_tuple (da_cons (de_lc [("time", 3)] sc_fronts.nd (di_rg2 rfl Z.n_range (da_cons (de_v 1) (da_cons (de_op (op_addAK K) ops_addA (de_v 2) (de_int)) (da_nil)))) (blk_of (N := N_fronts) (sc := defScope s_fronts) (by decide +kernel)) (fun _ _ _ _ _ => dg_n sc_fronts.nd (i := 3)) (fun _ _ _ _ _ => dts_one (dt_truK K (de_fnK K (ok_is_front Z) hr (by omega) rfl (da_cons (de_v 0) (da_cons (de_v 3) (da_nil)))))) (fun _ _ _ _ _ => de_v 3) (by decide)) (da_nil)))))))⟩
theorem ok_fronts (Z : Fx K mg) : Ok P w K mg base 5 "fronts" ["swing", "first", "last"] .fz Ph_fronts := by
  obtain ⟨fd, F⟩ := Z.f_fronts
  exact ok_fz (P := P) (w := w) (mg := mg) (base := base) (b := b_fronts) (k := 4) (N := N_fronts) F sc_fronts bi_fronts Z.g_fronts (dd_fronts Z)
abbrev N_front : List Str := ["swing", "time"]
theorem sc_front : FnScope N_front ["swing", "time"] (defScope s_front) := ⟨rfl, rfl, rfl, by decide +kernel, rfl, by decide +kernel, by decide +kernel⟩
theorem bi_front : ∀ (kV doc pm : Value) (an : Option Addr) (cdv ct : Value) (us : List Value), us.length = (["swing", "time"] : List Str).length → bindArgs (PySem.W.fnOf "front" "front" (defArgs s_front) (defBody s_front) (defScope s_front) .none kV doc pm an cdv ct) ⟨us, []⟩ = pure ((["swing", "time"] : List Str).zip us) :=
  fun _ _ _ _ _ _ us hl => match us, hl with | [_, _], _ => rfl
def b_front : Bd := bSeq (bAsg 0 (fB (Ph_need) (aCons (cD (.int 1)) (aCons (fB (Ph_to_swing) (aCons (vF 0) (aNil))) (aNil))))) (bSeq (bAsg 1 (fB (Ph_need_time) (aCons (cD (.int 2)) (aCons (vF 1) (aNil))))) (bRet (fB (Ph_is_front) (aCons (vF 0) (aCons (vF 1) (aNil))))))
def Ph_front : List D → Option D := fnB (N_front).length (["swing", "time"] : List Str).length b_front
theorem dd_front (Z : Fx K mg) (cdv : Value) (A : Around) (outer : List Env) (s : Shared) (H : Hp) (E : XK) (hr : Room (4) (A.deeper (envOfC "front" (defScope s_front) s.heap.objs.size (He.ga K "front") cdv))) :
    ∃ W t, DSs (cxOf CX0 P w K mg base N_front "front" (defScope s_front) (He.ga K "front") cdv A outer s H E).nox .fz W (defBody s_front) t (b_front) := ⟨_, _,
  dss_cons (ds_asg (i := 0) (de_fnK K (ok_need Z) hr (by omega) rfl (da_cons (de_int) (da_cons (de_fnK K (ok_to_swing Z) hr (by omega) rfl (da_cons (de_v 0) (da_nil))) (da_nil)))) sc_front.nd) (dss_cons (ds_asg (i := 1) (de_fnK K (ok_need_time Z) hr (by omega) rfl (da_cons (de_int) (da_cons (de_v 1) (da_nil)))) sc_front.nd) (dss_one (ds_ret (de_fnK K (ok_is_front Z) hr (by omega) rfl (da_cons (de_v 0) (da_cons (de_v 1) (da_nil)))))))⟩
theorem ok_front (Z : Fx K mg) : Ok P w K mg base 5 "front" ["swing", "time"] .fz Ph_front := by
  obtain ⟨fd, F⟩ := Z.f_front
  exact ok_fz (P := P) (w := w) (mg := mg) (base := base) (b := b_front) (k := 4) (N := N_front) F sc_front bi_front Z.g_front (dd_front Z)
abbrev N_to_ints : List Str := ["value", "low", "high", "least", "most", "row", "member"]
theorem sc_to_ints : FnScope N_to_ints ["value", "low", "high", "least", "most"] (defScope s_to_ints) := ⟨rfl, rfl, rfl, by decide +kernel, rfl, by decide +kernel, by decide +kernel⟩
theorem bi_to_ints : ∀ (kV doc pm : Value) (an : Option Addr) (cdv ct : Value) (us : List Value), us.length = (["value", "low", "high", "least", "most"] : List Str).length → bindArgs (PySem.W.fnOf "to_ints" "to_ints" (defArgs s_to_ints) (defBody s_to_ints) (defScope s_to_ints) .none kV doc pm an cdv ct) ⟨us, []⟩ = pure ((["value", "low", "high", "least", "most"] : List Str).zip us) :=
  fun _ _ _ _ _ _ us hl => match us, hl with | [_, _, _, _, _], _ => rfl
def b_to_ints : Bd := bSeq (bAsg 5 (fB (Ph_to_row) (aCons (vF 0) (aCons (vF 3) (aCons (vF 4) (aNil)))))) (bSeq (bIf (fOrT (fT (f2 isND (vF 5) (cD .none))) (fNotT (fTr (fB allD (aCons (fLc (fI (vF 5)) (sN 6) (fYes) (fB (Ph_is_within) (aCons (vF 6) (aCons (vF 1) (aCons (vF 2) (aNil))))) [6]) (aNil)))))) (bRet (cD .none)) (bNext)) (bRet (vF 5)))
def Ph_to_ints : List D → Option D := fnB (N_to_ints).length (["value", "low", "high", "least", "most"] : List Str).length b_to_ints
theorem dd_to_ints (Z : Fx K mg) (cdv : Value) (A : Around) (outer : List Env) (s : Shared) (H : Hp) (E : XK) (hr : Room (2) (A.deeper (envOfC "to_ints" (defScope s_to_ints) s.heap.objs.size (He.ga K "to_ints") cdv))) :
    ∃ W t, DSs (cxOf CX0 P w K mg base N_to_ints "to_ints" (defScope s_to_ints) (He.ga K "to_ints") cdv A outer s H E).nox .fz W (defBody s_to_ints) t (b_to_ints) := ⟨_, _,
  dss_cons (ds_asg (i := 5) (de_fnK K (ok_to_row Z) hr (by omega) rfl (da_cons (de_v 0) (da_cons (de_v 3) (da_cons (de_v 4) (da_nil))))) sc_to_ints.nd) (dss_cons (ds_if (dt_w (dw_or (dt_cmp L2.op_isN ops_isN rfl (de_v 5) (de_non)) (dw_or1 (dt_not (dt_truK K (de_cb (cr_allK K rfl) cs_all rfl Z.n_all bt_all (da_cons (de_lc [("member", 6)] sc_to_ints.nd (di_anyK K (de_v 5)) (blk_of (N := N_to_ints) (sc := defScope s_to_ints) (by decide +kernel)) (fun _ _ _ _ _ => dg_n sc_to_ints.nd (i := 6)) (fun _ _ _ _ _ => dts_nil) (fun _ _ _ _ _ => de_fnK K (ok_is_within Z) hr (by omega) rfl (da_cons (de_v 6) (da_cons (de_v 1) (da_cons (de_v 2) (da_nil))))) (by decide)) (da_nil)))))))) (dss_one (ds_ret (de_non))) (dss_nil)) (dss_one (ds_ret (de_v 5))))⟩
theorem ok_to_ints (Z : Fx K mg) : Ok P w K mg base 3 "to_ints" ["value", "low", "high", "least", "most"] .fz Ph_to_ints := by
  obtain ⟨fd, F⟩ := Z.f_to_ints
  exact ok_fz (P := P) (w := w) (mg := mg) (base := base) (b := b_to_ints) (k := 2) (N := N_to_ints) F sc_to_ints bi_to_ints Z.g_to_ints (dd_to_ints Z)
abbrev N_denial_holds : List Str := ["swings", "value", "told", "i", "j", "d"]
theorem sc_denial_holds : FnScope N_denial_holds ["swings", "value"] (defScope s_denial_holds) := ⟨rfl, rfl, rfl, by decide +kernel, rfl, by decide +kernel, by decide +kernel⟩
theorem bi_denial_holds : ∀ (kV doc pm : Value) (an : Option Addr) (cdv ct : Value) (us : List Value), us.length = (["swings", "value"] : List Str).length → bindArgs (PySem.W.fnOf "denial_holds" "denial_holds" (defArgs s_denial_holds) (defBody s_denial_holds) (defScope s_denial_holds) .none kV doc pm an cdv ct) ⟨us, []⟩ = pure ((["swings", "value"] : List Str).zip us) :=
  fun _ _ _ _ _ _ us hl => match us, hl with | [_, _], _ => rfl
def b_denial_holds : Bd := bSeq (bAsg 0 (fB (Ph_need) (aCons (cD (.int 1)) (aCons (fB (Ph_to_swings) (aCons (vF 0) (aNil))) (aNil))))) (bSeq (bAsg 2 (fB (Ph_to_ints) (aCons (vF 1) (aCons (cD (.int 0)) (aCons (cD (.int 60)) (aCons (cD (.int 3)) (aCons (cD (.int 3)) (aNil)))))))) (bSeq (bIf (fT (f2 isND (vF 2) (cD .none))) (bRet (cD (.bool false))) (bNext)) (bSeq (bAsgG (vF 2) (sT 3 (sCons (sN 3) (sCons (sN 4) (sCons (sN 5) (sNil)))))) (bSeq (bIf (fOrT (fNotT (fT (f3 ltD ltD (vF 3) (vF 4) (fB lenD (aCons (vF 0) (aNil)))))) (fT (f2 ltD (vF 5) (cD (.int 2))))) (bRet (cD (.bool false))) (bNext)) (bSeq (bIf (fOrT (fT (f2 neD (f2 modD (f2 ixD (f2 ixD (vF 0) (vF 3)) (cD (.int 0))) (vF 5)) (cD (.int 0)))) (fT (f2 neD (f2 modD (f2 ixD (f2 ixD (vF 0) (vF 4)) (cD (.int 0))) (vF 5)) (cD (.int 0))))) (bRet (cD (.bool false))) (bNext)) (bRet (fB (Ph_denies_pair) (aCons (f2 ixD (vF 0) (vF 3)) (aCons (f2 ixD (vF 0) (vF 4)) (aCons (vF 5) (aNil)))))))))))
def Ph_denial_holds : List D → Option D := fnB (N_denial_holds).length (["swings", "value"] : List Str).length b_denial_holds
theorem dd_denial_holds (Z : Fx K mg) (cdv : Value) (A : Around) (outer : List Env) (s : Shared) (H : Hp) (E : XK) (hr : Room (5) (A.deeper (envOfC "denial_holds" (defScope s_denial_holds) s.heap.objs.size (He.ga K "denial_holds") cdv))) :
    ∃ W t, DSs (cxOf CX0 P w K mg base N_denial_holds "denial_holds" (defScope s_denial_holds) (He.ga K "denial_holds") cdv A outer s H E).nox .fz W (defBody s_denial_holds) t (b_denial_holds) := ⟨_, _,
  dss_cons (ds_asg (i := 0) (de_fnK K (ok_need Z) hr (by omega) rfl (da_cons (de_int) (da_cons (de_fnK K (ok_to_swings Z) hr (by omega) rfl (da_cons (de_v 0) (da_nil))) (da_nil)))) sc_denial_holds.nd) (dss_cons (ds_asg (i := 2) (de_fnK K (ok_to_ints Z) hr (by omega) rfl (da_cons (de_v 1) (da_cons (de_int) (da_cons (de_int) (da_cons (de_int) (da_cons (de_int) (da_nil))))))) sc_denial_holds.nd) (dss_cons (ds_if (dt_cmp L2.op_isN ops_isN rfl (de_v 2) (de_non)) (dss_one (ds_ret (de_bl))) (dss_nil)) (dss_cons (ds_asgG (de_v 2) (dg_tK K (n := 3) (dgs_cons (dg_n sc_denial_holds.nd (i := 3)) (dgs_cons (dg_n sc_denial_holds.nd (i := 4)) (dgs_cons (dg_n sc_denial_holds.nd (i := 5)) (dgs_nil)))))) (dss_cons (ds_if (dt_w (dw_or (dt_not (dt_chain (op_lt_K K hr.u64) (op_lt_K K hr.u64) ops_lt ops_lt (de_v 3) (de_v 4) (de_cb (call_lenK K) cs_len rfl Z.n_len bt_len (da_cons (de_v 0) (da_nil))))) (dw_or1 (dt_cmp (op_lt_K K hr.u64) ops_lt rfl (de_v 5) (de_int))))) (dss_one (ds_ret (de_bl))) (dss_nil)) (dss_cons (ds_if (dt_w (dw_or (dt_cmp (op_neDK K hr.u64) ops_ne rfl (de_op op_modN ops_mod (de_ixK K (de_ixK K (de_v 0) (de_v 3)) (de_int)) (de_v 5)) (de_int)) (dw_or1 (dt_cmp (op_neDK K hr.u64) ops_ne rfl (de_op op_modN ops_mod (de_ixK K (de_ixK K (de_v 0) (de_v 4)) (de_int)) (de_v 5)) (de_int))))) (dss_one (ds_ret (de_bl))) (dss_nil)) (dss_one (ds_ret (de_fnK K (ok_denies_pair Z) hr (by omega) rfl (da_cons (de_ixK K (de_v 0) (de_v 3)) (da_cons (de_ixK K (de_v 0) (de_v 4)) (da_cons (de_v 5) (da_nil))))))))))))⟩
theorem ok_denial_holds (Z : Fx K mg) : Ok P w K mg base 6 "denial_holds" ["swings", "value"] .fz Ph_denial_holds := by
  obtain ⟨fd, F⟩ := Z.f_denial_holds
  exact ok_fz (P := P) (w := w) (mg := mg) (base := base) (b := b_denial_holds) (k := 5) (N := N_denial_holds) F sc_denial_holds bi_denial_holds Z.g_denial_holds (dd_denial_holds Z)
abbrev N_law : List Str := ["script", "swings", "rows", "whole", "denials", "meets", "i", "first", "last", "times", "swing", "counts", "every", "period", "phase", "k", "wrongs", "j", "d", "time", "due", "wrong"]
theorem sc_law : FnScope N_law ["script"] (defScope s_law) := ⟨rfl, rfl, rfl, by decide +kernel, rfl, by decide +kernel, by decide +kernel⟩
def L_law_1 : Bd := bAsg 3 (fB (Ph__law_lcm) (aCons (vF 3) (aCons (vF 13) (aNil))))
def L_law_2 : Bd := bSeq (bAsg 18 (fB (Ph__law_gcd) (aCons (f2 ixD (f2 ixD (vF 1) (vF 6)) (cD (.int 0))) (aCons (f2 ixD (f2 ixD (vF 1) (vF 17)) (cD (.int 0))) (aNil))))) (bIf (fT (f2 neD (f2 modD (f2 subD (f2 ixD (f2 ixD (vF 1) (vF 6)) (cD (.int 1))) (f2 ixD (f2 ixD (vF 1) (vF 17)) (cD (.int 1)))) (vF 18)) (cD (.int 0)))) (bApp 4 (fTup (aCons (vF 6) (aCons (vF 17) (aCons (vF 18) (aNil)))))) (bApp 5 (fTup (aCons (vF 6) (aCons (vF 17) (aNil))))))
def L_law_3 : Bd := bFor (fIs rg2D (aCons (f2 addD (vF 6) (cD (.int 1))) (aCons (fB lenD (aCons (vF 1) (aNil))) (aNil)))) (sN 17) (L_law_2)
def L_law_4 : Bd := bSeq (bAsg 20 (fAnd (f2 ltD (vF 6) (vF 17)) (fAnd (f2 gtD (vF 18) (cD (.int 1))) (fAnd (f2 eqD (f2 modD (f2 ixD (f2 ixD (vF 1) (vF 6)) (cD (.int 0))) (vF 18)) (cD (.int 0))) (fAnd (f2 eqD (f2 modD (f2 ixD (f2 ixD (vF 1) (vF 17)) (cD (.int 0))) (vF 18)) (cD (.int 0))) (f2 neD (f2 modD (f2 subD (f2 ixD (f2 ixD (vF 1) (vF 6)) (cD (.int 1))) (f2 ixD (f2 ixD (vF 1) (vF 17)) (cD (.int 1)))) (vF 18)) (cD (.int 0)))))))) (bIf (fNotT (fTr (fB (Ph__law_same 4) (aCons (fB (Ph_denial_holds) (aCons (vF 1) (aCons (fLst (aCons (vF 6) (aCons (vF 17) (aCons (vF 18) (aNil))))) (aNil)))) (aCons (vF 20) (aNil)))))) (bRet (cD (.bool false))) (bNext))
def L_law_5 : Bd := bFor (fIs rg2D (aCons (cD (.int 1)) (aCons (cD (.int 7)) (aNil)))) (sN 18) (L_law_4)
def L_law_6 : Bd := bFor (fIs rg1D (aCons (fB lenD (aCons (vF 1) (aNil))) (aNil))) (sN 17) (L_law_5)
def L_law_7 : Bd := bIf (fOrT (fNotT (fTr (fB (Ph__law_same 4) (aCons (fB (Ph_fronts) (aCons (vF 10) (aCons (vF 7) (aCons (vF 8) (aNil))))) (aCons (fB tupD (aCons (fLc (fI (vF 9)) (sN 19) (fT (f2 eqD (f2 modD (vF 19) (f2 ixD (vF 10) (cD (.int 0)))) (f2 ixD (vF 10) (cD (.int 1))))) (vF 19) [19]) (aNil))) (aNil)))))) (fNotT (fTr (fB (Ph__law_same 4) (aCons (fB (Ph_front) (aCons (fB (Ph__law_listed 4) (aCons (vF 10) (aNil))) (aCons (vF 7) (aNil)))) (aCons (f2 eqD (f2 modD (vF 7) (f2 ixD (vF 10) (cD (.int 0)))) (f2 ixD (vF 10) (cD (.int 1)))) (aNil))))))) (bRet (cD (.bool false))) (bNext)
theorem bi_law : ∀ (kV doc pm : Value) (an : Option Addr) (cdv ct : Value) (us : List Value), us.length = (["script"] : List Str).length → bindArgs (PySem.W.fnOf "law" "law" (defArgs s_law) (defBody s_law) (defScope s_law) .none kV doc pm an cdv ct) ⟨us, []⟩ = pure ((["script"] : List Str).zip us) :=
  fun _ _ _ _ _ _ us hl => match us, hl with | [_], _ => rfl
def b_law : Bd := bSeq (bAsg 1 (fB (Ph__law_swings) (aCons (fB (Ph__law_numbers) (aCons (vF 0) (aCons (cD (.int 0)) (aCons (f2 addD (cD (.int 1)) (f2 modD (fB (Ph__law_cell) (aCons (vF 0) (aCons (cD (.int 1)) (aNil)))) (cD (.int 4)))) (aNil))))) (aCons (f2 eqD (f2 modD (fB (Ph__law_cell) (aCons (vF 0) (aCons (cD (.int 2)) (aNil)))) (cD (.int 5))) (cD (.int 0))) (aNil))))) (bSeq (bAsg 2 (fB (Ph__law_ladder) (aCons (vF 1) (aNil)))) (bSeq (bIf (fOrT (fNotT (fTr (fB (Ph__law_same 4) (aCons (fB (Ph_ladder) (aCons (fB (Ph__law_listed 4) (aCons (vF 1) (aNil))) (aNil))) (aCons (vF 2) (aNil)))))) (fNotT (fTr (fB (Ph__law_same 4) (aCons (fB (Ph_together) (aCons (vF 1) (aNil))) (aCons (fIf (fT (f2 notND (vF 2) (cD .none))) (f2 ixD (f2 ixD (vF 2) (f1 negD (cD (.int 1)))) (cD (.int 0))) (cD .none)) (aNil))))))) (bRet (cD (.bool false))) (bNext)) (bSeq (bAsg 3 (cD (.int 1))) (bSeq (bFor (fI (vF 1)) (sT 2 (sCons (sN 13) (sCons (sN 14) (sNil)))) (L_law_1)) (bSeq (bIf (fT (f2 neD (fB (Ph_again) (aCons (vF 1) (aNil))) (vF 3))) (bRet (cD (.bool false))) (bNext)) (bSeq (bIf (fT (f2 notND (vF 2) (cD .none))) (bSeq (bAsg 15 (f2 modD (fB (Ph__law_cell) (aCons (vF 0) (aCons (cD (.int 3)) (aNil)))) (fB lenD (aCons (vF 2) (aNil))))) (bSeq (bAsg 16 (fLst (aCons (cD (.int 7)) (aCons (fSl (vF 2) (oIs (cD (.int 1))) (oNo)) (aCons (f2 addD (f2 addD (fSl (vF 2) (oNo) (oIs (vF 15))) (fTup (aCons (fTup (aCons (f2 addD (f2 ixD (f2 ixD (vF 2) (vF 15)) (cD (.int 0))) (cD (.int 1))) (aCons (f2 ixD (f2 ixD (vF 2) (vF 15)) (cD (.int 1))) (aNil)))) (aNil)))) (fSl (vF 2) (oIs (f2 addD (vF 15) (cD (.int 1)))) (oNo))) (aCons (f2 addD (f2 addD (fSl (vF 2) (oNo) (oIs (vF 15))) (fTup (aCons (fTup (aCons (f2 ixD (f2 ixD (vF 2) (vF 15)) (cD (.int 0))) (aCons (f2 addD (f2 ixD (f2 ixD (vF 2) (vF 15)) (cD (.int 1))) (cD (.int 1))) (aNil)))) (aNil)))) (fSl (vF 2) (oIs (f2 addD (vF 15) (cD (.int 1)))) (oNo))) (aCons (f2 addD (f2 addD (fSl (vF 2) (oNo) (oIs (vF 15))) (fTup (aCons (fTup (aCons (f2 addD (f2 ixD (f2 ixD (vF 2) (vF 15)) (cD (.int 0))) (f2 ixD (f2 ixD (vF 2) (vF 15)) (cD (.int 1)))) (aCons (f2 ixD (f2 ixD (vF 2) (vF 15)) (cD (.int 1))) (aNil)))) (aNil)))) (fSl (vF 2) (oIs (f2 addD (vF 15) (cD (.int 1)))) (oNo))) (aNil)))))))) (bIf (fOrT (fT (f2 notBD (fB (Ph_ladder_holds) (aCons (vF 1) (aCons (fB (Ph__law_listed 4) (aCons (vF 2) (aNil))) (aNil)))) (cD (.bool true)))) (fT (f2 neD (fLc (fI (vF 16)) (sN 21) (fT (f2 notBD (fB (Ph_ladder_holds) (aCons (vF 1) (aCons (vF 21) (aNil)))) (cD (.bool false)))) (vF 21) [21]) (fLst (aNil))))) (bRet (cD (.bool false))) (bNext)))) (bIf (fT (f2 notBD (fB (Ph_ladder_holds) (aCons (vF 1) (aCons (f2 repTD (fTup (aCons (fTup (aCons (cD (.int 0)) (aCons (cD (.int 1)) (aNil)))) (aNil))) (fB lenD (aCons (vF 1) (aNil)))) (aNil)))) (cD (.bool false)))) (bRet (cD (.bool false))) (bNext))) (bSeq (bOwn 4 (fLst (aNil))) (bSeq (bOwn 5 (fLst (aNil))) (bSeq (bFor (fIs rg1D (aCons (fB lenD (aCons (vF 1) (aNil))) (aNil))) (sN 6) (L_law_3)) (bSeq (bIf (fOrT (fT (f2 neD (f2 eqD (vP 4) (fLst (aNil))) (f2 notND (vF 2) (cD .none)))) (fOrT (fNotT (fTr (fB (Ph__law_same 4) (aCons (fB (Ph_denial) (aCons (vF 1) (aNil))) (aCons (fIf (fT (f2 neD (vP 4) (fLst (aNil)))) (f2 ixD (vP 4) (cD (.int 0))) (cD .none)) (aNil)))))) (fNotT (fTr (fB (Ph__law_same 4) (aCons (fB (Ph_pairs) (aCons (vF 1) (aNil))) (aCons (fB tupD (aCons (vP 5) (aNil))) (aNil)))))))) (bRet (cD (.bool false))) (bNext)) (bSeq (bFor (fIs rg1D (aCons (fB lenD (aCons (vF 1) (aNil))) (aNil))) (sN 6) (L_law_6)) (bSeq (bAsg 7 (f2 modD (fB (Ph__law_cell) (aCons (vF 0) (aCons (cD (.int 4)) (aNil)))) (cD (.int 200)))) (bSeq (bAsg 8 (f2 addD (vF 7) (f2 modD (fB (Ph__law_cell) (aCons (vF 0) (aCons (cD (.int 5)) (aNil)))) (cD (.int 60))))) (bSeq (bAsg 9 (f2 lr2D (vF 7) (f2 addD (vF 8) (cD (.int 1))))) (bSeq (bFor (fI (vF 1)) (sN 10) (L_law_7)) (bSeq (bAsg 11 (fLc (fI (vF 9)) (sN 19) (fYes) (fB lenD (aCons (fLc (fI (vF 1)) (sN 10) (fT (f2 eqD (f2 modD (vF 19) (f2 ixD (vF 10) (cD (.int 0)))) (f2 ixD (vF 10) (cD (.int 1))))) (vF 10) [10]) (aNil))) [19])) (bSeq (bIf (fOrT (fNotT (fTr (fB (Ph__law_same 4) (aCons (fB (Ph_clear) (aCons (vF 1) (aCons (vF 7) (aCons (vF 8) (aNil))))) (aCons (fB tupD (aCons (fLc (fIs rg1D (aCons (fB lenD (aCons (vF 9) (aNil))) (aNil))) (sN 15) (fT (f2 eqD (f2 ixD (vF 11) (vF 15)) (cD (.int 0)))) (f2 ixD (vF 9) (vF 15)) [15]) (aNil))) (aNil)))))) (fT (f2 neD (fB (Ph_how_many) (aCons (vF 1) (aCons (vF 7) (aNil)))) (f2 ixD (vF 11) (cD (.int 0)))))) (bRet (cD (.bool false))) (bNext)) (bSeq (bIf (fT (f2 gtD (vF 3) (cD (.int 3000)))) (bRet (cD (.bool true))) (bNext)) (bSeq (bAsg 12 (fLc (fIs rg1D (aCons (vF 3) (aNil))) (sN 19) (fYes) (fB lenD (aCons (fLc (fI (vF 1)) (sN 10) (fT (f2 eqD (f2 modD (vF 19) (f2 ixD (vF 10) (cD (.int 0)))) (f2 ixD (vF 10) (cD (.int 1))))) (vF 10) [10]) (aNil))) [19])) (bRet (fB (Ph__law_same 4) (aCons (fB (Ph_most) (aCons (vF 1) (aNil))) (aCons (fTup (aCons (fB maxA (aCons (vF 12) (aNil))) (aCons (f2 idxD (vF 12) (fB maxA (aCons (vF 12) (aNil)))) (aNil)))) (aNil))))))))))))))))))))))))
def Ph_law : List D → Option D := fnB (N_law).length (["script"] : List Str).length b_law
theorem dd_law (Z : Fx K mg) (cdv : Value) (A : Around) (outer : List Env) (s : Shared) (H : Hp) (E : XK) (hr : Room (7) (A.deeper (envOfC "law" (defScope s_law) s.heap.objs.size (He.ga K "law") cdv))) :
    ∃ W t, DSs (cxOf CX0 P w K mg base N_law "law" (defScope s_law) (He.ga K "law") cdv A outer s H E).nox .fz W (defBody s_law) t (b_law) := ⟨_, _,
  dss_cons (ds_asg (i := 1) (de_fnK K (ok__law_swings Z) hr (by omega) rfl (da_cons (DE.frz (de_fnK K (ok__law_numbers Z) hr (by omega) rfl (da_cons (de_v 0) (da_cons (de_int) (da_cons (de_op (op_addAK K) ops_addA (de_int) (de_op op_modN ops_mod (de_fnK K (ok__law_cell Z) hr (by omega) rfl (da_cons (de_v 0) (da_cons (de_int) (da_nil)))) (de_int))) (da_nil)))))) (da_cons (de_cmp (op_eqDK K hr.u64) ops_eq rfl (de_op op_modN ops_mod (de_fnK K (ok__law_cell Z) hr (by omega) rfl (da_cons (de_v 0) (da_cons (de_int) (da_nil)))) (de_int)) (de_int)) (da_nil)))) sc_law.nd) (dss_cons (ds_asg (i := 2) (de_fnK K (ok__law_ladder Z) hr (by omega) rfl (da_cons (de_v 1) (da_nil))) sc_law.nd) (dss_cons (ds_if (dt_w (dw_or (dt_not (dt_truK K (de_fnK K (ok__law_same Z 4) hr (by omega) rfl (da_cons (de_fnK K (ok_ladder Z) hr (by omega) rfl (da_cons (de_fnK K (ok__law_listed Z 4) hr (by omega) rfl (da_cons (de_v 1) (da_nil))) (da_nil))) (da_cons (de_v 2) (da_nil)))))) (dw_or1 (dt_not (dt_truK K (de_fnK K (ok__law_same Z 4) hr (by omega) rfl (da_cons (de_fnK K (ok_together Z) hr (by omega) rfl (da_cons (de_v 1) (da_nil))) (da_cons (de_if (dt_cmp L2.op_notN ops_notN rfl (de_v 2) (de_non)) (de_ixK K (de_ixK K (de_v 2) (de_neg (de_int))) (de_int)) (de_non)) (da_nil))))))))) (dss_one (ds_ret (de_bl))) (dss_nil)) (dss_cons (ds_asg (i := 3) (de_int) sc_law.nd) (dss_cons (ds_for (di_anyK K (de_v 1)) (dg_tK K (n := 2) (dgs_cons (dg_n sc_law.nd (i := 13)) (dgs_cons (dg_n sc_law.nd (i := 14)) (dgs_nil)))) (dss_one (ds_asg (i := 3) (de_fnK K (ok__law_lcm Z) hr (by omega) rfl (da_cons (de_v 3) (da_cons (de_v 13) (da_nil)))) sc_law.nd))) (dss_cons (ds_if (dt_cmp (op_neDK K hr.u64) ops_ne rfl (de_fnK K (ok_again Z) hr (by omega) rfl (da_cons (de_v 1) (da_nil))) (de_v 3)) (dss_one (ds_ret (de_bl))) (dss_nil)) (dss_cons (ds_if (dt_cmp L2.op_notN ops_notN rfl (de_v 2) (de_non)) (dss_cons (ds_asg (i := 15) (de_op op_modN ops_mod (de_fnK K (ok__law_cell Z) hr (by omega) rfl (da_cons (de_v 0) (da_cons (de_int) (da_nil)))) (de_cb (call_lenK K) cs_len rfl Z.n_len bt_len (da_cons (de_v 2) (da_nil)))) sc_law.nd) (dss_cons (ds_asg (i := 16) (DE.frz (de_lst (da_cons (de_int) (da_cons (de_slK K (de_v 2) (do_is (de_int)) (do_no)) (da_cons (de_op (op_addAK K) ops_addA (de_op (op_addAK K) ops_addA (de_slK K (de_v 2) (do_no) (do_is (de_v 15))) (de_tup (da_cons (de_tup (da_cons (de_op (op_addAK K) ops_addA (de_ixK K (de_ixK K (de_v 2) (de_v 15)) (de_int)) (de_int)) (da_cons (de_ixK K (de_ixK K (de_v 2) (de_v 15)) (de_int)) (da_nil)))) (da_nil)))) (de_slK K (de_v 2) (do_is (de_op (op_addAK K) ops_addA (de_v 15) (de_int))) (do_no))) (da_cons (de_op (op_addAK K) ops_addA (de_op (op_addAK K) ops_addA (de_slK K (de_v 2) (do_no) (do_is (de_v 15))) (de_tup (da_cons (de_tup (da_cons (de_ixK K (de_ixK K (de_v 2) (de_v 15)) (de_int)) (da_cons (de_op (op_addAK K) ops_addA (de_ixK K (de_ixK K (de_v 2) (de_v 15)) (de_int)) (de_int)) (da_nil)))) (da_nil)))) (de_slK K (de_v 2) (do_is (de_op (op_addAK K) ops_addA (de_v 15) (de_int))) (do_no))) (da_cons (de_op (op_addAK K) ops_addA (de_op (op_addAK K) ops_addA (de_slK K (de_v 2) (do_no) (do_is (de_v 15))) (de_tup (da_cons (de_tup (da_cons (de_op (op_addAK K) ops_addA (de_ixK K (de_ixK K (de_v 2) (de_v 15)) (de_int)) (de_ixK K (de_ixK K (de_v 2) (de_v 15)) (de_int))) (da_cons (de_ixK K (de_ixK K (de_v 2) (de_v 15)) (de_int)) (da_nil)))) (da_nil)))) (de_slK K (de_v 2) (do_is (de_op (op_addAK K) ops_addA (de_v 15) (de_int))) (do_no))) (da_nil)))))))) sc_law.nd) (dss_one (ds_if (dt_w (dw_or (dt_cmp op_notBl ops_notB rfl (de_fnK K (ok_ladder_holds Z) hr (by omega) rfl (da_cons (de_v 1) (da_cons (de_fnK K (ok__law_listed Z 4) hr (by omega) rfl (da_cons (de_v 2) (da_nil))) (da_nil)))) (de_bl)) (dw_or1 (dt_cmp (op_neDK K hr.u64) ops_ne rfl (de_lc [("wrong", 21)] sc_law.nd (di_anyK K (de_v 16)) (blk_of (N := N_law) (sc := defScope s_law) (by decide +kernel)) (fun _ _ _ _ _ => dg_n sc_law.nd (i := 21)) (fun _ _ _ _ _ => dts_one (dt_cmp op_notBl ops_notB rfl (de_fnK K (ok_ladder_holds Z) hr (by omega) rfl (da_cons (de_v 1) (da_cons (de_v 21) (da_nil)))) (de_bl))) (fun _ _ _ _ _ => de_v 21) (by decide)) (de_lst (da_nil)))))) (dss_one (ds_ret (de_bl))) (dss_nil))))) (dss_one (ds_if (dt_cmp op_notBl ops_notB rfl (de_fnK K (ok_ladder_holds Z) hr (by omega) rfl (da_cons (de_v 1) (da_cons (de_op (op_repFK K) ops_repT (de_tup (da_cons (de_tup (da_cons (de_int) (da_cons (de_int) (da_nil)))) (da_nil))) (de_cb (call_lenK K) cs_len rfl Z.n_len bt_len (da_cons (de_v 1) (da_nil)))) (da_nil)))) (de_bl)) (dss_one (ds_ret (de_bl))) (dss_nil)))) (dss_cons (ds_own (i := 4) (de_lst (da_nil)) sc_law.nd) (dss_cons (ds_own (i := 5) (de_lst (da_nil)) sc_law.nd) (dss_cons (ds_for (di_rg1 rfl Z.n_range (da_cons (de_cb (call_lenK K) cs_len rfl Z.n_len bt_len (da_cons (de_v 1) (da_nil))) (da_nil))) (dg_n sc_law.nd (i := 6)) (dss_one (ds_for (di_rg2 rfl Z.n_range (da_cons (de_op (op_addAK K) ops_addA (de_v 6) (de_int)) (da_cons (de_cb (call_lenK K) cs_len rfl Z.n_len bt_len (da_cons (de_v 1) (da_nil))) (da_nil)))) (dg_n sc_law.nd (i := 17)) (dss_cons (ds_asg (i := 18) (de_fnK K (ok__law_gcd Z) hr (by omega) rfl (da_cons (de_ixK K (de_ixK K (de_v 1) (de_v 6)) (de_int)) (da_cons (de_ixK K (de_ixK K (de_v 1) (de_v 17)) (de_int)) (da_nil)))) sc_law.nd) (dss_one (ds_if (dt_cmp (op_neDK K hr.u64) ops_ne rfl (de_op op_modN ops_mod (de_op op_sub ops_sub (de_ixK K (de_ixK K (de_v 1) (de_v 6)) (de_int)) (de_ixK K (de_ixK K (de_v 1) (de_v 17)) (de_int))) (de_v 18)) (de_int)) (dss_one (ds_app (j := 4) (de_tup (da_cons (de_v 6) (da_cons (de_v 17) (da_cons (de_v 18) (da_nil))))))) (dss_one (ds_app (j := 5) (de_tup (da_cons (de_v 6) (da_cons (de_v 17) (da_nil)))))))))))) (dss_cons (ds_if (dt_w (dw_or (dt_cmp (op_neDK K hr.u64) ops_ne rfl (de_cmp (op_eqDK K hr.u64) ops_eq rfl (de_p 4) (de_lst (da_nil))) (de_cmp L2.op_notN ops_notN rfl (de_v 2) (de_non))) (dw_or (dt_not (dt_truK K (de_fnK K (ok__law_same Z 4) hr (by omega) rfl (da_cons (de_fnK K (ok_denial Z) hr (by omega) rfl (da_cons (de_v 1) (da_nil))) (da_cons (de_if (dt_cmp (op_neDK K hr.u64) ops_ne rfl (de_p 4) (de_lst (da_nil))) (de_ixK K (de_p 4) (de_int)) (de_non)) (da_nil)))))) (dw_or1 (dt_not (dt_truK K (de_fnK K (ok__law_same Z 4) hr (by omega) rfl (da_cons (de_fnK K (ok_pairs Z) hr (by omega) rfl (da_cons (de_v 1) (da_nil))) (da_cons (de_ct (cr_tupK K) cs_tup rfl Z.n_tuple bt_tuple (da_cons (de_p 5) (da_nil))) (da_nil)))))))))) (dss_one (ds_ret (de_bl))) (dss_nil)) (dss_cons (ds_for (di_rg1 rfl Z.n_range (da_cons (de_cb (call_lenK K) cs_len rfl Z.n_len bt_len (da_cons (de_v 1) (da_nil))) (da_nil))) (dg_n sc_law.nd (i := 6)) (dss_one (ds_for (di_rg1 rfl Z.n_range (da_cons (de_cb (call_lenK K) cs_len rfl Z.n_len bt_len (da_cons (de_v 1) (da_nil))) (da_nil))) (dg_n sc_law.nd (i := 17)) (dss_one (ds_for (di_rg2 rfl Z.n_range (da_cons (de_int) (da_cons (de_int) (da_nil)))) (dg_n sc_law.nd (i := 18)) (dss_cons (ds_asg (i := 20) (de_andK K (de_cmp (op_lt_K K hr.u64) ops_lt rfl (de_v 6) (de_v 17)) (de_andK K (de_cmp (op_gt_K K hr.u64) ops_gt rfl (de_v 18) (de_int)) (de_andK K (de_cmp (op_eqDK K hr.u64) ops_eq rfl (de_op op_modN ops_mod (de_ixK K (de_ixK K (de_v 1) (de_v 6)) (de_int)) (de_v 18)) (de_int)) (de_andK K (de_cmp (op_eqDK K hr.u64) ops_eq rfl (de_op op_modN ops_mod (de_ixK K (de_ixK K (de_v 1) (de_v 17)) (de_int)) (de_v 18)) (de_int)) (de_one (de_cmp (op_neDK K hr.u64) ops_ne rfl (de_op op_modN ops_mod (de_op op_sub ops_sub (de_ixK K (de_ixK K (de_v 1) (de_v 6)) (de_int)) (de_ixK K (de_ixK K (de_v 1) (de_v 17)) (de_int))) (de_v 18)) (de_int))))))) sc_law.nd) (dss_one (ds_if (dt_not (dt_truK K (de_fnK K (ok__law_same Z 4) hr (by omega) rfl (da_cons (de_fnK K (ok_denial_holds Z) hr (by omega) rfl (da_cons (de_v 1) (da_cons (DE.frz (de_lst (da_cons (de_v 6) (da_cons (de_v 17) (da_cons (de_v 18) (da_nil)))))) (da_nil)))) (da_cons (de_v 20) (da_nil)))))) (dss_one (ds_ret (de_bl))) (dss_nil))))))))) (dss_cons (ds_asg (i := 7) (de_op op_modN ops_mod (de_fnK K (ok__law_cell Z) hr (by omega) rfl (da_cons (de_v 0) (da_cons (de_int) (da_nil)))) (de_int)) sc_law.nd) (dss_cons (ds_asg (i := 8) (de_op (op_addAK K) ops_addA (de_v 7) (de_op op_modN ops_mod (de_fnK K (ok__law_cell Z) hr (by omega) rfl (da_cons (de_v 0) (da_cons (de_int) (da_nil)))) (de_int))) sc_law.nd) (dss_cons (ds_asg (i := 9) (DE.frz (de_lr2 rfl Z.n_list rfl Z.n_range (de_v 7) (de_op (op_addAK K) ops_addA (de_v 8) (de_int)))) sc_law.nd) (dss_cons (ds_for (di_anyK K (de_v 1)) (dg_n sc_law.nd (i := 10)) (dss_one (ds_if (dt_w (dw_or (dt_not (dt_truK K (de_fnK K (ok__law_same Z 4) hr (by omega) rfl (da_cons (de_fnK K (ok_fronts Z) hr (by omega) rfl (da_cons (de_v 10) (da_cons (de_v 7) (da_cons (de_v 8) (da_nil))))) (da_cons (de_ct (cr_tupK K) cs_tup rfl Z.n_tuple bt_tuple (da_cons (de_lc [("time", 19)] sc_law.nd (di_anyK K (de_v 9)) (blk_of (N := N_law) (sc := defScope s_law) (by decide +kernel)) (fun _ _ _ _ _ => dg_n sc_law.nd (i := 19)) (fun _ _ _ _ _ => dts_one (dt_cmp (op_eqDK K hr.u64) ops_eq rfl (de_op op_modN ops_mod (de_v 19) (de_ixK K (de_v 10) (de_int))) (de_ixK K (de_v 10) (de_int)))) (fun _ _ _ _ _ => de_v 19) (by decide)) (da_nil))) (da_nil)))))) (dw_or1 (dt_not (dt_truK K (de_fnK K (ok__law_same Z 4) hr (by omega) rfl (da_cons (de_fnK K (ok_front Z) hr (by omega) rfl (da_cons (de_fnK K (ok__law_listed Z 4) hr (by omega) rfl (da_cons (de_v 10) (da_nil))) (da_cons (de_v 7) (da_nil)))) (da_cons (de_cmp (op_eqDK K hr.u64) ops_eq rfl (de_op op_modN ops_mod (de_v 7) (de_ixK K (de_v 10) (de_int))) (de_ixK K (de_v 10) (de_int))) (da_nil))))))))) (dss_one (ds_ret (de_bl))) (dss_nil)))) (dss_cons (ds_asg (i := 11) (DE.frz (de_lc [("time", 19)] sc_law.nd (di_anyK K (de_v 9)) (blk_of (N := N_law) (sc := defScope s_law) (by decide +kernel)) (fun _ _ _ _ _ => dg_n sc_law.nd (i := 19)) (fun _ _ _ _ _ => dts_nil) (fun _ _ _ _ _ => de_cb (call_lenK K) cs_len rfl Z.n_len bt_len (da_cons (de_lc [("swing", 10)] sc_law.nd (di_anyK K (de_v 1)) (blk_of (by with_unfolding_all rfl)) (fun _ _ _ _ _ => dg_n sc_law.nd (i := 10)) (fun _ _ _ _ _ => dts_one (dt_cmp (op_eqDK K hr.u64) ops_eq rfl (de_op op_modN ops_mod (de_v 19) (de_ixK K (de_v 10) (de_int))) (de_ixK K (de_v 10) (de_int)))) (fun _ _ _ _ _ => de_v 10) (by decide)) (da_nil))) (by decide))) sc_law.nd) (dss_cons (ds_if (dt_w (dw_or (dt_not (dt_truK K (de_fnK K (ok__law_same Z 4) hr (by omega) rfl (da_cons (de_fnK K (ok_clear Z) hr (by omega) rfl (da_cons (de_v 1) (da_cons (de_v 7) (da_cons (de_v 8) (da_nil))))) (da_cons (de_ct (cr_tupK K) cs_tup rfl Z.n_tuple bt_tuple (da_cons (de_lc [("k", 15)] sc_law.nd (di_rg1 rfl Z.n_range (da_cons (de_cb (call_lenK K) cs_len rfl Z.n_len bt_len (da_cons (de_v 9) (da_nil))) (da_nil))) (blk_of (N := N_law) (sc := defScope s_law) (by decide +kernel)) (fun _ _ _ _ _ => dg_n sc_law.nd (i := 15)) (fun _ _ _ _ _ => dts_one (dt_cmp (op_eqDK K hr.u64) ops_eq rfl (de_ixK K (de_v 11) (de_v 15)) (de_int))) (fun _ _ _ _ _ => de_ixK K (de_v 9) (de_v 15)) (by decide)) (da_nil))) (da_nil)))))) (dw_or1 (dt_cmp (op_neDK K hr.u64) ops_ne rfl (de_fnK K (ok_how_many Z) hr (by omega) rfl (da_cons (de_v 1) (da_cons (de_v 7) (da_nil)))) (de_ixK K (de_v 11) (de_int)))))) (dss_one (ds_ret (de_bl))) (dss_nil)) (dss_cons (ds_if (dt_cmp (op_gt_K K hr.u64) ops_gt rfl (de_v 3) (de_int)) (dss_one (ds_ret (de_bl))) (dss_nil)) (dss_cons (ds_asgLc (i := 12) [("time", 19)] sc_law.nd (di_rg1 rfl Z.n_range (da_cons (de_v 3) (da_nil))) (blk_of (N := N_law) (sc := defScope s_law) (by decide +kernel)) (fun _ _ _ _ _ => dg_n sc_law.nd (i := 19)) (fun _ _ _ _ _ => dts_nil) (fun _ _ _ _ _ => de_cb (call_lenK K) cs_len rfl Z.n_len bt_len (da_cons (de_lc [("swing", 10)] sc_law.nd (di_anyK K (de_v 1)) (blk_of (by with_unfolding_all rfl)) (fun _ _ _ _ _ => dg_n sc_law.nd (i := 10)) (fun _ _ _ _ _ => dts_one (dt_cmp (op_eqDK K hr.u64) ops_eq rfl (de_op op_modN ops_mod (de_v 19) (de_ixK K (de_v 10) (de_int))) (de_ixK K (de_v 10) (de_int)))) (fun _ _ _ _ _ => de_v 10) (by decide)) (da_nil))) (by decide) (sw_true rfl rfl rfl (by decide +kernel))) (dss_one (ds_ret (de_fnK K (ok__law_same Z 4) hr (by omega) rfl (da_cons (de_fnK K (ok_most Z) hr (by omega) rfl (da_cons (de_v 1) (da_nil))) (da_cons (de_tup (da_cons (de_cb (cr_maxAK K rfl hr.u70) cs_maxA rfl Z.n_max bt_max (da_cons (de_v 12) (da_nil))) (da_cons (de_index K hr.u65 (de_v 12) (de_cb (cr_maxAK K rfl hr.u70) cs_maxA rfl Z.n_max bt_max (da_cons (de_v 12) (da_nil)))) (da_nil)))) (da_nil)))))))))))))))))))))))))⟩
theorem ok_law (Z : Fx K mg) {fd : FuncData} (F : FunD K "law" "law" (defArgs s_law) (defBody s_law) (defScope s_law) [] [] (He.ga K "law") fd) : FnOk P w K mg base CX0 8 (He.ga K "law") fd ["script"] (spM K .fz Ph_law) :=
  law_fz (P := P) (w := w) (mg := mg) (base := base) (b := b_law) (k := 7) (N := N_law) F sc_law (dd_law Z)
end
end Hd
open PySem PySem.W PySem.Calls PyProof.Rows
theorem law_from (hlaw : ∀ ns : List Int, ns.length ≤ 63 → Hd.Ph_law [.list (ns.map .int)] = some (.bool true)) : PySem.Challenge.rw_playground_k25_swings_together_or_never.Holds := by
  w_on; o_law
  refine HandSHeadRun.head_imp (r := OpenLaw.row PySem.Challenge.rw_playground_k25_swings_together_or_never) (q := view (OpenLaw.row PySem.Challenge.rw_playground_k25_swings_together_or_never).prog [0, 44]) (H := Hd.hk) (ob := Hd.ob) (M := 6000) (loose := Hd.loose) (d := HandSHeadRun.topDef (OpenLaw.row PySem.Challenge.rw_playground_k25_swings_together_or_never).prog 44) (kwd := []) Hd.ob_eq
    Hd.run (by kernel_rfl) (by kernel_rfl) (by kernel_rfl) (by rfl) (by first | assumption | decide +kernel) (by decide +kernel) ⟨rfl, rfl, rfl, rfl, rfl, by decide +kernel⟩ ?hw ?hc
  case hw => w_witness2
  case hc =>
    refine L2.walk_ofE (l := PySem.Challenge.rw_playground_k25_swings_together_or_never) (n := 63) (k := 8) (x := "script") (CX := L2.CX0) rfl (by decide) (by kernel_rfl) ⟨rfl, by decide, by decide⟩ ?F (fun _ _ _ _ z => z)
    intro w mg fa h Y G hmg0
    obtain ⟨K, KX, c, c2⟩ := Y
    have hmg : mg ("law" : PySem.Str) = some (.ref fa) := by
      have e : (HandSHeadRun.topDef (OpenLaw.row PySem.Challenge.rw_playground_k25_swings_together_or_never).prog 44).name = ("law" : PySem.Str) := by kernel_rfl
      rw [← e]
      exact hmg0
    have Z := Hd.fx_ok KX G c c2
    obtain ⟨fd, FB⟩ := Z.f_law
    have e := hmg.symm.trans Z.g_law
    cases e
    have b := L2.FunD.bindsA (ps := ["script"]) FB fun _ _ _ _ _ _ us hl => match us, hl with | [_], _ => rfl
    refine ⟨K, fd, Q.spM K .fz Hd.Ph_law, KX, fun s v => b s [v] rfl, fun H a ns hl hO hS => ?_, fun base _ _ => ?_⟩
    · exact ⟨H, [.list (ns.map .int)], .bool true, .refl _, .cons (.lst hS (Q.RepA.of_ints ns)) .nil, hlaw ns hl, fun v F' H' _ r => Q.Rep.bl_of r⟩
    · exact Hd.ok_law Z FB
end

/-! part: K25a -/
section
set_option Elab.async false
set_option linter.all false
set_option maxRecDepth 100000
set_option maxHeartbeats 400000
namespace Hd
open PySem PySem.Spec Q
theorem e_is_int (v : Int) : Ph_is_int [.int v] = some (.bool true) := by
  simp -implicitDefEqProofs [Ph_is_int, b_is_int]
theorem e_is_within (v a b : Int) : Ph_is_within [.int v, .int a, .int b] = some (.bool (decide (a ≤ v) && decide (v ≤ b))) := by
  simp -implicitDefEqProofs [Ph_is_within, b_is_within, e_is_int]
  split <;> simp_all <;> omega
theorem e_need_within (at_ : D) (v a b : Int) (h : a ≤ v ∧ v ≤ b) : Ph_need_within [at_, .int v, .int a, .int b] = some (.int v) := by
  simp -implicitDefEqProofs [Ph_need_within, b_need_within, e_is_within, h.1, h.2]
theorem e_need_int (at_ : D) (v : Int) : Ph_need_int [at_, .int v] = some (.int v) := by
  simp -implicitDefEqProofs [Ph_need_int, b_need_int, e_is_int]
theorem e_need_t (at_ : D) (ds : List D) : Ph_need [at_, .tuple ds] = some (.tuple ds) := by
  simp -implicitDefEqProofs [Ph_need, b_need]
theorem e_is_seq_l (ds : List D) : Ph_is_seq [.list ds] = some (.bool true) := by
  simp -implicitDefEqProofs [Ph_is_seq, b_is_seq]
theorem e_is_seq_t (ds : List D) : Ph_is_seq [.tuple ds] = some (.bool true) := by
  simp -implicitDefEqProofs [Ph_is_seq, b_is_seq]
theorem e_to_row_l (ds : List D) (a b : Int) (h : a ≤ ds.length ∧ (ds.length : Int) ≤ b) : Ph_to_row [.list ds, .int a, .int b] = some (.tuple ds) := by
  simp -implicitDefEqProofs [Ph_to_row, b_to_row, e_is_seq_l, h.1, h.2]
theorem e_to_row_t (ds : List D) (a b : Int) (h : a ≤ ds.length ∧ (ds.length : Int) ≤ b) : Ph_to_row [.tuple ds, .int a, .int b] = some (.tuple ds) := by
  simp -implicitDefEqProofs [Ph_to_row, b_to_row, e_is_seq_t, h.1, h.2]
theorem e_cell (ns : List Int) (k : Nat) : Ph__law_cell [.list (ns.map .int), .int k] = some (.int (ns.getD k 0)) := by
  simp -implicitDefEqProofs [Ph__law_cell, b__law_cell]
  split
  · rename_i h
    rw [atI_nat (by simpa using h)]
    simp -implicitDefEqProofs [h]
  · rename_i h
    simp -implicitDefEqProofs [List.getElem?_eq_none (Nat.not_lt.mp h)]
theorem e_to_ints_t (ns : List Int) (lo hi a b : Int) (h : a ≤ ns.length ∧ (ns.length : Int) ≤ b) (hb : ns.length ≤ 1000) (hi_ : ∀ n ∈ ns, lo ≤ n ∧ n ≤ hi) : Ph_to_ints [.tuple (ns.map .int), .int lo, .int hi, .int a, .int b] = some (.tuple (ns.map .int)) := by
  simp -implicitDefEqProofs [Ph_to_ints, b_to_ints, e_to_row_t (ns.map .int) a b (by simpa using h)]
  rw [lcL_all (g := fun n => .bool true) (by simp) (fun n hn => by simp [e_is_within, hi_ n hn])]
  rw [Option.bind_some, lcB_small (by simp; omega)]
  simp
theorem e_to_ints_l (ns : List Int) (lo hi a b : Int) (h : a ≤ ns.length ∧ (ns.length : Int) ≤ b) (hb : ns.length ≤ 1000) (hi_ : ∀ n ∈ ns, lo ≤ n ∧ n ≤ hi) : Ph_to_ints [.list (ns.map .int), .int lo, .int hi, .int a, .int b] = some (.tuple (ns.map .int)) := by
  simp -implicitDefEqProofs [Ph_to_ints, b_to_ints, e_to_row_l (ns.map .int) a b (by simpa using h)]
  rw [lcL_all (g := fun n => .bool true) (by simp) (fun n hn => by simp [e_is_within, hi_ n hn])]
  rw [Option.bind_some, lcB_small (by simp; omega)]
  simp
theorem e_numbers (ns : List Int) (spot : Nat) (k : Nat) (hk : k ≤ 1000) : ∃ l : List Int, l.length = k ∧ Ph__law_numbers [.list (ns.map .int), .int spot, .int k] = some (.list (l.map .int)) := by
  simp -implicitDefEqProofs [Ph__law_numbers, b__law_numbers, e_cell, rg1_n (k := k) (by omega)]
  generalize hc : ns[spot]?.getD 0 = c
  obtain ⟨ρ', h1, l, r, s6, s7, h2, h3⟩ := forL_ex (step := turnD (sN 6) L__law_numbers_1) (xs := List.range k) (mk := fun i => .int (i : Nat)) (fun (j : Nat) (ρ : Rho) => ∃ (l : List Int) (r : Int) (s6 s7 : Sl), l.length = j ∧ ρ = [.im (.list (ns.map .int)), .im (.int spot), .im (.int k), .im (.int c), .ow (.list (l.map .int)), .im (.int r), s6, s7])
    _ ⟨[], c, .un, .un, rfl, rfl⟩ (by
      rintro j ρ x ⟨l, r, s6, s7, rfl, rfl⟩ hx
      have hlt : l.length < k := by
        have := (List.getElem?_eq_some_iff.mp hx).1
        simpa using this
      have hs : l.length < sizeLine := by have := line_ge; omega
      by_cases h : (1000000000000000000 : Int) ≤ c
      · refine ⟨[.im (.list (ns.map .int)), .im (.int spot), .im (.int k), .im (.int c), .ow (.list ((l ++ [r % (10 ^ 9)]).map .int)), .im (.int (r / (10 ^ 9))), .im (.int x), s7], .inl ?_, _, _, _, _, by simp, rfl⟩
        simp -implicitDefEqProofs [L__law_numbers_1, h, hs]
      · refine ⟨[.im (.list (ns.map .int)), .im (.int spot), .im (.int k), .im (.int c), .ow (.list ((l ++ [((((c * 48271 + ((x : Int) + 1) * 69621 + spot) % 2147483647) * 16807 + ((x : Int) + 3) * 40692) % 2147483399) % (10 ^ 9)]).map .int)), .im (.int r), .im (.int x), .im (.int ((c * 48271 + ((x : Int) + 1) * 69621 + spot) % 2147483647))], .inl ?_, _, _, _, _, by simp, rfl⟩
        simp -implicitDefEqProofs [L__law_numbers_1, h, hs])
  rw [List.map_nil] at h1
  rw [h1]
  subst h3
  refine ⟨l, by simpa using h2, ?_⟩
  simp
/-! ### the rhymes -/
theorem e_listed_i (n : Nat) (i : Int) : Ph__law_listed (n + 1) [.int i] = some (.int i) := by
  simp -implicitDefEqProofs [Ph__law_listed, b__law_listed]
theorem e_listed (ws : List Int) (h : ws.length ≤ 1000) : Ph__law_listed 4 [.tuple (ws.map .int)] = some (.list (ws.map .int)) := by
  have e := e_listed_i 2
  rw [Ph__law_listed]
  generalize Ph__law_listed 3 = φ at *
  simp -implicitDefEqProofs [b__law_listed]
  rw [lcL_all (g := fun n => .int n) (by simp) (fun n hn => by simp [e]), Option.bind_some, Function.comp, lcB_small (by simp; omega)]
  simp
theorem e_same_i (n : Nat) (i j : Int) : Ph__law_same (n + 1) [.int i, .int j] = some (.bool (i == j)) := by
  simp -implicitDefEqProofs [Ph__law_same, b__law_same]
theorem e_same (ns ms : List Int) (h : ns.length ≤ 1000) : Ph__law_same 4 [.tuple (ns.map .int), .tuple (ms.map .int)] = some (.bool (decide (ns = ms))) := by
  have e := e_same_i 2
  rw [Ph__law_same]
  generalize Ph__law_same 3 = φ at *
  simp -implicitDefEqProofs [b__law_same, rg1_n (k := ns.length) (by omega)]
  by_cases hl : ns.length = ms.length
  · rw [lcL_map (p := fun k => !(ns.getD k 0 == ms.getD k 0)) (g := fun k => .int (k : Nat)) (fun k hk => by
      have hk' : k < ns.length := by simpa using hk
      simp [at_n ns hk', at_n ms (by omega : k < ms.length), e]) (fun k hk _ => by simp), Option.bind_some, lcB_small (by
        have := List.length_filter_le (fun k => !(ns.getD k 0 == ms.getD k 0)) (List.range ns.length)
        simp only [List.length_map, List.length_range] at *
        omega), Option.bind_some, eq_f0, same_filter hl]
    simp [hl]
  · have hne : ns ≠ ms := fun z => hl (by rw [z])
    have hl' : ¬ (ns.length : Int) = ms.length := by omega
    simp [hl', hne]
theorem e_listed_g : ∀ (n : Nat) (d : D), tame n d = true → Ph__law_listed n [d] = some (lstd n d)
  | 0, d, h => by cases d <;> cases h
  | n + 1, .int i, _ => e_listed_i n i
  | n + 1, .bool i, _ => by simp -implicitDefEqProofs [Ph__law_listed, b__law_listed]; rfl
  | n + 1, .none, _ => by simp -implicitDefEqProofs [Ph__law_listed, b__law_listed]; rfl
  | n + 1, .str s, _ => by simp -implicitDefEqProofs [Ph__law_listed, b__law_listed]; rfl
  | n + 1, .list s, h => by cases h
  | n + 1, .dict s, h => by cases h
  | n + 1, .tuple ds, h => by
    obtain ⟨h1, h2⟩ := tame_t h
    have ih : ∀ d ∈ ds, Ph__law_listed n [d] = some (lstd n d) := fun d hd => e_listed_g n d (h2 d hd)
    rw [Ph__law_listed]
    generalize Ph__law_listed n = φ at *
    have e := lcL_all (α := D) (xs := ds) (mk := id) (g := lstd n) (tt := fun d => fYes ([Sl.im (.tuple ds), .un].set 1 (.im d))) (te := fun d => fB φ (aCons (vF 1) aNil) ([Sl.im (.tuple ds), .un].set 1 (.im d))) (by simp) (fun d hd => by simp [ih d hd])
    rw [List.map_id] at e
    simp -implicitDefEqProofs [b__law_listed]
    simp -implicitDefEqProofs at e
    rw [e, Option.bind_some, Function.comp, lcB_small (by simp; omega)]
    simp [lstd]
theorem e_same_r : ∀ (n : Nat) (d : D), tame n d = true → Ph__law_same n [d, d] = some (.bool true)
  | 0, d, h => by cases d <;> cases h
  | n + 1, .int i, _ => by simp -implicitDefEqProofs [Ph__law_same, b__law_same]
  | n + 1, .bool i, _ => by simp -implicitDefEqProofs [Ph__law_same, b__law_same]
  | n + 1, .none, _ => by simp -implicitDefEqProofs [Ph__law_same, b__law_same]
  | n + 1, .str s, h => by simp -implicitDefEqProofs [Ph__law_same, b__law_same, eq_str (x := s) h]
  | n + 1, .list s, h => by cases h
  | n + 1, .dict s, h => by cases h
  | n + 1, .tuple ds, h => by
    obtain ⟨h1, h2⟩ := tame_t h
    have ih : ∀ d ∈ ds, Ph__law_same n [d, d] = some (.bool true) := fun d hd => e_same_r n d (h2 d hd)
    rw [Ph__law_same]
    generalize Ph__law_same n = φ at *
    have e0 : eqD (.list []) (.list []) = some (.bool true) := rfl
    simp -implicitDefEqProofs [b__law_same, rg1_n (k := ds.length) (by omega)]
    rw [lcL_map (p := fun k => false) (g := fun k => .int (k : Nat)) (fun k hk => by
      have hk' : k < ds.length := by simpa using hk
      simp [atI_nat hk', ih _ (List.getElem_mem hk')]) (fun k hk _ => by simp), Option.bind_some, lcB_small (by rw [List.length_map, List.filter_eq_nil_iff.mpr (by simp)]; simp)]
    simp [e0]
end Hd
end

/-! part: K25b -/
section
set_option Elab.async false
set_option linter.all false
set_option maxRecDepth 100000
set_option maxHeartbeats 400000
namespace Hd
open PySem PySem.Spec Q
theorem e_gcd (a b : Nat) (h : a * b < 2 ^ 300) : Ph__law_gcd [.int a, .int b] = some (.int (Nat.gcd a b : Nat)) := by
  simp -implicitDefEqProofs [Ph__law_gcd, b__law_gcd]
  rw [show ((400 : Int)) = ((400 : Nat) : Int) from rfl, rg1_n (k := 400) (by omega), Option.bind_some]
  rcases forL_any (step := turnD (sN 2) L__law_gcd_1) (xs := List.range 400) (mk := fun i => .int (i : Nat))
    (fun pre ρ => ∃ (u v : Nat) (x : Sl), ρ = [.im (.int u), .im (.int v), x] ∧ Nat.gcd u v = Nat.gcd a b ∧ u * v * 2 ^ pre.length ≤ 2 * (a * b) ∧ (v ≤ u ∨ pre.length = 0 ∧ u * v ≤ a * b))
    (fun _ => False) (fun d => d = .int (Nat.gcd a b : Nat)) [.im (.int a), .im (.int b), .un]
    ⟨a, b, .un, rfl, rfl, by simp; omega, .inr ⟨rfl, Nat.le_refl _⟩⟩ (by
      rintro pre post ρ i ⟨u, v, x, rfl, hg, hp, ho⟩ hx
      by_cases hv : v = 0
      · subst hv
        refine .inr (.inr ⟨.int (u : Nat), ?_, by rw [← hg]; simp⟩)
        simp -implicitDefEqProofs [L__law_gcd_1]
      · have hv0 : 0 < v := Nat.pos_of_ne_zero hv
        obtain ⟨q1, q2, q3⟩ := euclid_step hv0 hp ho
        refine .inl ⟨[.im (.int v), .im (.int (u % v : Nat)), .im (.int i)], .inl ?_, v, u % v, _, rfl, q3.trans hg, by simpa using q1, .inl q2⟩
        have hm : modD (.int (u : Int)) (.int (v : Int)) = some (.int ((u : Int) % (v : Int))) := mod_pos (by omega)
        have hv1 : ¬ (v : Int) = 0 := by omega
        simp -implicitDefEqProofs [L__law_gcd_1, hv, hv1, hm]) with ⟨ρ', h1, h2 | h2⟩ | ⟨d, h1, h2⟩
  · obtain ⟨u, v, x, rfl, hg, hp, ho⟩ := h2
    have hv : v = 0 := by
      rcases ho with ho | ⟨ho, _⟩
      · refine Nat.eq_zero_of_not_pos fun hv => ?_
        have h3 : 1 ≤ u * v := Nat.mul_pos (by omega) hv
        have h4 : 1 * 2 ^ 400 ≤ u * v * 2 ^ 400 := Nat.mul_le_mul_right _ h3
        rw [List.length_range] at hp
        have h5 : (2 : Nat) ^ 400 = 2 ^ 300 * 2 ^ 100 := by rw [← Nat.pow_add]
        have h6 : 2 ≤ (2 : Nat) ^ 100 := by decide
        have h7 : 2 ^ 300 * 2 ≤ 2 ^ 300 * 2 ^ 100 := Nat.mul_le_mul_left _ h6
        generalize (2 : Nat) ^ 300 = T at *
        omega
      · simp at ho
    subst hv
    rw [h1, ← hg]
    simp
  · exact h2.elim
  · rw [h1, h2]
    simp
/-! ### numbers -/
theorem bez : ∀ a b : Nat, ∃ x y : Int, ((Nat.gcd a b : Nat) : Int) = a * x + b * y := by
  intro a b
  induction a, b using Nat.gcd.induction with
  | H0 n => exact ⟨0, 1, by simp⟩
  | H1 m n hm ih =>
    obtain ⟨x, y, h⟩ := ih
    refine ⟨y - (n / m : Nat) * x, x, ?_⟩
    rw [Nat.gcd_rec, h]
    have e : ((n % m : Nat) : Int) = n - m * (n / m : Nat) := by
      have := Nat.mod_add_div n m
      have h2 : ((n % m + m * (n / m) : Nat) : Int) = n := by rw [this]
      rw [Int.natCast_add, Int.natCast_mul] at h2
      omega
    rw [e, Int.sub_mul, Int.mul_sub, Int.mul_assoc]
    generalize (m : Int) * ((n / m : Nat) * x) = q
    omega
/-- gcd(lcm(a, b), c) divides what gcd(a, c) and gcd(b, c) divide -/
theorem gcd_lcm_dvd {a b c : Nat} {n : Nat} (ha : 0 < a) (hb : 0 < b) (hc : 0 < c) (h1 : Nat.gcd a c ∣ n) (h2 : Nat.gcd b c ∣ n) : Nat.gcd (Nat.lcm a b) c ∣ n := by
  have hd1 : Nat.gcd (Nat.lcm a b) c ∣ Nat.lcm a b := Nat.gcd_dvd_left _ _
  have hd2 : Nat.gcd (Nat.lcm a b) c ∣ c := Nat.gcd_dvd_right _ _
  have hd0 : 0 < Nat.gcd (Nat.lcm a b) c := Nat.gcd_pos_of_pos_right _ hc
  generalize Nat.gcd (Nat.lcm a b) c = d at *
  have e1 : Nat.gcd a d ∣ n := Nat.dvd_trans (Nat.gcd_dvd_gcd_of_dvd_right a hd2) h1
  have e2 : Nat.gcd b d ∣ n := Nat.dvd_trans (Nat.gcd_dvd_gcd_of_dvd_right b hd2) h2
  have hl : Nat.lcm (Nat.gcd a d) (Nat.gcd b d) ∣ n := Nat.lcm_dvd e1 e2
  have key : Nat.lcm (Nat.gcd a d) (Nat.gcd b d) = d := by
    have p1 : Nat.gcd a d * Nat.gcd b d = d * Nat.gcd (Nat.gcd a b) d := by
      have q1 : d * Nat.gcd a b ∣ a * b := by
        rw [← Nat.gcd_mul_lcm a b, Nat.mul_comm d]
        exact Nat.mul_dvd_mul_left _ hd1
      have q2 : d * Nat.gcd (Nat.gcd a b) d ∣ a * b := Nat.dvd_trans (Nat.mul_dvd_mul_left d (Nat.gcd_dvd_left _ _)) q1
      calc Nat.gcd a d * Nat.gcd b d = Nat.gcd (Nat.gcd a d * b) (Nat.gcd a d * d) := (Nat.gcd_mul_left _ _ _).symm
        _ = Nat.gcd (Nat.gcd (a * b) (d * b)) (Nat.gcd (a * d) (d * d)) := by rw [Nat.gcd_mul_right, Nat.gcd_mul_right]
        _ = Nat.gcd (a * b) (Nat.gcd (d * b) (Nat.gcd (a * d) (d * d))) := Nat.gcd_assoc _ _ _
        _ = Nat.gcd (a * b) (d * Nat.gcd (Nat.gcd a b) d) := by
            congr 1
            rw [Nat.mul_comm a d, Nat.gcd_mul_left, Nat.gcd_mul_left, ← Nat.gcd_assoc, Nat.gcd_comm b a]
        _ = d * Nat.gcd (Nat.gcd a b) d := Nat.gcd_eq_right q2
    have p2 := Nat.gcd_mul_lcm (Nat.gcd a d) (Nat.gcd b d)
    have p3 : Nat.gcd (Nat.gcd a d) (Nat.gcd b d) = Nat.gcd (Nat.gcd a b) d := by
      rw [Nat.gcd_assoc, Nat.gcd_comm d, Nat.gcd_assoc b, Nat.gcd_self, ← Nat.gcd_assoc]
    rw [p3, p1, Nat.mul_comm d] at p2
    exact Nat.eq_of_mul_eq_mul_left (Nat.gcd_pos_of_pos_right _ hd0) p2
  rwa [key] at hl
/-- two rests that agree by their common divisor are met -/
theorem meet {L p t0 r : Nat} (hp : 0 < p) (hr : r < p) (h : ((Nat.gcd L p : Nat) : Int) ∣ (r : Int) - t0) : ∃ k : Nat, k < p ∧ (t0 + L * k) % p = r := by
  obtain ⟨x, y, hg⟩ := bez L p
  obtain ⟨m, hm⟩ := h
  have k0 := Int.emod_nonneg (x * m) (show (p : Int) ≠ 0 by omega)
  have k1 := Int.emod_lt_of_pos (x * m) (show (0 : Int) < p by omega)
  refine ⟨((x * m) % p).toNat, by omega, ?_⟩
  have hk : (((x * m) % p).toNat : Int) = (x * m) % p := Int.toNat_of_nonneg k0
  have e1 : ((t0 + L * ((x * m) % p).toNat : Nat) : Int) % p = r := by
    rw [Int.natCast_add, Int.natCast_mul, hk]
    have e2 : (t0 : Int) + L * ((x * m) % p) = r - p * (y * m + L * (x * m / p)) := by
      have h3 := Int.emod_add_mul_ediv (x * m) p
      have h4 : (r : Int) - t0 = L * (x * m) + p * (y * m) := by
        rw [hm, hg, Int.add_mul, Int.mul_assoc, Int.mul_assoc]
      have h5 : (x * m) % p = x * m - p * (x * m / p) := by omega
      rw [h5, Int.mul_sub, Int.mul_add]
      have h6 : (L : Int) * (p * (x * m / p)) = p * (L * (x * m / p)) := by rw [← Int.mul_assoc, ← Int.mul_assoc, Int.mul_comm (L : Int)]
      rw [h6]
      omega
    rw [e2, Int.sub_emod, Int.mul_emod_right, Int.sub_zero, Int.emod_emod_of_dvd _ (Int.dvd_refl _)]
    exact Int.emod_eq_of_lt (by omega) (by omega)
  have e3 : (((t0 + L * ((x * m) % p).toNat) % p : Nat) : Int) = r := by rw [Int.natCast_emod]; exact e1
  exact Int.ofNat.inj e3
/-! ### swings -/
def okS (z : Nat × Nat) : Prop := 1 ≤ z.1 ∧ z.1 ≤ 60 ∧ z.2 < z.1
def hit (time step : Nat) (z : Nat × Nat) : Option Nat := (List.range z.1).find? fun k => decide ((time + step * k) % z.1 = z.2)
def lad : Nat → Nat → List (Nat × Nat) → Option (List (Nat × Nat))
  | _, _, [] => some []
  | time, step, z :: zs => match hit time step z with
    | none => none
    | some k => (lad (time + step * k) (Nat.lcm step z.1) zs).map ((time + step * k, Nat.lcm step z.1) :: ·)
theorem lcm_q {step p : Nat} (hs : 0 < step) (hp : 0 < p) : Nat.lcm step p = step * (p / Nat.gcd step p) ∧ 0 < p / Nat.gcd step p ∧ p / Nat.gcd step p ≤ p ∧ p ∣ step * (p / Nat.gcd step p) := by
  have h1 : Nat.lcm step p = step * (p / Nat.gcd step p) := by
    unfold Nat.lcm
    rw [Nat.mul_div_assoc _ (Nat.gcd_dvd_right _ _)]
  refine ⟨h1, Nat.div_pos (Nat.le_of_dvd hp (Nat.gcd_dvd_right _ _)) (Nat.gcd_pos_of_pos_right _ hp), Nat.div_le_self _ _, ?_⟩
  rw [← h1]
  exact Nat.dvd_lcm_right _ _
/-- the first hit is below the number of turns -/
theorem hit_lt {time step : Nat} {z : Nat × Nat} (hs : 0 < step) (hz : okS z) {k : Nat} (h : hit time step z = some k) : (time + step * k) % z.1 = z.2 ∧ k < z.1 / Nat.gcd step z.1 ∧ ∀ j, j < k → (time + step * j) % z.1 ≠ z.2 := by
  obtain ⟨q1, q2, q3, q4⟩ := lcm_q hs (show 0 < z.1 from hz.1)
  have h1 : (time + step * k) % z.1 = z.2 := by simpa using List.find?_some h
  have hk : k < z.1 := List.mem_range.mp (List.mem_of_find?_eq_some h)
  have h2 : ∀ j, j < k → (time + step * j) % z.1 ≠ z.2 := fun j hj e => by
    rw [hit, List.find?_eq_some_iff_getElem] at h
    obtain ⟨_, i, hi, e1, e2⟩ := h
    have e3 : i = k := by simpa using e1
    have := e2 j (by omega)
    simp [e] at this
  refine ⟨h1, ?_, h2⟩
  refine Nat.lt_of_not_le fun hq => ?_
  refine h2 (k - z.1 / Nat.gcd step z.1) (by omega) ?_
  rw [← h1]
  have e : time + step * k = (time + step * (k - z.1 / Nat.gcd step z.1)) + step * (z.1 / Nat.gcd step z.1) := by
    rw [Nat.add_assoc, ← Nat.mul_add]
    congr 2
    omega
  rw [e]
  obtain ⟨c, hc⟩ := q4
  rw [hc, Nat.add_mul_mod_self_left]
theorem hit_none {time step : Nat} {z : Nat × Nat} (h : hit time step z = none) : ∀ k, k < z.1 → (time + step * k) % z.1 ≠ z.2 := fun k hk e => by
  have := List.find?_eq_none.mp h k (List.mem_range.mpr hk)
  simp [e] at this
theorem below {time step p k : Nat} (hs : 0 < step) (hp : 0 < p) (ht : time < step) : time + step * k < Nat.lcm step p ↔ k < p / Nat.gcd step p := by
  rw [(lcm_q hs hp).1]
  generalize p / Nat.gcd step p = q
  constructor
  · intro h
    refine Nat.lt_of_not_le fun hq => ?_
    have := Nat.mul_le_mul_left step hq
    omega
  · intro h
    have h1 := Nat.mul_le_mul_left step (show k + 1 ≤ q from h)
    rw [Nat.mul_add] at h1
    omega
/-- a time of all -/
def met (zs : List (Nat × Nat)) (t : Nat) : Prop := ∀ z ∈ zs, t % z.1 = z.2
theorem lad_met : ∀ (zs : List (Nat × Nat)) (time step : Nat), 0 < step → time < step → (∀ z ∈ zs, okS z) → (lad time step zs ≠ none ↔ ∃ t, t % step = time ∧ met zs t)
  | [], time, step, hs, ht, _ => ⟨fun _ => ⟨time, Nat.mod_eq_of_lt ht, fun z hz => by cases hz⟩, fun _ h => by cases h⟩
  | z :: zs, time, step, hs, ht, hz => by
    have hok := hz z List.mem_cons_self
    have hrest : ∀ y ∈ zs, okS y := fun y hy => hz y (List.mem_cons_of_mem _ hy)
    have hp : 0 < z.1 := hok.1
    have hl : 0 < Nat.lcm step z.1 := Nat.lcm_pos hs hp
    cases hh : hit time step z with
    | none =>
      refine ⟨fun h => absurd (by rw [lad, hh]) h, fun ⟨t, h1, h2⟩ => ?_⟩
      exfalso
      have h3 := h2 z List.mem_cons_self
      refine hit_none hh ((t / step) % z.1) (Nat.mod_lt _ hp) ?_
      rw [← h3]
      have e : t = time + step * (t / step) := by have := Nat.mod_add_div t step; omega
      rw [Nat.add_mod, Nat.mul_mod, Nat.mod_mod, ← Nat.mul_mod, ← Nat.add_mod, ← e]
    | some k =>
      obtain ⟨a1, a2, a3⟩ := hit_lt hs hok hh
      have hb := (below (k := k) hs hp ht).mpr a2
      have ih := lad_met zs (time + step * k) (Nat.lcm step z.1) hl hb hrest
      have e0 : lad time step (z :: zs) = (lad (time + step * k) (Nat.lcm step z.1) zs).map ((time + step * k, Nat.lcm step z.1) :: ·) := by rw [lad, hh]
      rw [e0, ne_eq, Option.map_eq_none_iff, ← ne_eq, ih]
      constructor
      · rintro ⟨t, h1, h2⟩
        refine ⟨t, ?_, fun y hy => ?_⟩
        · rw [← Nat.mod_mod_of_dvd t (Nat.dvd_lcm_left step z.1), h1, Nat.add_mul_mod_self_left, Nat.mod_eq_of_lt ht]
        · rcases List.mem_cons.mp hy with rfl | hy
          · rw [← Nat.mod_mod_of_dvd t (Nat.dvd_lcm_right step y.1), h1, a1]
          · exact h2 y hy
      · rintro ⟨t, h1, h2⟩
        refine ⟨t, ?_, fun y hy => h2 y (List.mem_cons_of_mem _ hy)⟩
        have h3 := h2 z List.mem_cons_self
        have d1 : ((step : Nat) : Int) ∣ (t : Int) - (time + step * k : Nat) := by
          have := Nat.mod_add_div t step
          rw [h1] at this
          refine ⟨(t / step : Nat) - (k : Int), ?_⟩
          rw [Int.mul_sub, ← Int.natCast_mul, ← Int.natCast_mul]
          omega
        have d2 : ((z.1 : Nat) : Int) ∣ (t : Int) - (time + step * k : Nat) := by
          have e1 := Nat.mod_add_div t z.1
          have e2 := Nat.mod_add_div (time + step * k) z.1
          rw [h3] at e1
          rw [a1] at e2
          refine ⟨(t / z.1 : Nat) - ((time + step * k) / z.1 : Nat), ?_⟩
          rw [Int.mul_sub, ← Int.natCast_mul, ← Int.natCast_mul]
          omega
        have d3 : ((Nat.lcm step z.1 : Nat) : Int) ∣ (t : Int) - (time + step * k : Nat) := by
          have := Nat.lcm_dvd (Int.natAbs_dvd_natAbs.mpr d1) (Int.natAbs_dvd_natAbs.mpr d2)
          rw [Int.natAbs_natCast, Int.natAbs_natCast] at this
          exact Int.natAbs_dvd_natAbs.mp (by rwa [Int.natAbs_natCast])
        have d5 : (t : Int) % (Nat.lcm step z.1 : Nat) = ((time + step * k : Nat) : Int) % (Nat.lcm step z.1 : Nat) := Int.emod_eq_emod_iff_emod_sub_eq_zero.mpr (Int.emod_eq_zero_of_dvd d3)
        rw [← Int.natCast_emod, ← Int.natCast_emod] at d5
        rw [Int.ofNat.inj d5, Nat.mod_eq_of_lt hb]
/-! pairs -/
def agr (a b : Nat × Nat) : Prop := ((a.2 : Int) - b.2) % ((Nat.gcd a.1 b.1 : Nat) : Int) = 0
def lcmL : List (Nat × Nat) → Nat
  | [] => 1
  | z :: zs => Nat.lcm (lcmL zs) z.1
theorem lcmL_pos : ∀ zs : List (Nat × Nat), (∀ z ∈ zs, okS z) → 0 < lcmL zs
  | [], _ => Nat.one_pos
  | z :: zs, h => Nat.lcm_pos (lcmL_pos zs fun y hy => h y (List.mem_cons_of_mem _ hy)) (h z List.mem_cons_self).1
theorem lcmL_dvd : ∀ (zs : List (Nat × Nat)) (z : Nat × Nat), z ∈ zs → z.1 ∣ lcmL zs
  | y :: zs, z, h => by
    rcases List.mem_cons.mp h with rfl | h
    · exact Nat.dvd_lcm_right _ _
    · exact Nat.dvd_trans (lcmL_dvd zs z h) (Nat.dvd_lcm_left _ _)
theorem gcd_all : ∀ (zs : List (Nat × Nat)) (p n : Nat), 0 < p → (∀ z ∈ zs, okS z) → (∀ z ∈ zs, Nat.gcd z.1 p ∣ n) → Nat.gcd (lcmL zs) p ∣ n
  | [], p, n, _, _, _ => by rw [lcmL, Nat.gcd_one_left]; exact Nat.one_dvd n
  | z :: zs, p, n, hp, ho, h => by
    have ho' : ∀ y ∈ zs, okS y := fun y hy => ho y (List.mem_cons_of_mem _ hy)
    exact gcd_lcm_dvd (lcmL_pos zs ho') (ho z List.mem_cons_self).1 hp (gcd_all zs p n hp ho' fun y hy => h y (List.mem_cons_of_mem _ hy)) (h z List.mem_cons_self)
theorem pairs_met : ∀ zs : List (Nat × Nat), (∀ z ∈ zs, okS z) → zs.Pairwise agr → ∃ t, met zs t
  | [], _, _ => ⟨0, fun z hz => by cases hz⟩
  | z :: zs, ho, hp => by
    have ho' : ∀ y ∈ zs, okS y := fun y hy => ho y (List.mem_cons_of_mem _ hy)
    have hz := ho z List.mem_cons_self
    rw [List.pairwise_cons] at hp
    obtain ⟨t0, ht⟩ := pairs_met zs ho' hp.2
    have hg : Nat.gcd (lcmL zs) z.1 ∣ ((z.2 : Int) - t0).natAbs := gcd_all zs z.1 _ hz.1 ho' fun y hy => by
      have h1 := Int.dvd_of_emod_eq_zero (hp.1 y hy)
      have h2 := ht y hy
      have h3 : ((Nat.gcd z.1 y.1 : Nat) : Int) ∣ (y.2 : Int) - t0 := by
        have e := Nat.mod_add_div t0 y.1
        rw [h2] at e
        refine Int.dvd_trans (Int.ofNat_dvd.mpr (Nat.gcd_dvd_right z.1 y.1)) ⟨-(t0 / y.1 : Nat), ?_⟩
        rw [Int.mul_neg, ← Int.natCast_mul]
        omega
      have h4 : ((Nat.gcd z.1 y.1 : Nat) : Int) ∣ (z.2 : Int) - t0 := by
        have := Int.dvd_add h1 h3
        rwa [show (z.2 : Int) - y.2 + (y.2 - t0) = z.2 - t0 by omega] at this
      have := Int.natAbs_dvd_natAbs.mpr h4
      rwa [Int.natAbs_natCast, Nat.gcd_comm] at this
    obtain ⟨k, _, hk⟩ := meet (L := lcmL zs) (t0 := t0) hz.1 hz.2.2 (Int.natAbs_dvd_natAbs.mp (by rwa [Int.natAbs_natCast]))
    refine ⟨t0 + lcmL zs * k, fun y hy => ?_⟩
    rcases List.mem_cons.mp hy with rfl | hy
    · exact hk
    · obtain ⟨c, hc⟩ := lcmL_dvd zs y hy
      rw [hc, Nat.mul_assoc, Nat.add_mul_mod_self_left]
      exact ht y hy
theorem met_pairs (zs : List (Nat × Nat)) (t : Nat) (h : met zs t) : zs.Pairwise agr := by
  rw [List.pairwise_iff_getElem]
  intro i j hi hj _
  have h1 := h _ (List.getElem_mem hi)
  have h2 := h _ (List.getElem_mem hj)
  generalize zs[i] = a at *
  generalize zs[j] = b at *
  have d1 : ((Nat.gcd a.1 b.1 : Nat) : Int) ∣ (a.2 : Int) - t := by
    have e := Nat.mod_add_div t a.1
    rw [h1] at e
    refine Int.dvd_trans (Int.ofNat_dvd.mpr (Nat.gcd_dvd_left a.1 b.1)) ⟨-(t / a.1 : Nat), ?_⟩
    rw [Int.mul_neg, ← Int.natCast_mul]
    omega
  have d2 : ((Nat.gcd a.1 b.1 : Nat) : Int) ∣ (b.2 : Int) - t := by
    have e := Nat.mod_add_div t b.1
    rw [h2] at e
    refine Int.dvd_trans (Int.ofNat_dvd.mpr (Nat.gcd_dvd_right a.1 b.1)) ⟨-(t / b.1 : Nat), ?_⟩
    rw [Int.mul_neg, ← Int.natCast_mul]
    omega
  have := Int.dvd_sub d1 d2
  rw [show (a.2 : Int) - t - (b.2 - t) = a.2 - b.2 by omega] at this
  exact Int.emod_eq_zero_of_dvd this
theorem lad_pairs (z : Nat × Nat) (zs : List (Nat × Nat)) (h : ∀ y ∈ z :: zs, okS y) : lad z.2 z.1 zs ≠ none ↔ (z :: zs).Pairwise agr := by
  have hz := h z List.mem_cons_self
  rw [lad_met zs z.2 z.1 hz.1 hz.2.2 fun y hy => h y (List.mem_cons_of_mem _ hy)]
  constructor
  · rintro ⟨t, h1, h2⟩
    exact met_pairs _ t fun y hy => by
      rcases List.mem_cons.mp hy with rfl | hy
      · exact h1
      · exact h2 y hy
  · intro hp
    obtain ⟨t, ht⟩ := pairs_met _ h hp
    exact ⟨t, ht z List.mem_cons_self, fun y hy => ht y (List.mem_cons_of_mem _ hy)⟩
end Hd
end

/-! part: K25c -/
section
set_option Elab.async false
set_option linter.all false
set_option maxRecDepth 100000
set_option maxHeartbeats 400000
namespace Hd
open PySem PySem.Spec Q
def pS (z : Nat × Nat) : D := .tuple [.int (z.1 : Int), .int (z.2 : Int)]
def lS (z : Nat × Nat) : D := .list [.int (z.1 : Int), .int (z.2 : Int)]
theorem nice_nat : Nice 0 (fun k : Nat => PyData.int (k : Int)) := ⟨fun _ => rfl, fun _ => Nat.le_refl _, fun a b => by have := nice_int.eqv a b; rw [this]; simp [Int.ofNat_inj]⟩
theorem nice_pS : Nice 1 pS := nice_pair nice_nat nice_nat
theorem ix0 (a b : D) : L2.atI [a, b] 0 = some a := atI_nat (n := 0) (by simp)
theorem ix1 (a b : D) : L2.atI [a, b] 1 = some b := atI_nat (n := 1) (by simp)
theorem sx0 (z : Nat × Nat) : ixD (pS z) (.int 0) = some (.int z.1) := ix0 _ _
theorem sx1 (z : Nat × Nat) : ixD (pS z) (.int 1) = some (.int z.2) := ix1 _ _
theorem e_to_swing (z : Nat × Nat) (h : okS z) (d : D) (hd : d = pS z ∨ d = lS z) : Ph_to_swing [d] = some (pS z) := by
  obtain ⟨h1, h2, h3⟩ := h
  have r1 := e_to_row_t [.int (z.1 : Int), .int (z.2 : Int)] 2 2 (by simp)
  have r2 := e_to_row_l [.int (z.1 : Int), .int (z.2 : Int)] 2 2 (by simp)
  have w1 : (1 : Int) ≤ z.1 := by omega
  have w2 : (z.1 : Int) ≤ 60 := by omega
  have w3 : (z.2 : Int) ≤ (z.1 : Int) - 1 := by omega
  have n1 : isND (pS z) .none = some (.bool false) := rfl
  have w4 : (0 : Int) ≤ z.2 := by omega
  rcases hd with rfl | rfl
  · simp -implicitDefEqProofs [Ph_to_swing, b_to_swing, Ph_to_pair, b_to_pair, pS, r1, ix0, ix1, e_is_within, w1, w2, w3, w4]
  · simp -implicitDefEqProofs [Ph_to_swing, b_to_swing, Ph_to_pair, b_to_pair, pS, lS, r2, ix0, ix1, e_is_within, w1, w2, w3, w4]
section
variable (zs : List (Nat × Nat)) (hl : 1 ≤ zs.length ∧ zs.length ≤ 6) (hz : ∀ z ∈ zs, okS z) (d : D) (hd : d = .tuple (zs.map pS) ∨ d = .list (zs.map lS))
include hl hz hd
theorem e_to_swings : Ph_to_swings [d] = some (.tuple (zs.map pS)) := by
  have hr : ∃ mk, (mk = pS ∨ mk = lS) ∧ Ph_to_row [d, .int 1, .int 6] = some (.tuple (zs.map mk)) := by
    rcases hd with rfl | rfl
    · exact ⟨pS, .inl rfl, e_to_row_t _ 1 6 (by simp; omega)⟩
    · exact ⟨lS, .inr rfl, e_to_row_l _ 1 6 (by simp; omega)⟩
  obtain ⟨mk, hm, hr⟩ := hr
  have ht : ∀ z ∈ zs, Ph_to_swing [mk z] = some (pS z) := fun z h => e_to_swing z (hz z h) _ (by rcases hm with rfl | rfl <;> simp)
  simp -implicitDefEqProofs [Ph_to_swings, b_to_swings, hr]
  rw [lcL_all (g := pS) (by simp) (fun z h => by simp [ht z h]), Option.bind_some, lcB_small (by simp; omega)]
  have n1 : ∀ z, isND (pS z) .none = some (.bool false) := fun z => rfl
  simp -implicitDefEqProofs
  rw [lcL_all (g := fun _ => .bool false) (by simp) (fun z _ => by simp [n1]), Option.bind_some, lcB_small (by simp; omega)]
  have e0 : (zs.map fun _ => PyData.bool false) = (zs.map fun _ => false).map .bool := by rw [List.map_map]; rfl
  simp -implicitDefEqProofs
end
/-! front -/
def onB (z : Nat × Nat) (t : Nat) : Bool := decide (t % z.1 = z.2)
theorem modN {t p : Nat} (hp : 0 < p) : modD (.int (t : Int)) (.int (p : Int)) = some (.int ((t % p : Nat) : Int)) := by
  rw [mod_pos (by omega), ← Int.natCast_emod]
theorem eqN (a b : Nat) : eqD (.int (a : Int)) (.int (b : Int)) = some (.bool (decide (a = b))) := nice_nat.eq (by decide) a b
theorem e_is_front (z : Nat × Nat) (h : okS z) (t : Nat) : Ph_is_front [pS z, .int t] = some (.bool (onB z t)) := by
  have hm := modN (t := t) (show 0 < z.1 from h.1)
  simp only [Int.natCast_emod] at hm
  have he := eqN (t % z.1) z.2
  simp only [Int.natCast_emod] at he
  simp -implicitDefEqProofs only [Ph_is_front, b_is_front, fnB_e, bRet_e, f2_e, vF_e, cD_e, List.map_cons, List.map_nil, List.length_cons, List.length_nil, List.getElem?_cons_zero, List.getElem?_cons_succ, List.cons_append, List.nil_append, imD_im, Option.bind_some, sx0, sx1, hm, he, Option.map_some, outB_r, onB, if_true]
def cntF (zs : List (Nat × Nat)) (t : Nat) : Nat := (zs.filter fun z => onB z t).length
theorem e_count (zs : List (Nat × Nat)) (hl : zs.length ≤ 1000) (hz : ∀ z ∈ zs, okS z) (t : Nat) : Ph_count_fronts [.tuple (zs.map pS), .int t] = some (.int (cntF zs t : Nat)) := by
  simp -implicitDefEqProofs [Ph_count_fronts, b_count_fronts]
  rw [lcL_map (p := fun z => onB z t) (g := pS) (fun z h => by simp [e_is_front z (hz z h)]) (fun z _ _ => by simp), Option.bind_some, lcB_small (by
    have := List.length_filter_le (fun z => onB z t) zs
    rw [List.length_map]; omega)]
  simp [cntF]
theorem lcmN {a b : Nat} (ha : a < 2 ^ 64) (hb : b < 2 ^ 64) : lcmD [.int (a : Int), .int (b : Int)] = some (.int (Nat.lcm a b : Nat)) := by
  rw [lcmD, if_pos (by omega)]
  simp
end Hd
end

/-! part: K25d -/
section
set_option Elab.async false
set_option linter.all false
set_option maxRecDepth 100000
set_option maxHeartbeats 400000
namespace Hd
open PySem PySem.Spec Q
theorem lcm_le (a b : Nat) : Nat.lcm a b ≤ a * b := by
  unfold Nat.lcm
  exact Nat.div_le_self _ _
theorem e_law_lcm (a b : Nat) (ha : 0 < a ∧ a < 2 ^ 60) (hb : 0 < b ∧ b ≤ 60) : Ph__law_lcm [.int a, .int b] = some (.int (Nat.lcm a b : Nat)) := by
  have hbig : a * b < 2 ^ 300 := by
    have h1 : a * b ≤ 2 ^ 60 * 60 := Nat.mul_le_mul (by omega) hb.2
    have h2 : 2 ^ 60 * 60 < 2 ^ 300 := by decide +kernel
    omega
  have eg := e_gcd a b hbig
  have g1 : 0 < Nat.gcd a b := Nat.gcd_pos_of_pos_right _ hb.1
  have g2 : Nat.gcd a b ≤ b := Nat.gcd_le_right _ hb.1
  have m1 : mulI (a : Int) (b : Int) = some (.int ((a : Int) * b)) := mulI_r (by omega) (by omega)
  have f1 : fdivD (.int ((a : Int) * b)) (.int (Nat.gcd a b : Nat)) = some (.int ((a : Int) * b / (Nat.gcd a b : Nat))) := fdiv_pos (by omega) (by omega)
  have e : (a : Int) * b / (Nat.gcd a b : Nat) = (Nat.lcm a b : Nat) := by
    unfold Nat.lcm
    rw [Int.natCast_ediv, Int.natCast_mul]
  rw [e] at f1
  simp -implicitDefEqProofs [Ph__law_lcm, b__law_lcm, eg, m1, f1]
/-! the ladder -/
def pR (t : Nat × Nat) : D := pS t
def ladA (zs : List (Nat × Nat)) : Option (List (Nat × Nat)) := match zs with
  | [] => none
  | z :: zs => (lad z.2 z.1 zs).map ((z.2, z.1) :: ·)
def ladD : Option (List (Nat × Nat)) → D
  | none => .none
  | some l => .tuple (l.map pS)
theorem sT_pS {ss : List D → Rho → Option Rho} {z : Nat × Nat} {ρ : Rho} : sT 2 ss (pS z) ρ = ss [.int z.1, .int z.2] ρ := rfl
theorem cut_tail (d : D) (ds : List D) : cutD (.tuple (d :: ds)) (some 1) none = some (.tuple ds) := by
  unfold cutD cutL HT.sIx
  simp
theorem while_lad {ρ0 : Nat → Rho} {C : Rho → Option Bool} {W : Bd} (K : Nat) (hgo : ∀ j, j < K → C (ρ0 j) = some true ∧ W (ρ0 j) = some (.nx (ρ0 (j + 1)))) (hend : C (ρ0 K) = some false) : ∀ (m j n : Nat), m = K - j → j ≤ K → m < n → whileL C W n (ρ0 j) = some (.nx (ρ0 K))
  | 0, j, n, h1, h2, h3 => by
    have : j = K := by omega
    subst this
    obtain ⟨n', rfl⟩ : ∃ n', n = n' + 1 := ⟨n - 1, by omega⟩
    exact whileL_end hend
  | m + 1, j, n, h1, h2, h3 => by
    obtain ⟨n', rfl⟩ : ∃ n', n = n' + 1 := ⟨n - 1, by omega⟩
    obtain ⟨a, b⟩ := hgo j (by omega)
    rw [whileL_go a b]
    exact while_lad K hgo hend m (j + 1) n' (by omega) (by omega) (by omega)
theorem pow60 {n : Nat} (h : n ≤ 6) : 60 ^ n ≤ 46656000000 := Nat.pow_le_pow_right (show 0 < 60 by omega) h
theorem lcm60 {step n : Nat} {z : Nat × Nat} (h : step ≤ 60 ^ n) (hz : okS z) : Nat.lcm step z.1 ≤ 60 ^ (n + 1) := by
  rw [Nat.pow_succ]
  exact Nat.le_trans (lcm_le _ _) (Nat.mul_le_mul h hz.2.1)
section
variable (z0 : Nat × Nat) (zs : List (Nat × Nat)) (hl : zs.length ≤ 5) (hz : ∀ z ∈ z0 :: zs, okS z)
include hl hz
theorem e_ladder (d : D) (hd : d = .tuple ((z0 :: zs).map pS) ∨ d = .list ((z0 :: zs).map lS)) : Ph_ladder [d] = some (ladD (ladA (z0 :: zs))) := by
  have hline := line_ge
  have e1 := e_to_swings (z0 :: zs) (by simp; omega) hz d hd
  have i0 : L2.atI (pS z0 :: zs.map pS) 0 = some (pS z0) := atI_nat (n := 0) (by simp)
  have hz0 := hz z0 List.mem_cons_self
  have hcut := cut_tail (pS z0) (zs.map pS)
  simp -implicitDefEqProofs only [List.map_cons] at e1
  simp -implicitDefEqProofs [Ph_ladder, b_ladder, e1, e_need_t, i0, sT_pS, hcut]
  rcases forL_any (step := turnD (sN 2) L_ladder_1) (xs := zs) (mk := pS)
    (fun pre ρ => ∃ (time step : Nat) (acc : List (Nat × Nat)) (x2 x5 : Sl), ρ = [.im (.tuple (pS z0 :: zs.map pS)), .ow (.list (acc.map pS)), x2, .im (.int step), .im (.int time), x5] ∧ (0 < step ∧ time < step ∧ step ≤ 60 ^ (pre.length + 1)) ∧ acc.length = pre.length + 1 ∧ ∀ post, zs = pre ++ post → ladA (z0 :: zs) = (lad time step post).map (acc ++ ·))
    (fun _ => False) (fun d => d = .none ∧ ladA (z0 :: zs) = none) [.im (.tuple (pS z0 :: zs.map pS)), .ow (.list [.tuple [.int z0.2, .int z0.1]]), .un, .im (.int z0.1), .im (.int z0.2), .un]
    ⟨z0.2, z0.1, [(z0.2, z0.1)], .un, .un, rfl, ⟨hz0.1, hz0.2.2, by simp; exact hz0.2.1⟩, rfl, fun post hp => by rw [List.nil_append] at hp; rw [← hp]; rfl⟩ (by
      rintro pre post ρ z ⟨time, step, acc, x2, x5, rfl, ⟨b1, b2, b3⟩, b4, b5⟩ hx
      have hzz := hz z (List.mem_cons_of_mem _ (split_mem hx))
      have hlen := split_len hx
      have hp60 := pow60 (n := pre.length + 1) (by omega)
      have hl60 := lcm60 b3 hzz
      have hp61 := pow60 (n := pre.length + 2) (by omega)
      have hlcm := lcmN (a := step) (b := z.1) (by omega) (by have := hzz.2.1; omega)
      have b5' := b5 (z :: post) hx
      obtain ⟨q1, q2, q3, q4⟩ := lcm_q b1 (show 0 < z.1 from hzz.1)
      have hb : acc.length < sizeLine := by omega
      have hC : ∀ j, C_ladder_1 [.im (.tuple (pS z0 :: zs.map pS)), .ow (.list (acc.map pS)), .im (pS z), .im (.int step), .im (.int ((time + step * j : Nat) : Int)), .im (.int (Nat.lcm step z.1 : Nat))] = some (decide (time + step * j < Nat.lcm step z.1) && !onB z (time + step * j)) := fun j => by
        have hf := e_is_front z hzz (time + step * j)
        generalize time + step * j = t at *
        by_cases c : t < Nat.lcm step z.1
        · have c' : (t : Int) < (Nat.lcm step z.1 : Nat) := by omega
          simp -implicitDefEqProofs [C_ladder_1, hf, c, c']
        · have c' : ¬ (t : Int) < (Nat.lcm step z.1 : Nat) := by omega
          simp -implicitDefEqProofs [C_ladder_1, hf, c, c']
      have hW : ∀ j, W_ladder_1 [.im (.tuple (pS z0 :: zs.map pS)), .ow (.list (acc.map pS)), .im (pS z), .im (.int step), .im (.int ((time + step * j : Nat) : Int)), .im (.int (Nat.lcm step z.1 : Nat))] = some (.nx [.im (.tuple (pS z0 :: zs.map pS)), .ow (.list (acc.map pS)), .im (pS z), .im (.int step), .im (.int ((time + step * (j + 1) : Nat) : Int)), .im (.int (Nat.lcm step z.1 : Nat))]) := fun j => by
        have e : ((time + step * (j + 1) : Nat) : Int) = ((time + step * j : Nat) : Int) + step := by rw [Nat.mul_add]; omega
        rw [e]
        generalize ((time + step * j : Nat) : Int) = t
        simp -implicitDefEqProofs [W_ladder_1]
      have hwhile : ∀ K, K ≤ 60 → (∀ j, j < K → (decide (time + step * j < Nat.lcm step z.1) && !onB z (time + step * j)) = true) → (decide (time + step * K < Nat.lcm step z.1) && !onB z (time + step * K)) = false →
          whileL C_ladder_1 W_ladder_1 400 [.im (.tuple (pS z0 :: zs.map pS)), .ow (.list (acc.map pS)), .im (pS z), .im (.int step), .im (.int time), .im (.int (Nat.lcm step z.1 : Nat))] = some (.nx [.im (.tuple (pS z0 :: zs.map pS)), .ow (.list (acc.map pS)), .im (pS z), .im (.int step), .im (.int ((time + step * K : Nat) : Int)), .im (.int (Nat.lcm step z.1 : Nat))]) := fun K hK h1 h2 => by
        have := while_lad (C := C_ladder_1) (W := W_ladder_1) (ρ0 := fun j => [.im (.tuple (pS z0 :: zs.map pS)), .ow (.list (acc.map pS)), .im (pS z), .im (.int step), .im (.int ((time + step * j : Nat) : Int)), .im (.int (Nat.lcm step z.1 : Nat))]) K (fun j hj => ⟨by rw [hC j, h1 j hj], hW j⟩) (by rw [hC K, h2]) K 0 400 (by omega) (by omega) (by omega)
        simpa using this
      cases hh : hit time step z with
      | none =>
        have hn := hit_none hh
        have hw := hwhile (z.1 / Nat.gcd step z.1) (by have := hzz.2.1; omega) (fun j hj => by
          have := hn j (by omega)
          simp [(below (k := j) b1 hzz.1 b2).mpr hj, onB, this]) (by
          have : ¬ time + step * (z.1 / Nat.gcd step z.1) < Nat.lcm step z.1 := fun c => absurd ((below b1 hzz.1 b2).mp c) (Nat.lt_irrefl _)
          simp [this])
        refine .inr (.inr ⟨.none, ?_, rfl, by rw [b5', lad, hh]; rfl⟩)
        have hge : (Nat.lcm step z.1 : Nat) ≤ ((time + step * (z.1 / Nat.gcd step z.1) : Nat) : Int) := by rw [q1]; omega
        generalize time + step * (z.1 / Nat.gcd step z.1) = T at *
        simp -implicitDefEqProofs [L_ladder_1, sx0, hlcm, hw, hge]
      | some k =>
        obtain ⟨a1, a2, a3⟩ := hit_lt b1 hzz hh
        have hbl := (below (k := k) b1 hzz.1 b2).mpr a2
        have hw := hwhile k (by have := hzz.2.1; omega) (fun j hj => by
          have := a3 j hj
          simp [(below (k := j) b1 hzz.1 b2).mpr (by omega), onB, this]) (by simp [onB, a1])
        refine .inl ⟨[.im (.tuple (pS z0 :: zs.map pS)), .ow (.list ((acc ++ [(time + step * k, Nat.lcm step z.1)]).map pS)), .im (pS z), .im (.int (Nat.lcm step z.1 : Nat)), .im (.int ((time + step * k : Nat) : Int)), .im (.int (Nat.lcm step z.1 : Nat))], .inl ?_, time + step * k, Nat.lcm step z.1, acc ++ [(time + step * k, Nat.lcm step z.1)], _, _, rfl, ⟨Nat.lcm_pos b1 hzz.1, hbl, by simpa using hl60⟩, by simp [b4], fun post2 hp2 => ?_⟩
        · have hge : ¬ (Nat.lcm step z.1 : Nat) ≤ ((time + step * k : Nat) : Int) := by omega
          generalize time + step * k = T at *
          simp -implicitDefEqProofs [L_ladder_1, sx0, hlcm, hw, hge, hb]
          rfl
        · have e : post = post2 := by
            have := hx.symm.trans hp2
            simpa using this
          subst e
          rw [b5', lad, hh]
          simp [Option.map_map, Function.comp_def]) with ⟨ρ', h1, h2 | h2⟩ | ⟨d', h1, h2, h3⟩
  · obtain ⟨time, step, acc, x2, x5, rfl, _, _, b5⟩ := h2
    have b5' := b5 [] (by simp)
    rw [h1, b5', lad]
    simp [ladD]
  · exact h2.elim
  · rw [h1, h2, h3]
    simp [ladD]
end
end Hd
end

/-! part: K25e -/
section
set_option Elab.async false
set_option linter.all false
set_option maxRecDepth 100000
set_option maxHeartbeats 400000
namespace Hd
open PySem PySem.Spec Q
def fitB (time step : Nat) (z : Nat × Nat) (k : Nat) : Bool := decide ((time + step * k) % z.1 = z.2)
theorem hit_head (time step : Nat) (z : Nat × Nat) : ((List.range z.1).filter (fitB time step z)).head? = hit time step z := List.head?_filter ..
section
variable (z0 : Nat × Nat) (zs : List (Nat × Nat)) (hl : zs.length ≤ 5) (hz : ∀ z ∈ z0 :: zs, okS z)
include hl hz
theorem e_law_ladder : Ph__law_ladder [.tuple ((z0 :: zs).map pS)] = some (ladD (ladA (z0 :: zs))) := by
  have hline := line_ge
  have i0 : L2.atI (pS z0 :: zs.map pS) 0 = some (pS z0) := atI_nat (n := 0) (by simp)
  have hz0 := hz z0 List.mem_cons_self
  have hcut := cut_tail (pS z0) (zs.map pS)
  simp -implicitDefEqProofs [Ph__law_ladder, b__law_ladder, i0, sx0, sx1, hcut]
  rcases forL_any (step := turnD (sT 2 (sCons (sN 4) (sCons (sN 5) (sNil)))) L__law_ladder_1) (xs := zs) (mk := pS)
    (fun pre ρ => ∃ (time step : Nat) (acc : List (Nat × Nat)) (x4 x5 x6 : Sl), ρ = [.im (.tuple (pS z0 :: zs.map pS)), .im (.int time), .im (.int step), .ow (.list (acc.map pS)), x4, x5, x6, .un] ∧ (0 < step ∧ time < step ∧ step ≤ 60 ^ (pre.length + 1)) ∧ acc.length = pre.length + 1 ∧ ∀ post, zs = pre ++ post → ladA (z0 :: zs) = (lad time step post).map (acc ++ ·))
    (fun _ => False) (fun d => d = .none ∧ ladA (z0 :: zs) = none) [.im (.tuple (pS z0 :: zs.map pS)), .im (.int z0.2), .im (.int z0.1), .ow (.list [.tuple [.int z0.2, .int z0.1]]), .un, .un, .un, .un]
    ⟨z0.2, z0.1, [(z0.2, z0.1)], .un, .un, .un, rfl, ⟨hz0.1, hz0.2.2, by simp; exact hz0.2.1⟩, rfl, fun post hp => by rw [List.nil_append] at hp; rw [← hp]; rfl⟩ (by
      rintro pre post ρ z ⟨time, step, acc, x4, x5, x6, rfl, ⟨b1, b2, b3⟩, b4, b5⟩ hx
      have hzz := hz z (List.mem_cons_of_mem _ (split_mem hx))
      have hlen := split_len hx
      have hp60 := pow60 (n := pre.length + 1) (by omega)
      have hl60 := lcm60 b3 hzz
      have hp61 := pow60 (n := pre.length + 2) (by omega)
      have hlcm := e_law_lcm step z.1 (by omega) ⟨hzz.1, hzz.2.1⟩
      have b5' := b5 (z :: post) hx
      have hb : acc.length < sizeLine := by omega
      have hm : ∀ k : Nat, k < z.1 → mulI (step : Int) (k : Int) = some (.int ((step : Int) * k)) := fun k hk => mulI_r (by omega) (by have := hzz.2.1; omega)
      have hcomp : (fLc (fIs rg1D (aCons (vF 4) (aNil))) (sN 7) (fT (f2 eqD (f2 modD (f2 addD (vF 1) (f2 mulD (vF 2) (vF 7))) (vF 4)) (vF 5))) (f2 addD (vF 1) (f2 mulD (vF 2) (vF 7))) [7])
          [.im (.tuple (pS z0 :: zs.map pS)), .im (.int time), .im (.int step), .ow (.list (acc.map pS)), .im (.int z.1), .im (.int z.2), x6, .un] = some (.list ((((List.range z.1).filter (fitB time step z)).map fun k => ((time + step * k : Nat) : Int)).map .int)) := by
        simp -implicitDefEqProofs [rg1_n (k := z.1) (by have := hzz.2.1; omega)]
        rw [lcL_map (p := fitB time step z) (g := fun k => .int ((time + step * k : Nat) : Int)) (fun k hk => by
          have hk' := List.mem_range.mp hk
          have h1 := modN (t := time + step * k) (show 0 < z.1 from hzz.1)
          have h2 := eqN ((time + step * k) % z.1) z.2
          have e : ((time + step * k : Nat) : Int) = (time : Int) + (step : Int) * k := by rw [Int.natCast_add, Int.natCast_mul]
          rw [e] at h1
          simp -implicitDefEqProofs only [List.set_cons_succ, List.set_cons_zero, sN_e, Option.bind_some, fT_e, f2_e, vF_e, List.getElem?_cons_zero, List.getElem?_cons_succ, imD_im, mul_ii, hm k hk', add_ii, h1, h2, boolD_e, fitB]) (fun k hk _ => by
          have hk' := List.mem_range.mp hk
          simp -implicitDefEqProofs [hm k hk']), Option.bind_some, lcB_small (by
            have h1 := List.length_filter_le (fitB time step z) (List.range z.1)
            simp only [List.length_map, List.length_range] at *
            have := hzz.2.1
            omega)]
        simp
      have hh := hit_head time step z
      simp -implicitDefEqProofs only [turnD_e, sT_pS, sCons_e, sN_e, sNil_e, List.set_cons_succ, List.set_cons_zero, Option.bind_some, L__law_ladder_1, bSeq_e, bAsg_e, hcomp, seqO_n]
      cases hf : (List.range z.1).filter (fitB time step z) with
      | nil =>
        rw [hf] at hh
        refine .inr (.inr ⟨.none, ?_, rfl, by rw [b5', lad, ← hh]; rfl⟩)
        simp -implicitDefEqProofs
        rfl
      | cons k r =>
        rw [hf] at hh
        have hh' : hit time step z = some k := hh.symm
        obtain ⟨a1, a2, a3⟩ := hit_lt b1 hzz hh'
        have hbl := (below (k := k) b1 hzz.1 b2).mpr a2
        have i00 : ∀ (a : D) (l : List D), L2.atI (a :: l) 0 = some a := fun a l => atI_nat (n := 0) (by simp)
        refine .inl ⟨[.im (.tuple (pS z0 :: zs.map pS)), .im (.int ((time + step * k : Nat) : Int)), .im (.int (Nat.lcm step z.1 : Nat)), .ow (.list ((acc ++ [(time + step * k, Nat.lcm step z.1)]).map pS)), .im (.int z.1), .im (.int z.2), .im (.list (((k :: r).map fun k => ((time + step * k : Nat) : Int)).map .int)), .un], .inl ?_, time + step * k, Nat.lcm step z.1, acc ++ [(time + step * k, Nat.lcm step z.1)], _, _, _, rfl, ⟨Nat.lcm_pos b1 hzz.1, hbl, by simpa using hl60⟩, by simp [b4], fun post2 hp2 => ?_⟩
        · simp -implicitDefEqProofs only [List.map_cons]
          generalize r.map (fun k => ((time + step * k : Nat) : Int)) = R
          generalize time + step * k = T at *
          have e0 := eq_l0 ((T : Int) :: R)
          simp -implicitDefEqProofs only [List.map_cons] at e0
          simp -implicitDefEqProofs [e0, i00, hlcm, hb]
          rfl
        · have e : post = post2 := by
            have := hx.symm.trans hp2
            simpa using this
          subst e
          rw [b5', lad, hh']
          simp [Option.map_map, Function.comp_def]) with ⟨ρ', h1, h2 | h2⟩ | ⟨d', h1, h2, h3⟩
  · obtain ⟨time, step, acc, x4, x5, x6, rfl, _, _, b5⟩ := h2
    have b5' := b5 [] (by simp)
    rw [h1, b5', lad]
    simp [ladD]
  · exact h2.elim
  · rw [h1, h2, h3]
    simp [ladD]
end
/-! again -/
def lcmF (zs : List (Nat × Nat)) : Nat := zs.foldl (fun w z => Nat.lcm w z.1) 1
theorem fold_b : ∀ (pre : List (Nat × Nat)), (∀ z ∈ pre, okS z) → 0 < pre.foldl (fun w z => Nat.lcm w z.1) 1 ∧ pre.foldl (fun w z => Nat.lcm w z.1) 1 ≤ 60 ^ pre.length := by
  intro pre
  suffices h : ∀ (w n : Nat), 0 < w → w ≤ 60 ^ n → (∀ z ∈ pre, okS z) → 0 < pre.foldl (fun w z => Nat.lcm w z.1) w ∧ pre.foldl (fun w z => Nat.lcm w z.1) w ≤ 60 ^ (n + pre.length) by
    intro hz
    have := h 1 0 Nat.one_pos (by simp) hz
    simpa using this
  induction pre with
  | nil => intro w n h1 h2 _; exact ⟨h1, h2⟩
  | cons z pre ih =>
    intro w n h1 h2 hz
    have hz1 := hz z List.mem_cons_self
    have := ih (Nat.lcm w z.1) (n + 1) (Nat.lcm_pos h1 hz1.1) (lcm60 h2 hz1) fun y hy => hz y (List.mem_cons_of_mem _ hy)
    rw [List.foldl_cons, List.length_cons, show n + (pre.length + 1) = n + 1 + pre.length by omega]
    exact this
section
variable (zs : List (Nat × Nat)) (hl : 1 ≤ zs.length ∧ zs.length ≤ 6) (hz : ∀ z ∈ zs, okS z)
include hl hz
theorem e_again : Ph_again [.tuple (zs.map pS)] = some (.int (lcmF zs : Nat)) := by
  have e1 := e_to_swings zs hl hz _ (.inl rfl)
  simp -implicitDefEqProofs [Ph_again, b_again, e1, e_need_t]
  obtain ⟨ρ', h1, x2, h2⟩ := forL_all (step := turnD (sN 2) L_again_1) (xs := zs) (mk := pS) (fun pre (ρ : Rho) => ∃ x2, ρ = [.im (.tuple (zs.map pS)), .im (.int (pre.foldl (fun w z => Nat.lcm w z.1) 1 : Nat)), x2])
    [.im (.tuple (zs.map pS)), .im (.int 1), .un] ⟨_, rfl⟩ (by
    rintro pre post ρ z ⟨x2, rfl⟩ hx
    have hp : ∀ y ∈ pre, okS y := fun y hy => hz y (by rw [hx]; exact List.mem_append_left _ hy)
    obtain ⟨f1, f2⟩ := fold_b pre hp
    have h60 := pow60 (n := pre.length) (by have := split_len hx; omega)
    have hzz := hz z (split_mem hx)
    have hlcm := lcmN (a := pre.foldl (fun w z => Nat.lcm w z.1) 1) (b := z.1) (by omega) (by have := hzz.2.1; omega)
    refine ⟨[.im (.tuple (zs.map pS)), .im (.int ((pre ++ [z]).foldl (fun w z => Nat.lcm w z.1) 1 : Nat)), .im (pS z)], .inl ?_, _, rfl⟩
    rw [List.foldl_append, List.foldl_cons, List.foldl_nil]
    generalize pre.foldl (fun w z => Nat.lcm w z.1) 1 = W at *
    simp -implicitDefEqProofs [L_again_1, sx0, hlcm])
  rw [h1]
  subst h2
  simp [lcmF]
end
/-! told -/
theorem e_told_i (n : Nat) (i j : Int) : Ph_is_told (n + 1) [.int i, .int j] = some (.bool (decide (i = j))) := by
  simp -implicitDefEqProofs [Ph_is_told, b_is_told, e_is_int]
  by_cases h : i = j <;> simp [h]
theorem e_told_7 (n : Nat) (i : Int) (ds : List D) : Ph_is_told (n + 1) [.int i, .tuple ds] = some (.bool false) := by
  have : Ph_is_seq [.int i] = some (.bool false) := by simp -implicitDefEqProofs [Ph_is_seq, b_is_seq]
  simp -implicitDefEqProofs [Ph_is_told, b_is_told, this]
theorem forL_two {step : D → Bd} {a b : D} {ρ : Rho} : forL step [a, b] ρ = (step a ρ).bind fun o => match o with
    | .nx ρ' => (step b ρ').bind fun o => (match o with
      | .nx ρ' => some (.nx ρ')
      | .ct ρ' => some (.nx ρ')
      | .bk ρ' => some (.nx ρ')
      | .rt d => some (.rt d))
    | .ct ρ' => (step b ρ').bind fun o => (match o with
      | .nx ρ' => some (.nx ρ')
      | .ct ρ' => some (.nx ρ')
      | .bk ρ' => some (.nx ρ')
      | .rt d => some (.rt d))
    | .bk ρ' => some (.nx ρ')
    | .rt d => some (.rt d) := by
  rfl
theorem e_told_p (n : Nat) (y z : Nat × Nat) (d : D) (hd : d = pS y ∨ d = lS y) : Ph_is_told (n + 2) [d, pS z] = some (.bool (decide (y = z))) := by
  have e := e_told_i n
  obtain ⟨a, b⟩ := y
  obtain ⟨c, f⟩ := z
  rw [Ph_is_told]
  generalize Ph_is_told (n + 1) = φ at *
  have hs : Ph_is_seq [d] = some (.bool true) := by rcases hd with rfl | rfl <;> simp -implicitDefEqProofs [Ph_is_seq, b_is_seq, pS, lS]
  have hlen : lenD [d] = some (.int 2) := by rcases hd with rfl | rfl <;> rfl
  have x0 : ixD d (.int 0) = some (.int (a : Int)) := by rcases hd with rfl | rfl <;> exact ix0 _ _
  have x1 : ixD d (.int 1) = some (.int (b : Int)) := by rcases hd with rfl | rfl <;> exact ix1 _ _
  have hz : pS (c, f) = .tuple [.int (c : Int), .int (f : Int)] := rfl
  have en : enumD (.tuple [.int (c : Int), .int (f : Int)]) = some [.tuple [.int 0, .int (c : Int)], .tuple [.int 1, .int (f : Int)]] := rfl
  rw [hz]
  by_cases h1 : a = c
  · subst h1
    by_cases h2 : b = f
    · subst h2
      simp -implicitDefEqProofs [b_is_told, hs, hlen, en, forL_two, L_is_told_1, x0, x1, e]
    · have h2' : ¬ (b : Int) = f := by omega
      simp -implicitDefEqProofs [b_is_told, hs, hlen, en, forL_two, L_is_told_1, x0, x1, e, h2, h2']
  · have h1' : ¬ (a : Int) = c := by omega
    simp -implicitDefEqProofs [b_is_told, hs, hlen, en, forL_two, L_is_told_1, x0, x1, e, h1, h1']
theorem e_told (ws l : List (Nat × Nat)) (d : D) (hw : ws.length ≤ 1000) (hd : (d = .tuple (ws.map pS)) ∨ d = .list (ws.map lS)) : Ph_is_told 4 [d, .tuple (l.map pS)] = some (.bool (decide (ws = l))) := by
  have e := e_told_p 1
  rw [Ph_is_told]
  generalize Ph_is_told 3 = φ at *
  have hs : Ph_is_seq [d] = some (.bool true) := by rcases hd with rfl | rfl <;> simp -implicitDefEqProofs [Ph_is_seq, b_is_seq]
  have hlen : lenD [d] = some (.int ws.length) := by rcases hd with rfl | rfl <;> simp
  have x0 : ∀ k : Nat, k < ws.length → ∃ y, ixD d (.int k) = some y ∧ (y = pS (ws.getD k (0, 0)) ∨ y = lS (ws.getD k (0, 0))) := fun k hk => by
    rcases hd with rfl | rfl
    · exact ⟨_, at_mk ws (0, 0) hk, .inl rfl⟩
    · exact ⟨_, at_mk ws (0, 0) hk, .inr rfl⟩
  simp -implicitDefEqProofs [b_is_told, hs, hlen, enum_mk (mk := pS) (0, 0) l _ (.inr rfl)]
  by_cases hll : ws.length = l.length
  · have hll' : (ws.length : Int) = l.length := by omega
    simp -implicitDefEqProofs [hll', enum_mk (mk := pS) (0, 0) l _ (.inr rfl)]
    simp only [← List.getD_eq_getElem?_getD]
    rcases forL_any (step := turnD (sT 2 (sCons (sN 2) (sCons (sN 3) (sNil)))) (L_is_told_1 φ)) (xs := List.range l.length) (mk := fun (i : Nat) => .tuple [.int (i : Int), pS (l.getD i (0, 0))])
      (fun pre ρ => (∃ x2 x3, ρ = [.im d, .im (.tuple (l.map pS)), x2, x3]) ∧ ∀ i, i < pre.length → ws.getD i (0, 0) = l.getD i (0, 0)) (fun _ => False) (fun r => r = .bool false ∧ ws ≠ l) [.im d, .im (.tuple (l.map pS)), .un, .un]
      ⟨⟨_, _, rfl⟩, fun i hi => absurd hi (Nat.not_lt_zero _)⟩ (by
        rintro pre post ρ i ⟨⟨x2, x3, rfl⟩, hi⟩ hx
        obtain ⟨g1, g2, g3⟩ := range_split hx
        obtain ⟨y, y1, y2⟩ := x0 i (by omega)
        have ey := e (ws.getD i (0, 0)) (l.getD i (0, 0)) y y2
        by_cases c : ws.getD i (0, 0) = l.getD i (0, 0)
        · refine .inl ⟨[.im d, .im (.tuple (l.map pS)), .im (.int i), .im (pS (l.getD i (0, 0)))], .inl ?_, ⟨_, _, rfl⟩, fun j hj => ?_⟩
          · rw [c] at ey
            generalize l.getD i (0, 0) = v at *
            simp -implicitDefEqProofs [L_is_told_1, y1, ey]
          · simp only [List.length_append, List.length_cons, List.length_nil] at hj
            by_cases hj2 : j < pre.length
            · exact hi j hj2
            · have : j = i := by omega
              rw [this]; exact c
        · refine .inr (.inr ⟨.bool false, ?_, rfl, fun z => c (by rw [z])⟩)
          generalize ws.getD i (0, 0) = u at *
          generalize l.getD i (0, 0) = v at *
          simp -implicitDefEqProofs [L_is_told_1, y1, ey, c]) with ⟨ρ', h1, ⟨h2, h3⟩ | h2⟩ | ⟨r, h1, h2, h3⟩
    · obtain ⟨x2, x3, rfl⟩ := h2
      rw [List.length_range] at h3
      have hw : ws = l := by
        apply List.ext_getElem hll
        intro i hi1 hi2
        have := h3 i hi2
        simpa [List.getD_eq_getElem?_getD, hi1, hi2] using this
      rw [h1]
      simp [hw]
    · exact h2.elim
    · rw [h1, h2]
      simp [h3]
  · have hll' : ¬ (ws.length : Int) = l.length := by omega
    have : ws ≠ l := fun z => hll (by rw [z])
    simp -implicitDefEqProofs [hll', this]
end Hd
end

/-! part: K25f -/
section
set_option Elab.async false
set_option linter.all false
set_option maxRecDepth 100000
set_option maxHeartbeats 400000
namespace Hd
open PySem PySem.Spec Q
theorem e_ladder_holds (z0 : Nat × Nat) (zs : List (Nat × Nat)) (hl : zs.length ≤ 5) (hz : ∀ z ∈ z0 :: zs, okS z) (d : D) (r : List (Nat × Nat) → Bool) (h : ∀ l, ladA (z0 :: zs) = some l → Ph_is_told 4 [d, .tuple (l.map pS)] = some (.bool (r l))) :
    Ph_ladder_holds [.tuple ((z0 :: zs).map pS), d] = some (.bool (match ladA (z0 :: zs) with
      | none => false
      | some l => r l)) := by
  have e1 := e_ladder z0 zs hl hz _ (.inl rfl)
  generalize PyData.tuple ((z0 :: zs).map pS) = sw at *
  cases hL : ladA (z0 :: zs) with
  | none => simp -implicitDefEqProofs [Ph_ladder_holds, b_ladder_holds, e1, hL, ladD]
  | some l =>
    have e2 := h l hL
    simp -implicitDefEqProofs [Ph_ladder_holds, b_ladder_holds, e1, hL, ladD, e2]
/-! pairs -/
def dB (a b : Nat × Nat) (d : Nat) : Bool := decide (((a.2 : Int) - b.2) % (d : Int) ≠ 0)
theorem e_denies (a b : Nat × Nat) (d : Nat) (hd : 0 < d) : Ph_denies_pair [pS a, pS b, .int d] = some (.bool (dB a b d)) := by
  have h1 := modN (t := a.2) hd
  have h2 := modN (t := b.2) hd
  have h3 := nice_nat.ne (by decide) (a.2 % d) (b.2 % d)
  have e : dB a b d = !decide (a.2 % d = b.2 % d) := by
    unfold dB
    have : ((a.2 : Int) - b.2) % (d : Int) = 0 ↔ a.2 % d = b.2 % d := by
      rw [← Int.emod_eq_emod_iff_emod_sub_eq_zero, ← Int.natCast_emod, ← Int.natCast_emod]
      exact Int.ofNat_inj
    by_cases c : a.2 % d = b.2 % d
    · simp [c, this.mpr c]
    · simp [c, mt this.mp c]
  rw [e]
  generalize a.2 % d = u at *
  generalize b.2 % d = v at *
  simp -implicitDefEqProofs only [Ph_denies_pair, b_denies_pair, fnB_e, bRet_e, f2_e, vF_e, cD_e, List.map_cons, List.map_nil, List.length_cons, List.length_nil, List.getElem?_cons_zero, List.getElem?_cons_succ, List.cons_append, List.nil_append, imD_im, Option.bind_some, sx1, h1, h2, h3, Option.map_some, outB_r, if_true]
theorem gcdN (a b : Nat) : gcdD [.int (a : Int), .int (b : Int)] = some (.int (Nat.gcd a b : Nat)) := by
  show some (PyData.int ((Nat.gcd (a : Int).natAbs (b : Int).natAbs : Nat) : Int)) = _
  simp
def gij (zs : List (Nat × Nat)) (i j : Nat) : Nat := Nat.gcd (zs.getD i (0, 0)).1 (zs.getD j (0, 0)).1
def bij (zs : List (Nat × Nat)) (i j : Nat) : Bool := dB (zs.getD i (0, 0)) (zs.getD j (0, 0)) (gij zs i j)
def t3 (p : Nat × Nat × Nat) : D := .tuple [.int (p.1 : Int), .int (p.2.1 : Int), .int (p.2.2 : Int)]
theorem nice_t3 : Nice 1 t3 := nice_trip nice_nat nice_nat nice_nat
def rowD (zs : List (Nat × Nat)) (i : Nat) : List (Nat × Nat × Nat) := ((List.range zs.length).filter fun j => decide (i < j) && bij zs i j).map fun j => (i, j, gij zs i j)
def rowM (zs : List (Nat × Nat)) (i : Nat) : List (Nat × Nat) := ((List.range zs.length).filter fun j => decide (i < j) && !bij zs i j).map fun j => (i, j)
def denL (zs : List (Nat × Nat)) : List (Nat × Nat × Nat) := (List.range zs.length).flatMap (rowD zs)
def meetL (zs : List (Nat × Nat)) : List (Nat × Nat) := (List.range zs.length).flatMap (rowM zs)
def hd3 : List (Nat × Nat × Nat) → D
  | [] => .none
  | p :: _ => t3 p
section
variable (zs : List (Nat × Nat)) (hl : 1 ≤ zs.length ∧ zs.length ≤ 6) (hz : ∀ z ∈ zs, okS z)
include hl hz
theorem at_ok {i : Nat} (hi : i < zs.length) : okS (zs.getD i (0, 0)) := hz _ (by rw [List.getD_eq_getElem?_getD, List.getElem?_eq_getElem hi]; exact List.getElem_mem hi)
theorem gij_pos {i j : Nat} (hi : i < zs.length) : 0 < gij zs i j := Nat.gcd_pos_of_pos_left _ (at_ok zs hl hz hi).1
theorem e_denial : Ph_denial [.tuple (zs.map pS)] = some (hd3 (denL zs)) := by
  have e1 := e_to_swings zs hl hz _ (.inl rfl)
  have en := enum_mk (mk := pS) (0, 0) zs (.tuple (zs.map pS)) (.inr rfl)
  simp -implicitDefEqProofs [Ph_denial, b_denial, e1, e_need_t, en]
  simp only [← List.getD_eq_getElem?_getD]
  rcases forL_any (step := turnD (sT 2 (sCons (sN 1) (sCons (sN 2) (sNil)))) L_denial_2) (xs := List.range zs.length) (mk := fun (i : Nat) => .tuple [.int (i : Int), pS (zs.getD i (0, 0))])
    (fun pre ρ => (∃ x1 x2 x3 x4 x5, ρ = [.im (.tuple (zs.map pS)), x1, x2, x3, x4, x5]) ∧ pre.flatMap (rowD zs) = []) (fun _ => False) (fun r => r = hd3 (denL zs)) [.im (.tuple (zs.map pS)), .un, .un, .un, .un, .un]
    ⟨⟨_, _, _, _, _, rfl⟩, rfl⟩ (by
      rintro pre post ρ i ⟨⟨x1, x2, x3, x4, x5, rfl⟩, hi⟩ hx
      obtain ⟨g1, g2, g3⟩ := range_split hx
      have hden : denL zs = rowD zs i ++ post.flatMap (rowD zs) := by rw [denL, hx, List.flatMap_append, hi, List.flatMap_cons]; rfl
      have inner := forL_any (step := turnD (sT 2 (sCons (sN 3) (sCons (sN 4) (sNil)))) L_denial_1) (xs := List.range zs.length) (mk := fun (j : Nat) => .tuple [.int (j : Int), pS (zs.getD j (0, 0))])
        (fun pre ρ => (∃ x3 x4 x5, ρ = [.im (.tuple (zs.map pS)), .im (.int i), .im (pS (zs.getD i (0, 0))), x3, x4, x5]) ∧ pre.filter (fun j => decide (i < j) && bij zs i j) = []) (fun _ => False) (fun r => r = hd3 (denL zs)) [.im (.tuple (zs.map pS)), .im (.int i), .im (pS (zs.getD i (0, 0))), x3, x4, x5]
        ⟨⟨_, _, _, rfl⟩, rfl⟩ (by
          rintro pre2 post2 ρ j ⟨⟨y3, y4, y5, rfl⟩, hj⟩ hx2
          obtain ⟨k1, k2, k3⟩ := range_split hx2
          have hg := gcdN (zs.getD i (0, 0)).1 (zs.getD j (0, 0)).1
          have hde := e_denies (zs.getD i (0, 0)) (zs.getD j (0, 0)) (gij zs i j) (gij_pos zs hl hz g2)
          have eg : Nat.gcd (zs.getD i (0, 0)).1 (zs.getD j (0, 0)).1 = gij zs i j := rfl
          have eb : dB (zs.getD i (0, 0)) (zs.getD j (0, 0)) (gij zs i j) = bij zs i j := rfl
          rw [eg] at hg
          rw [eb] at hde
          by_cases c : (decide (i < j) && bij zs i j) = true
          · refine .inr (.inr ⟨t3 (i, j, gij zs i j), ?_, ?_⟩)
            · obtain ⟨c1, c2⟩ := Bool.and_eq_true_iff.mp c
              have c1' := of_decide_eq_true c1
              generalize zs.getD i (0, 0) = u at *
              generalize zs.getD j (0, 0) = v at *
              simp -implicitDefEqProofs [L_denial_1, sx0, hg, c1', hde, c2]
              rfl
            · rw [hden, rowD, hx2, List.filter_append, hj, List.nil_append, List.filter_cons_of_pos (p := fun j => decide (i < j) && bij zs i j) c]
              rfl
          · refine .inl ⟨[.im (.tuple (zs.map pS)), .im (.int i), .im (pS (zs.getD i (0, 0))), .im (.int j), .im (pS (zs.getD j (0, 0))), .im (.int (gij zs i j : Nat))], .inl ?_, ⟨_, _, _, rfl⟩, by rw [List.filter_append, hj, List.filter_cons_of_neg (p := fun j => decide (i < j) && bij zs i j) c]; rfl⟩
            generalize zs.getD i (0, 0) = u at *
            generalize zs.getD j (0, 0) = v at *
            by_cases c1 : i < j
            · have c2 : bij zs i j = false := by simpa [c1] using c
              simp -implicitDefEqProofs [L_denial_1, sx0, hg, c1, hde, c2]
            · simp -implicitDefEqProofs [L_denial_1, sx0, hg, c1])
      rcases inner with ⟨ρ', h1, ⟨⟨y3, y4, y5, rfl⟩, h3⟩ | h2⟩ | ⟨r, h1, h2⟩
      · refine .inl ⟨[.im (.tuple (zs.map pS)), .im (.int i), .im (pS (zs.getD i (0, 0))), y3, y4, y5], .inl ?_, ⟨_, _, _, _, _, rfl⟩, by rw [List.flatMap_append, hi, List.flatMap_cons, rowD, h3]; rfl⟩
        simp -implicitDefEqProofs [L_denial_2, en]
        simp only [← List.getD_eq_getElem?_getD]
        exact h1
      · exact h2.elim
      · refine .inr (.inr ⟨r, ?_, h2⟩)
        simp -implicitDefEqProofs [L_denial_2, en]
        simp only [← List.getD_eq_getElem?_getD]
        exact h1) with ⟨ρ', h1, ⟨h2, h3⟩ | h2⟩ | ⟨r, h1, h2⟩
  · rw [h1]
    have : denL zs = [] := h3
    rw [this]
    simp [hd3]
  · exact h2.elim
  · rw [h1, h2]
    simp
theorem e_pairs : Ph_pairs [.tuple (zs.map pS)] = some (.tuple ((meetL zs).map pS)) := by
  have hline := line_ge
  have e1 := e_to_swings zs hl hz _ (.inl rfl)
  have en := enum_mk (mk := pS) (0, 0) zs (.tuple (zs.map pS)) (.inr rfl)
  simp -implicitDefEqProofs [Ph_pairs, b_pairs, e1, e_need_t, en]
  simp only [← List.getD_eq_getElem?_getD]
  have hrow : ∀ i, (rowM zs i).length ≤ 6 := fun i => by
    have := List.length_filter_le (fun j => decide (i < j) && !bij zs i j) (List.range zs.length)
    simp only [rowM, List.length_map, List.length_range] at *
    omega
  have hfl : ∀ l : List Nat, (l.flatMap (rowM zs)).length ≤ 6 * l.length := fun l => by
    induction l with
    | nil => simp
    | cons x l ih =>
      have := hrow x
      simp only [List.flatMap_cons, List.length_append, List.length_cons]
      omega
  obtain ⟨ρ', h1, x2, x3, x4, x5, h2⟩ := forL_all (step := turnD (sT 2 (sCons (sN 2) (sCons (sN 3) (sNil)))) L_pairs_2) (xs := List.range zs.length) (mk := fun (i : Nat) => .tuple [.int (i : Int), pS (zs.getD i (0, 0))])
    (fun pre ρ => ∃ x2 x3 x4 x5, ρ = [.im (.tuple (zs.map pS)), .ow (.list ((pre.flatMap (rowM zs)).map pS)), x2, x3, x4, x5]) [.im (.tuple (zs.map pS)), .ow (.list []), .un, .un, .un, .un] ⟨_, _, _, _, rfl⟩ (by
      rintro pre post ρ i ⟨x2, x3, x4, x5, rfl⟩ hx
      obtain ⟨g1, g2, g3⟩ := range_split hx
      have hf := hfl pre
      have hlt := split_len hx
      rw [List.length_range] at hlt
      generalize hF : pre.flatMap (rowM zs) = F at *
      obtain ⟨ρ2, f1, y4, y5, f2⟩ := forL_all (step := turnD (sT 2 (sCons (sN 4) (sCons (sN 5) (sNil)))) L_pairs_1) (xs := List.range zs.length) (mk := fun (j : Nat) => .tuple [.int (j : Int), pS (zs.getD j (0, 0))])
        (fun pre ρ => ∃ x4 x5, ρ = [.im (.tuple (zs.map pS)), .ow (.list ((F ++ (pre.filter fun j => decide (i < j) && !bij zs i j).map fun j => (i, j)).map pS)), .im (.int i), .im (pS (zs.getD i (0, 0))), x4, x5]) [.im (.tuple (zs.map pS)), .ow (.list (F.map pS)), .im (.int i), .im (pS (zs.getD i (0, 0))), x4, x5]
        ⟨x4, x5, by simp⟩ (by
          rintro pre2 post2 ρ j ⟨y4, y5, rfl⟩ hx2
          obtain ⟨k1, k2, k3⟩ := range_split hx2
          have hfil := List.length_filter_le (fun j => decide (i < j) && !bij zs i j) pre2
          have hb : F.length + (pre2.filter fun j => decide (i < j) && !bij zs i j).length < sizeLine := by omega
          have hg := gcdN (zs.getD i (0, 0)).1 (zs.getD j (0, 0)).1
          have hde := e_denies (zs.getD i (0, 0)) (zs.getD j (0, 0)) (gij zs i j) (gij_pos zs hl hz g2)
          have eg : Nat.gcd (zs.getD i (0, 0)).1 (zs.getD j (0, 0)).1 = gij zs i j := rfl
          have eb : dB (zs.getD i (0, 0)) (zs.getD j (0, 0)) (gij zs i j) = bij zs i j := rfl
          rw [eg] at hg
          rw [eb] at hde
          refine ⟨[.im (.tuple (zs.map pS)), .ow (.list ((F ++ ((pre2 ++ [j]).filter fun j => decide (i < j) && !bij zs i j).map fun j => (i, j)).map pS)), .im (.int i), .im (pS (zs.getD i (0, 0))), .im (.int j), .im (pS (zs.getD j (0, 0)))], .inl ?_, _, _, rfl⟩
          rw [List.filter_append]
          generalize hG : pre2.filter (fun j => decide (i < j) && !bij zs i j) = G at *
          generalize zs.getD i (0, 0) = u at *
          generalize zs.getD j (0, 0) = v at *
          by_cases c1 : i < j
          · cases c2 : bij zs i j with
            | true => simp -implicitDefEqProofs [L_pairs_1, sx0, hg, c1, hde, c2]
            | false =>
              simp -implicitDefEqProofs [L_pairs_1, sx0, hg, c1, hde, c2, hb]
              rfl
          · simp -implicitDefEqProofs [L_pairs_1, c1])
      refine ⟨[.im (.tuple (zs.map pS)), .ow (.list (((pre ++ [i]).flatMap (rowM zs)).map pS)), .im (.int i), .im (pS (zs.getD i (0, 0))), y4, y5], .inl ?_, _, _, _, _, rfl⟩
      simp -implicitDefEqProofs [L_pairs_2, en]
      simp only [← List.getD_eq_getElem?_getD]
      rw [f1, f2, hF]
      simp [rowM])
  rw [h1]
  subst h2
  simp [meetL]
end
end Hd
end

/-! part: K25g -/
section
set_option Elab.async false
set_option linter.all false
set_option maxRecDepth 100000
set_option maxHeartbeats 400000
namespace Hd
open PySem PySem.Spec Q
theorem at_lastS (l : List (Nat × Nat)) (h : l ≠ []) : L2.atI (l.map pS) (-1) = some (pS (l.getLastD (0, 0))) := by
  have hl : 0 < l.length := List.length_pos_iff.mpr h
  unfold L2.atI L2.ixN
  rw [if_neg (by omega), List.length_map, if_pos (by omega), Option.bind_some, List.getElem?_map]
  have e : ((-1 : Int) + l.length).toNat = l.length - 1 := by omega
  rw [e, ← List.getLast?_eq_getElem?, List.getLast?_eq_some_getLast h]
  simp [List.getLastD_eq_getLast?, List.getLast?_eq_some_getLast h]
theorem lad_ne (zs : List (Nat × Nat)) (l : List (Nat × Nat)) (h : ladA zs = some l) : l ≠ [] := by
  cases zs with
  | nil => cases h
  | cons z zs =>
    rw [ladA, Option.map_eq_some_iff] at h
    obtain ⟨r, _, rfl⟩ := h
    simp
def togD : Option (List (Nat × Nat)) → D
  | none => .none
  | some l => .int ((l.getLastD (0, 0)).1 : Nat)
theorem e_together (z0 : Nat × Nat) (zs : List (Nat × Nat)) (hl : zs.length ≤ 5) (hz : ∀ z ∈ z0 :: zs, okS z) : Ph_together [.tuple ((z0 :: zs).map pS)] = some (togD (ladA (z0 :: zs))) := by
  have e1 := e_ladder z0 zs hl hz _ (.inl rfl)
  generalize PyData.tuple ((z0 :: zs).map pS) = sw at *
  cases hL : ladA (z0 :: zs) with
  | none => simp -implicitDefEqProofs [Ph_together, b_together, e1, hL, ladD, togD]
  | some l =>
    have := at_lastS l (lad_ne _ _ hL)
    simp -implicitDefEqProofs [Ph_together, b_together, e1, hL, ladD, togD, this, sx0]
def mx : List Int → Int
  | [] => 0
  | n :: ns => ns.foldl max n
theorem max_l (ns : List Int) (h : ns ≠ []) : maxA [.list (ns.map .int)] = some (.int (mx ns)) := by
  cases ns with
  | nil => exact absurd rfl h
  | cons n ns => rw [maxA, items_l, Option.bind_some, maxOf_i]; rfl
theorem foldmax_mem : ∀ (ns : List Int) (n : Int), ns.foldl max n ∈ n :: ns
  | [], n => by simp
  | a :: ns, n => by
    rw [List.foldl_cons]
    have := foldmax_mem ns (max n a)
    rcases List.mem_cons.mp this with h | h
    · rw [h]
      by_cases c : n ≤ a
      · rw [Int.max_eq_right c]; simp
      · rw [Int.max_eq_left (by omega)]; simp
    · exact List.mem_cons_of_mem _ (List.mem_cons_of_mem _ h)
theorem mx_mem {ns : List Int} (h : ns ≠ []) : mx ns ∈ ns := by
  cases ns with
  | nil => exact absurd rfl h
  | cons n ns => exact foldmax_mem ns n
def dueB (zs : List (Nat × Nat)) (i j d : Nat) : Bool := decide (i < j) && (decide (1 < d) && (decide ((zs.getD i (0, 0)).1 % d = 0) && (decide ((zs.getD j (0, 0)).1 % d = 0) && dB (zs.getD i (0, 0)) (zs.getD j (0, 0)) d)))
def timesL (f w : Nat) : List Nat := (List.range (w + 1)).map (f + ·)
theorem rg_times (f w : Nat) (hf : f ≤ 1000) (hw : w ≤ 1000) : rg2D [.int (f : Int), .int ((f : Int) + w + 1)] = some ((timesL f w).map fun (t : Nat) => .int (t : Int)) := by
  rw [rg2_n (by omega) (by omega), timesL, List.map_map]
  congr 1
  have e : ((f : Int) + w + 1 - f).toNat = w + 1 := by omega
  rw [e]
  exact List.map_congr_left fun i _ => by simp
section
variable (zs : List (Nat × Nat)) (hl : 1 ≤ zs.length ∧ zs.length ≤ 6) (hz : ∀ z ∈ zs, okS z)
include hl hz
theorem e_denial_holds (i j d : Nat) (hi : i < zs.length) (hj : j < zs.length) (hd : 1 ≤ d ∧ d ≤ 6) : Ph_denial_holds [.tuple (zs.map pS), .list [.int i, .int j, .int d]] = some (.bool (dueB zs i j d)) := by
  have e1 := e_to_swings zs hl hz _ (.inl rfl)
  have e2 := e_to_ints_l [(i : Int), (j : Int), (d : Int)] 0 60 3 3 (by simp) (by simp) (by
    intro n hn
    simp at hn
    rcases hn with rfl | rfl | rfl <;> omega)
  simp only [List.map_cons, List.map_nil] at e2
  have a1 := at_mk (mk := pS) zs (0, 0) hi
  have a2 := at_mk (mk := pS) zs (0, 0) hj
  have e3 := e_denies (zs.getD i (0, 0)) (zs.getD j (0, 0)) d hd.1
  have m1 := modN (t := (zs.getD i (0, 0)).1) (show 0 < d from hd.1)
  have m2 := modN (t := (zs.getD j (0, 0)).1) (show 0 < d from hd.1)
  have n1 := nice_nat.ne (by decide) ((zs.getD i (0, 0)).1 % d) 0
  have n2 := nice_nat.ne (by decide) ((zs.getD j (0, 0)).1 % d) 0
  unfold dueB
  generalize zs.getD i (0, 0) = u at *
  generalize zs.getD j (0, 0) = v at *
  generalize u.1 % d = p at *
  generalize v.1 % d = q at *
  simp only [Int.natCast_zero] at n1 n2
  have hj' : (j : Int) < zs.length := by omega
  by_cases c1 : i < j
  · have c1' : (i : Int) < j := by omega
    by_cases c2 : 1 < d
    · have c2' : ¬ (d : Int) < 2 := by omega
      by_cases c3 : p = 0
      · by_cases c4 : q = 0
        · simp -implicitDefEqProofs [Ph_denial_holds, b_denial_holds, e1, e_need_t, e2, hj', c1, c1', c2, c2', a1, a2, sx0, m1, m2, n1, n2, c3, c4, e3]
        · simp -implicitDefEqProofs [Ph_denial_holds, b_denial_holds, e1, e_need_t, e2, hj', c1, c1', c2, c2', a1, a2, sx0, m1, m2, n1, n2, c3, c4, e3]
      · simp -implicitDefEqProofs [Ph_denial_holds, b_denial_holds, e1, e_need_t, e2, hj', c1, c1', c2, c2', a1, a2, sx0, m1, m2, n1, n2, c3, e3]
    · have c2' : (d : Int) < 2 := by omega
      simp -implicitDefEqProofs [Ph_denial_holds, b_denial_holds, e1, e_need_t, e2, hj', c1, c1', c2, c2']
  · have c1' : ¬ (i : Int) < j := by omega
    simp -implicitDefEqProofs [Ph_denial_holds, b_denial_holds, e1, e_need_t, e2, c1, c1']
theorem e_clear (f w : Nat) (hf : f ≤ 1000) (hw : w ≤ 1000) : Ph_clear [.tuple (zs.map pS), .int f, .int ((f : Int) + w)] = some (.tuple (((timesL f w).filter fun t => decide (cntF zs t = 0)).map fun (t : Nat) => .int (t : Int))) := by
  have e1 := e_to_swings zs hl hz _ (.inl rfl)
  simp -implicitDefEqProofs [Ph_clear, b_clear, e1, e_need_t, e_need_within (.int 2) f 0 9999 (by omega), e_need_within (.int 3) ((f : Int) + w) 0 9999 (by omega), rg_times f w hf hw]
  rw [lcL_map (p := fun t => decide (cntF zs t = 0)) (g := fun (t : Nat) => .int (t : Int)) (fun t _ => by
    have h1 := e_count zs (by omega) hz t
    have h2 := eqN (cntF zs t) 0
    simp only [Int.natCast_zero] at h2
    simp [h1, h2]) (fun t _ _ => by simp), Option.bind_some, lcB_small (by
      have := List.length_filter_le (fun t => decide (cntF zs t = 0)) (timesL f w)
      simp only [timesL, List.length_map, List.length_range] at *
      omega)]
  simp
theorem e_need_time (t : Nat) (d : D) : Ph_need_time [d, .int t] = some (.int t) := by
  have h1 := e_need_within d (t : Int) 0 t (by omega)
  simp -implicitDefEqProofs [Ph_need_time, b_need_time, Ph_need_int, b_need_int, e_is_int, h1]
theorem e_how_many (t : Nat) : Ph_how_many [.tuple (zs.map pS), .int t] = some (.int (cntF zs t : Nat)) := by
  have e1 := e_to_swings zs hl hz _ (.inl rfl)
  simp -implicitDefEqProofs [Ph_how_many, b_how_many, e1, e_need_t, e_need_time zs hl hz, e_count zs (by omega) hz t]
def everyL (zs : List (Nat × Nat)) (w : Nat) : List Int := (List.range w).map fun t => (cntF zs t : Int)
def mostD (zs : List (Nat × Nat)) (w : Nat) : D := .tuple [.int (mx (everyL zs w)), .int ((everyL zs w).idxOf (mx (everyL zs w)) : Nat)]
theorem e_most (hw : lcmF zs ≤ 3000) : Ph_most [.tuple (zs.map pS)] = some (mostD zs (lcmF zs)) := by
  have e1 := e_again zs hl hz
  have hp := (fold_b zs hz).1
  have h0 : ¬ (20000 : Int) < (lcmF zs : Nat) := by omega
  have hne : everyL zs (lcmF zs) ≠ [] := fun z => by
    have := congrArg List.length z
    simp [everyL] at this
    unfold lcmF at this
    omega
  simp -implicitDefEqProofs [Ph_most, b_most, e1, h0, rg1_n (k := lcmF zs) (by omega)]
  rw [lcL_all (g := fun t => .int (cntF zs t : Nat)) (by simp) (fun t _ => by simp [e_count zs (by omega) hz t]), Option.bind_some, lcB_small (by simp; omega)]
  have e : ((List.range (lcmF zs)).map fun t => PyData.int (cntF zs t : Nat)) = (everyL zs (lcmF zs)).map .int := by rw [everyL, List.map_map]; rfl
  rw [e, mostD]
  generalize everyL zs (lcmF zs) = E at *
  simp -implicitDefEqProofs [max_l _ hne, nice_int.idx_l (by decide) _ _ (mx_mem hne)]
end
theorem e_fronts (z : Nat × Nat) (h : okS z) (f w : Nat) (hf : f ≤ 1000) (hw : w ≤ 1000) : Ph_fronts [pS z, .int f, .int ((f : Int) + w)] = some (.tuple (((timesL f w).filter (onB z)).map fun (t : Nat) => .int (t : Int))) := by
  have e1 := e_to_swing z h _ (.inl rfl)
  have n1 : Ph_need [.int 1, pS z] = some (pS z) := e_need_t _ _
  simp -implicitDefEqProofs [Ph_fronts, b_fronts, e1, n1, e_need_within (.int 2) f 0 9999 (by omega), e_need_within (.int 3) ((f : Int) + w) 0 9999 (by omega), rg_times f w hf hw]
  rw [lcL_map (p := onB z) (g := fun (t : Nat) => .int (t : Int)) (fun t _ => by simp [e_is_front z h t]) (fun t _ _ => by simp), Option.bind_some, lcB_small (by
      have := List.length_filter_le (onB z) (timesL f w)
      simp only [timesL, List.length_map, List.length_range] at *
      omega)]
  simp
theorem e_front (z : Nat × Nat) (h : okS z) (t : Nat) : Ph_front [lS z, .int t] = some (.bool (onB z t)) := by
  have e1 := e_to_swing z h _ (.inr rfl)
  have n1 : Ph_need [.int 1, pS z] = some (pS z) := e_need_t _ _
  have e2 : Ph_need_time [.int 2, .int t] = some (.int t) := by
    have h1 := e_need_within (.int 2) (t : Int) 0 t (by omega)
    simp -implicitDefEqProofs [Ph_need_time, b_need_time, Ph_need_int, b_need_int, e_is_int, h1]
  simp -implicitDefEqProofs [Ph_front, b_front, e1, n1, e2, e_is_front z h t]
end Hd
end

/-! part: K25h -/
section
set_option Elab.async false
set_option linter.all false
set_option maxRecDepth 100000
set_option maxHeartbeats 400000
namespace Hd
open PySem PySem.Spec Q
def T5_law : Bd := bSeq (bAsg 7 (f2 modD (fB (Ph__law_cell) (aCons (vF 0) (aCons (cD (.int 4)) (aNil)))) (cD (.int 200)))) (bSeq (bAsg 8 (f2 addD (vF 7) (f2 modD (fB (Ph__law_cell) (aCons (vF 0) (aCons (cD (.int 5)) (aNil)))) (cD (.int 60))))) (bSeq (bAsg 9 (f2 lr2D (vF 7) (f2 addD (vF 8) (cD (.int 1))))) (bSeq (bFor (fI (vF 1)) (sN 10) (L_law_7)) (bSeq (bAsg 11 (fLc (fI (vF 9)) (sN 19) (fYes) (fB lenD (aCons (fLc (fI (vF 1)) (sN 10) (fT (f2 eqD (f2 modD (vF 19) (f2 ixD (vF 10) (cD (.int 0)))) (f2 ixD (vF 10) (cD (.int 1))))) (vF 10) [10]) (aNil))) [19])) (bSeq (bIf (fOrT (fNotT (fTr (fB (Ph__law_same 4) (aCons (fB (Ph_clear) (aCons (vF 1) (aCons (vF 7) (aCons (vF 8) (aNil))))) (aCons (fB tupD (aCons (fLc (fIs rg1D (aCons (fB lenD (aCons (vF 9) (aNil))) (aNil))) (sN 15) (fT (f2 eqD (f2 ixD (vF 11) (vF 15)) (cD (.int 0)))) (f2 ixD (vF 9) (vF 15)) [15]) (aNil))) (aNil)))))) (fT (f2 neD (fB (Ph_how_many) (aCons (vF 1) (aCons (vF 7) (aNil)))) (f2 ixD (vF 11) (cD (.int 0)))))) (bRet (cD (.bool false))) (bNext)) (bSeq (bIf (fT (f2 gtD (vF 3) (cD (.int 3000)))) (bRet (cD (.bool true))) (bNext)) (bSeq (bAsg 12 (fLc (fIs rg1D (aCons (vF 3) (aNil))) (sN 19) (fYes) (fB lenD (aCons (fLc (fI (vF 1)) (sN 10) (fT (f2 eqD (f2 modD (vF 19) (f2 ixD (vF 10) (cD (.int 0)))) (f2 ixD (vF 10) (cD (.int 1))))) (vF 10) [10]) (aNil))) [19])) (bRet (fB (Ph__law_same 4) (aCons (fB (Ph_most) (aCons (vF 1) (aNil))) (aCons (fTup (aCons (fB maxA (aCons (vF 12) (aNil))) (aCons (f2 idxD (vF 12) (fB maxA (aCons (vF 12) (aNil)))) (aNil)))) (aNil))))))))))))
def T4_law : Bd := bSeq (bFor (fIs rg1D (aCons (fB lenD (aCons (vF 1) (aNil))) (aNil))) (sN 6) (L_law_6)) (T5_law)
def T3_law : Bd := bSeq (bOwn 4 (fLst (aNil))) (bSeq (bOwn 5 (fLst (aNil))) (bSeq (bFor (fIs rg1D (aCons (fB lenD (aCons (vF 1) (aNil))) (aNil))) (sN 6) (L_law_3)) (bSeq (bIf (fOrT (fT (f2 neD (f2 eqD (vP 4) (fLst (aNil))) (f2 notND (vF 2) (cD .none)))) (fOrT (fNotT (fTr (fB (Ph__law_same 4) (aCons (fB (Ph_denial) (aCons (vF 1) (aNil))) (aCons (fIf (fT (f2 neD (vP 4) (fLst (aNil)))) (f2 ixD (vP 4) (cD (.int 0))) (cD .none)) (aNil)))))) (fNotT (fTr (fB (Ph__law_same 4) (aCons (fB (Ph_pairs) (aCons (vF 1) (aNil))) (aCons (fB tupD (aCons (vP 5) (aNil))) (aNil)))))))) (bRet (cD (.bool false))) (bNext)) (T4_law))))
def T2_law : Bd := bSeq (bIf (fT (f2 notND (vF 2) (cD .none))) (bSeq (bAsg 15 (f2 modD (fB (Ph__law_cell) (aCons (vF 0) (aCons (cD (.int 3)) (aNil)))) (fB lenD (aCons (vF 2) (aNil))))) (bSeq (bAsg 16 (fLst (aCons (cD (.int 7)) (aCons (fSl (vF 2) (oIs (cD (.int 1))) (oNo)) (aCons (f2 addD (f2 addD (fSl (vF 2) (oNo) (oIs (vF 15))) (fTup (aCons (fTup (aCons (f2 addD (f2 ixD (f2 ixD (vF 2) (vF 15)) (cD (.int 0))) (cD (.int 1))) (aCons (f2 ixD (f2 ixD (vF 2) (vF 15)) (cD (.int 1))) (aNil)))) (aNil)))) (fSl (vF 2) (oIs (f2 addD (vF 15) (cD (.int 1)))) (oNo))) (aCons (f2 addD (f2 addD (fSl (vF 2) (oNo) (oIs (vF 15))) (fTup (aCons (fTup (aCons (f2 ixD (f2 ixD (vF 2) (vF 15)) (cD (.int 0))) (aCons (f2 addD (f2 ixD (f2 ixD (vF 2) (vF 15)) (cD (.int 1))) (cD (.int 1))) (aNil)))) (aNil)))) (fSl (vF 2) (oIs (f2 addD (vF 15) (cD (.int 1)))) (oNo))) (aCons (f2 addD (f2 addD (fSl (vF 2) (oNo) (oIs (vF 15))) (fTup (aCons (fTup (aCons (f2 addD (f2 ixD (f2 ixD (vF 2) (vF 15)) (cD (.int 0))) (f2 ixD (f2 ixD (vF 2) (vF 15)) (cD (.int 1)))) (aCons (f2 ixD (f2 ixD (vF 2) (vF 15)) (cD (.int 1))) (aNil)))) (aNil)))) (fSl (vF 2) (oIs (f2 addD (vF 15) (cD (.int 1)))) (oNo))) (aNil)))))))) (bIf (fOrT (fT (f2 notBD (fB (Ph_ladder_holds) (aCons (vF 1) (aCons (fB (Ph__law_listed 4) (aCons (vF 2) (aNil))) (aNil)))) (cD (.bool true)))) (fT (f2 neD (fLc (fI (vF 16)) (sN 21) (fT (f2 notBD (fB (Ph_ladder_holds) (aCons (vF 1) (aCons (vF 21) (aNil)))) (cD (.bool false)))) (vF 21) [21]) (fLst (aNil))))) (bRet (cD (.bool false))) (bNext)))) (bIf (fT (f2 notBD (fB (Ph_ladder_holds) (aCons (vF 1) (aCons (f2 repTD (fTup (aCons (fTup (aCons (cD (.int 0)) (aCons (cD (.int 1)) (aNil)))) (aNil))) (fB lenD (aCons (vF 1) (aNil)))) (aNil)))) (cD (.bool false)))) (bRet (cD (.bool false))) (bNext))) (T3_law)
def T1_law : Bd := bSeq (bAsg 3 (cD (.int 1))) (bSeq (bFor (fI (vF 1)) (sT 2 (sCons (sN 13) (sCons (sN 14) (sNil)))) (L_law_1)) (bSeq (bIf (fT (f2 neD (fB (Ph_again) (aCons (vF 1) (aNil))) (vF 3))) (bRet (cD (.bool false))) (bNext)) (T2_law)))
def b_law2 : Bd := bSeq (bAsg 1 (fB (Ph__law_swings) (aCons (fB (Ph__law_numbers) (aCons (vF 0) (aCons (cD (.int 0)) (aCons (f2 addD (cD (.int 1)) (f2 modD (fB (Ph__law_cell) (aCons (vF 0) (aCons (cD (.int 1)) (aNil)))) (cD (.int 4)))) (aNil))))) (aCons (f2 eqD (f2 modD (fB (Ph__law_cell) (aCons (vF 0) (aCons (cD (.int 2)) (aNil)))) (cD (.int 5))) (cD (.int 0))) (aNil))))) (bSeq (bAsg 2 (fB (Ph__law_ladder) (aCons (vF 1) (aNil)))) (bSeq (bIf (fOrT (fNotT (fTr (fB (Ph__law_same 4) (aCons (fB (Ph_ladder) (aCons (fB (Ph__law_listed 4) (aCons (vF 1) (aNil))) (aNil))) (aCons (vF 2) (aNil)))))) (fNotT (fTr (fB (Ph__law_same 4) (aCons (fB (Ph_together) (aCons (vF 1) (aNil))) (aCons (fIf (fT (f2 notND (vF 2) (cD .none))) (f2 ixD (f2 ixD (vF 2) (f1 negD (cD (.int 1)))) (cD (.int 0))) (cD .none)) (aNil))))))) (bRet (cD (.bool false))) (bNext)) (T1_law)))
theorem b_law_eq : b_law = b_law2 := rfl
theorem times_len (f w : Nat) : (timesL f w).length = w + 1 := by simp [timesL]
theorem lr_times (f w : Nat) (hf : f ≤ 1000) (hw : w ≤ 1000) : lr2D (.int (f : Int)) (.int ((f : Int) + w + 1)) = some (.list ((timesL f w).map fun (t : Nat) => .int (t : Int))) := by
  rw [lr2D, if_pos (by omega), timesL, List.map_map]
  congr 2
  have e : ((f : Int) + w + 1 - f).toNat = w + 1 := by omega
  rw [e, rgD]
  exact List.map_congr_left fun i _ => by simp
theorem at_times (f w k : Nat) (hk : k < w + 1) : L2.atI ((timesL f w).map fun (t : Nat) => PyData.int (t : Int)) (k : Int) = some (.int ((f + k : Nat) : Int)) := by
  rw [at_mk (mk := fun (t : Nat) => PyData.int (t : Int)) (timesL f w) 0 (by rw [times_len]; exact hk)]
  simp [timesL, List.getD_eq_getElem?_getD, hk]
section
variable (ns : List Int) (zs : List (Nat × Nat)) (hl : 1 ≤ zs.length ∧ zs.length ≤ 4) (hz : ∀ z ∈ zs, okS z)
include hl hz
theorem inner (t : Nat) (x0 x2 x3 x4 x5 x6 x7 x8 x9 x10 x11 x12 x13 x14 x15 x16 x17 x18 x20 x21 : Sl) :
    (fLc (fI (vF 1)) (sN 10) (fT (f2 eqD (f2 modD (vF 19) (f2 ixD (vF 10) (cD (.int 0)))) (f2 ixD (vF 10) (cD (.int 1))))) (vF 10) [10])
      [x0, .im (.tuple (zs.map pS)), x2, x3, x4, x5, x6, x7, x8, x9, x10, x11, x12, x13, x14, x15, x16, x17, x18, .im (.int (t : Int)), x20, x21] = some (.list ((zs.filter fun z => onB z t).map pS)) := by
  simp -implicitDefEqProofs
  rw [lcL_map (p := fun z => onB z t) (g := pS) (fun z h => by
    have h1 := modN (t := t) (show 0 < z.1 from (hz z h).1)
    have h2 : eqD (.int ((t % z.1 : Nat) : Int)) (.int (z.2 : Int)) = some (.bool (onB z t)) := eqN _ _
    generalize t % z.1 = u at *
    simp -implicitDefEqProofs [sx0, sx1, h1, h2]) (fun z _ _ => by simp), Option.bind_some, lcB_small (by
    have := List.length_filter_le (fun z => onB z t) zs
    rw [List.length_map]; omega)]
theorem law_T5 (x2 x4 x5 x6 x7 x8 x9 x10 x11 x12 x13 x14 x15 x16 x17 x18 x19 x20 x21 : Sl) :
    T5_law [.im (.list (ns.map .int)), .im (.tuple (zs.map pS)), x2, .im (.int (lcmF zs : Nat)), x4, x5, x6, x7, x8, x9, x10, x11, x12, x13, x14, x15, x16, x17, x18, x19, x20, x21] = some (.rt (.bool true)) := by
  have hline := line_ge
  have hc4 : Ph__law_cell [.list (ns.map .int), .int 4] = some (.int (ns.getD 4 0)) := e_cell ns 4
  have hc5 : Ph__law_cell [.list (ns.map .int), .int 5] = some (.int (ns.getD 5 0)) := e_cell ns 5
  obtain ⟨f, hf1, hf2⟩ := mod_nat (ns[4]?.getD 0) (show (0 : Int) < 200 by decide)
  obtain ⟨w, hw1, hw2⟩ := mod_nat (ns[5]?.getD 0) (show (0 : Int) < 60 by decide)
  have hlr := lr_times f w (by omega) (by omega)
  simp -implicitDefEqProofs [T5_law, hc4]
  rw [hf1]
  simp -implicitDefEqProofs [hc5]
  rw [hw1]
  simp -implicitDefEqProofs [hlr]
  have es : ∀ xs : List Nat, xs.length ≤ 1000 → Ph__law_same 4 [.tuple (xs.map fun (t : Nat) => .int (t : Int)), .tuple (xs.map fun (t : Nat) => .int (t : Int))] = some (.bool true) := fun xs h => e_same_r 4 _ (tame_mk (n := 3) (fun t => rfl) xs h)
  have es2 : ∀ b : Bool, Ph__law_same 4 [.bool b, .bool b] = some (.bool true) := fun b => e_same_r 4 _ rfl
  obtain ⟨ρ', h1, y10, y19, h2⟩ := forL_all (step := turnD (sN 10) L_law_7) (xs := zs) (mk := pS) (fun pre (ρ : Rho) => ∃ x10 x19, ρ = [.im (.list (ns.map .int)), .im (.tuple (zs.map pS)), x2, .im (.int (lcmF zs : Nat)), x4, x5, x6, .im (.int f), .im (.int ((f : Int) + w)), .im (.list ((timesL f w).map fun (t : Nat) => .int (t : Int))), x10, x11, x12, x13, x14, x15, x16, x17, x18, x19, x20, x21])
    [.im (.list (ns.map .int)), .im (.tuple (zs.map pS)), x2, .im (.int (lcmF zs : Nat)), x4, x5, x6, .im (.int f), .im (.int ((f : Int) + w)), .im (.list ((timesL f w).map fun (t : Nat) => .int (t : Int))), x10, x11, x12, x13, x14, x15, x16, x17, x18, x19, x20, x21] ⟨_, _, rfl⟩ (by
    rintro pre post ρ z ⟨y10, y19, rfl⟩ hx
    have hzz := hz z (split_mem hx)
    have e1 := e_fronts z hzz f w (by omega) (by omega)
    have e2 := e_front z hzz f
    have e3 : Ph__law_listed 4 [pS z] = some (lS z) := e_listed_g 4 _ (tame_two rfl rfl)
    refine ⟨[.im (.list (ns.map .int)), .im (.tuple (zs.map pS)), x2, .im (.int (lcmF zs : Nat)), x4, x5, x6, .im (.int f), .im (.int ((f : Int) + w)), .im (.list ((timesL f w).map fun (t : Nat) => .int (t : Int))), .im (pS z), x11, x12, x13, x14, x15, x16, x17, x18, y19, x20, x21], .inl ?_, _, _, rfl⟩
    have hm : ∀ t : Nat, modD (.int (t : Int)) (.int (z.1 : Int)) = some (.int ((t % z.1 : Nat) : Int)) := fun t => modN hzz.1
    have he : ∀ t : Nat, eqD (.int ((t % z.1 : Nat) : Int)) (.int (z.2 : Int)) = some (.bool (onB z t)) := fun t => eqN _ _
    have hfl := List.length_filter_le (onB z) (timesL f w)
    rw [times_len] at hfl
    have hcomp : (fLc (fI (vF 9)) (sN 19) (fT (f2 eqD (f2 modD (vF 19) (f2 ixD (vF 10) (cD (.int 0)))) (f2 ixD (vF 10) (cD (.int 1))))) (vF 19) [19])
        [.im (.list (ns.map .int)), .im (.tuple (zs.map pS)), x2, .im (.int (lcmF zs : Nat)), x4, x5, x6, .im (.int f), .im (.int ((f : Int) + w)), .im (.list ((timesL f w).map fun (t : Nat) => .int (t : Int))), .im (pS z), x11, x12, x13, x14, x15, x16, x17, x18, y19, x20, x21] = some (.list (((timesL f w).filter (onB z)).map fun (t : Nat) => .int (t : Int))) := by
      simp -implicitDefEqProofs
      rw [lcL_map (p := onB z) (g := fun (t : Nat) => .int (t : Int)) (fun t _ => by
        have h1 := hm t
        have h2 := he t
        generalize t % z.1 = u at *
        simp -implicitDefEqProofs [sx0, sx1, h1, h2]) (fun t _ _ => by simp), Option.bind_some, lcB_small (by rw [List.length_map]; omega)]
    have hmf := hm f
    have hef := he f
    generalize f % z.1 = u at *
    simp -implicitDefEqProofs only [turnD_e, sN_e, List.set_cons_succ, List.set_cons_zero, Option.bind_some, L_law_7, bIf_e, fOrT_e, fNotT_e, fTr_e, fB_e, aCons_e, aNil_e, vF_e, List.getElem?_cons_zero, List.getElem?_cons_succ, imD_im, hcomp]
    simp -implicitDefEqProofs [e1, es _ (show ((timesL f w).filter (onB z)).length ≤ 1000 by omega), e3, e2, sx0, sx1, hmf, hef, es2])
  rw [h1]
  subst h2
  have hcnt : (fLc (fI (vF 9)) (sN 19) (fYes) (fB lenD (aCons (fLc (fI (vF 1)) (sN 10) (fT (f2 eqD (f2 modD (vF 19) (f2 ixD (vF 10) (cD (.int 0)))) (f2 ixD (vF 10) (cD (.int 1))))) (vF 10) [10]) (aNil))) [19])
      [.im (.list (ns.map .int)), .im (.tuple (zs.map pS)), x2, .im (.int (lcmF zs : Nat)), x4, x5, x6, .im (.int f), .im (.int ((f : Int) + w)), .im (.list ((timesL f w).map fun (t : Nat) => .int (t : Int))), y10, x11, x12, x13, x14, x15, x16, x17, x18, y19, x20, x21] = some (.list ((timesL f w).map fun t => .int (cntF zs t : Nat))) := by
    have hi := fun t => inner zs hl hz t (.im (.list (ns.map .int))) x2 (.im (.int (lcmF zs : Nat))) x4 x5 x6 (.im (.int f)) (.im (.int ((f : Int) + w))) (.im (.list ((timesL f w).map fun (t : Nat) => .int (t : Int)))) y10 x11 x12 x13 x14 x15 x16 x17 x18 x20 x21
    simp -implicitDefEqProofs only [fLc_e, fI_e, vF_e, List.getElem?_cons_zero, List.getElem?_cons_succ, imD_im, Option.bind_some, walk_l, wipeR_c, wipeR_n, List.set_cons_succ, List.set_cons_zero, sN_e]
    rw [lcL_all (g := fun t => .int (cntF zs t : Nat)) (by simp) (fun t _ => by
      have := hi t
      simp -implicitDefEqProofs only [fLc_e, fI_e, vF_e, List.getElem?_cons_zero, List.getElem?_cons_succ, imD_im, Option.bind_some, walk_t, wipeR_c, wipeR_n, List.set_cons_succ, List.set_cons_zero, sN_e] at this
      simp -implicitDefEqProofs only [fB_e, aCons_e, aNil_e, fLc_e, fI_e, vF_e, List.getElem?_cons_zero, List.getElem?_cons_succ, imD_im, Option.bind_some, walk_t, wipeR_c, wipeR_n, List.set_cons_succ, List.set_cons_zero, sN_e, this, len_l]
      simp [cntF]), Option.bind_some, lcB_small (by rw [List.length_map, times_len]; omega)]
  have hclr : (fLc (fIs rg1D (aCons (fB lenD (aCons (vF 9) (aNil))) (aNil))) (sN 15) (fT (f2 eqD (f2 ixD (vF 11) (vF 15)) (cD (.int 0)))) (f2 ixD (vF 9) (vF 15)) [15])
      [.im (.list (ns.map .int)), .im (.tuple (zs.map pS)), x2, .im (.int (lcmF zs : Nat)), x4, x5, x6, .im (.int f), .im (.int ((f : Int) + w)), .im (.list ((timesL f w).map fun (t : Nat) => .int (t : Int))), y10, .im (.list ((timesL f w).map fun t => .int (cntF zs t : Nat))), x12, x13, x14, x15, x16, x17, x18, y19, x20, x21] = some (.list (((timesL f w).filter fun t => decide (cntF zs t = 0)).map fun (t : Nat) => .int (t : Int))) := by
    simp -implicitDefEqProofs [times_len]
    have er := rg1_n (k := w + 1) (by omega)
    rw [show ((w + 1 : Nat) : Int) = (w : Int) + 1 by omega] at er
    rw [er, Option.bind_some, lcL_map (p := fun k => decide (cntF zs (f + k) = 0)) (g := fun k => .int ((f + k : Nat) : Int)) (fun k hk => by
      have hk' := List.mem_range.mp hk
      have h1 := at_mk (mk := fun t => PyData.int (cntF zs t : Nat)) (timesL f w) 0 (k := k) (by rw [times_len]; exact hk')
      have h2 : (timesL f w).getD k 0 = f + k := by simp [timesL, List.getD_eq_getElem?_getD, hk']
      rw [h2] at h1
      have h3 := eqN (cntF zs (f + k)) 0
      simp only [Int.natCast_zero] at h3
      generalize cntF zs (f + k) = c at *
      simp -implicitDefEqProofs [h1, h3]) (fun k hk _ => by
      have hk' := List.mem_range.mp hk
      have h1 := at_times f w k hk'
      generalize f + k = t at *
      simp -implicitDefEqProofs [h1]), Option.bind_some, lcB_small (by
        have := List.length_filter_le (fun k => decide (cntF zs (f + k) = 0)) (List.range (w + 1))
        simp only [List.length_map, List.length_range] at *
        omega)]
    rw [timesL, List.filter_map, List.map_map]
    rfl
  have e1 := e_clear zs (by omega) hz f w (by omega) (by omega)
  have e2 := e_how_many zs (by omega) hz f
  have hfl := List.length_filter_le (fun t => decide (cntF zs t = 0)) (timesL f w)
  rw [times_len] at hfl
  have h00 := at_mk (mk := fun t => PyData.int (cntF zs t : Nat)) (timesL f w) 0 (k := 0) (by rw [times_len]; omega)
  have h01 : (timesL f w).getD 0 0 = f := by simp [timesL, List.getD_eq_getElem?_getD]
  rw [h01] at h00
  simp only [Int.natCast_zero] at h00
  have hn := nice_nat.ne (by decide) (cntF zs f) (cntF zs f)
  simp -implicitDefEqProofs only [Option.bind_some, seqO_n, bSeq_e, bAsg_e, hcnt, List.set_cons_succ, List.set_cons_zero, bIf_e, fOrT_e, fNotT_e, fTr_e, fB_e, aCons_e, aNil_e, vF_e, List.getElem?_cons_zero, List.getElem?_cons_succ, imD_im, hclr, fT_e, f2_e, cD_e]
  generalize hC : (timesL f w).map (fun t => PyData.int (cntF zs t : Nat)) = C at *
  simp -implicitDefEqProofs [e1, es _ (show ((timesL f w).filter fun t => decide (cntF zs t = 0)).length ≤ 1000 by omega), e2, h00, hn]
  by_cases hbig : (3000 : Int) < (lcmF zs : Nat)
  · simp -implicitDefEqProofs [hbig]
  · have hsm : lcmF zs ≤ 3000 := by omega
    have em := e_most zs (by omega) hz hsm
    have hp := (fold_b zs hz).1
    have hne : everyL zs (lcmF zs) ≠ [] := fun z => by
      have := congrArg List.length z
      simp [everyL] at this
      unfold lcmF at this
      omega
    have esm : Ph__law_same 4 [mostD zs (lcmF zs), mostD zs (lcmF zs)] = some (.bool true) := e_same_r 4 _ (tame_two rfl rfl)
    have hev : (fLc (fIs rg1D (aCons (vF 3) (aNil))) (sN 19) (fYes) (fB lenD (aCons (fLc (fI (vF 1)) (sN 10) (fT (f2 eqD (f2 modD (vF 19) (f2 ixD (vF 10) (cD (.int 0)))) (f2 ixD (vF 10) (cD (.int 1))))) (vF 10) [10]) (aNil))) [19])
        [.im (.list (ns.map .int)), .im (.tuple (zs.map pS)), x2, .im (.int (lcmF zs : Nat)), x4, x5, x6, .im (.int f), .im (.int ((f : Int) + w)), .im (.list ((timesL f w).map fun (t : Nat) => .int (t : Int))), y10, .im (.list C), x12, x13, x14, x15, x16, x17, x18, y19, x20, x21] = some (.list ((everyL zs (lcmF zs)).map .int)) := by
      have hi := fun t => inner zs hl hz t (.im (.list (ns.map .int))) x2 (.im (.int (lcmF zs : Nat))) x4 x5 x6 (.im (.int f)) (.im (.int ((f : Int) + w))) (.im (.list ((timesL f w).map fun (t : Nat) => .int (t : Int)))) y10 (.im (.list C)) x12 x13 x14 x15 x16 x17 x18 x20 x21
      simp -implicitDefEqProofs only [fLc_e, fIs_e, aCons_e, aNil_e, vF_e, List.getElem?_cons_zero, List.getElem?_cons_succ, imD_im, Option.bind_some, wipeR_c, wipeR_n, List.set_cons_succ, List.set_cons_zero, sN_e, rg1_n (k := lcmF zs) (by omega)]
      rw [lcL_all (g := fun t => .int (cntF zs t : Nat)) (by simp) (fun t _ => by
        have := hi t
        simp -implicitDefEqProofs only [fLc_e, fI_e, vF_e, List.getElem?_cons_zero, List.getElem?_cons_succ, imD_im, Option.bind_some, walk_t, wipeR_c, wipeR_n, List.set_cons_succ, List.set_cons_zero, sN_e] at this
        simp -implicitDefEqProofs only [fB_e, aCons_e, aNil_e, fLc_e, fI_e, vF_e, List.getElem?_cons_zero, List.getElem?_cons_succ, imD_im, Option.bind_some, walk_t, wipeR_c, wipeR_n, List.set_cons_succ, List.set_cons_zero, sN_e, this, len_l]
        simp [cntF]), Option.bind_some, lcB_small (by rw [List.length_map, List.length_range]; omega), everyL, List.map_map]
      rfl
    simp -implicitDefEqProofs only [hbig, decide_false, Bool.false_eq_true, if_false, Option.bind_some, seqO_n, bSeq_e, bAsg_e, hev, List.set_cons_succ, List.set_cons_zero, boolD_e, bNext_e]
    generalize hE : everyL zs (lcmF zs) = E at *
    have em' : mostD zs (lcmF zs) = .tuple [.int (mx E), .int (E.idxOf (mx E) : Nat)] := by rw [mostD, hE]
    rw [em'] at em esm
    simp -implicitDefEqProofs [em, max_l _ hne, nice_int.idx_l (by decide) _ _ (mx_mem hne), esm]
end
end Hd
end

/-! part: K25i -/
section
set_option Elab.async false
set_option linter.all false
set_option maxRecDepth 100000
set_option maxHeartbeats 400000
namespace Hd
open PySem PySem.Spec Q
theorem one_six : ((List.range ((7 : Int) - 1).toNat).map fun (i : Nat) => PyData.int (1 + (i : Int))) = ((List.range 6).map (· + 1)).map fun (m : Nat) => PyData.int (m : Int) := by
  rw [List.map_map]
  exact List.map_congr_left fun i _ => congrArg PyData.int (by show 1 + (i : Int) = ((i + 1 : Nat) : Int); omega)
section
variable (ns : List Int) (zs : List (Nat × Nat)) (hl : 1 ≤ zs.length ∧ zs.length ≤ 4) (hz : ∀ z ∈ zs, okS z)
include hl hz
theorem law_T4 (x2 x4 x5 x6 x7 x8 x9 x10 x11 x12 x13 x14 x15 x16 x17 x18 x19 x20 x21 : Sl) :
    T4_law [.im (.list (ns.map .int)), .im (.tuple (zs.map pS)), x2, .im (.int (lcmF zs : Nat)), x4, x5, x6, x7, x8, x9, x10, x11, x12, x13, x14, x15, x16, x17, x18, x19, x20, x21] = some (.rt (.bool true)) := by
  have hline := line_ge
  have hT := law_T5 ns zs hl hz
  have es2 : ∀ b : Bool, Ph__law_same 4 [.bool b, .bool b] = some (.bool true) := fun b => e_same_r 4 _ rfl
  simp -implicitDefEqProofs [T4_law, rg1_n (k := zs.length) (by omega)]
  obtain ⟨ρ', h1, y6, y17, y18, y20, h2⟩ := forL_all (step := turnD (sN 6) L_law_6) (xs := List.range zs.length) (mk := fun i => .int (i : Nat)) (fun pre (ρ : Rho) => ∃ x6 x17 x18 x20, ρ = [.im (.list (ns.map .int)), .im (.tuple (zs.map pS)), x2, .im (.int (lcmF zs : Nat)), x4, x5, x6, x7, x8, x9, x10, x11, x12, x13, x14, x15, x16, x17, x18, x19, x20, x21])
    [.im (.list (ns.map .int)), .im (.tuple (zs.map pS)), x2, .im (.int (lcmF zs : Nat)), x4, x5, x6, x7, x8, x9, x10, x11, x12, x13, x14, x15, x16, x17, x18, x19, x20, x21] ⟨_, _, _, _, rfl⟩ (by
    rintro pre post ρ i ⟨y6, y17, y18, y20, rfl⟩ hx
    obtain ⟨_, hi, _⟩ := range_split hx
    obtain ⟨ρ2, f1, z17, z18, z20, f2⟩ := forL_all (step := turnD (sN 17) L_law_5) (xs := List.range zs.length) (mk := fun i => .int (i : Nat)) (fun pre (ρ : Rho) => ∃ x17 x18 x20, ρ = [.im (.list (ns.map .int)), .im (.tuple (zs.map pS)), x2, .im (.int (lcmF zs : Nat)), x4, x5, .im (.int i), x7, x8, x9, x10, x11, x12, x13, x14, x15, x16, x17, x18, x19, x20, x21])
      [.im (.list (ns.map .int)), .im (.tuple (zs.map pS)), x2, .im (.int (lcmF zs : Nat)), x4, x5, .im (.int i), x7, x8, x9, x10, x11, x12, x13, x14, x15, x16, y17, y18, x19, y20, x21] ⟨_, _, _, rfl⟩ (by
      rintro pre2 post2 ρ j ⟨z17, z18, z20, rfl⟩ hx2
      obtain ⟨_, hj, _⟩ := range_split hx2
      obtain ⟨ρ3, f3, w18, w20, f4⟩ := forL_all (step := turnD (sN 18) L_law_4) (xs := (List.range 6).map (· + 1)) (mk := fun (m : Nat) => PyData.int (m : Int)) (fun pre (ρ : Rho) => ∃ x18 x20, ρ = [.im (.list (ns.map .int)), .im (.tuple (zs.map pS)), x2, .im (.int (lcmF zs : Nat)), x4, x5, .im (.int i), x7, x8, x9, x10, x11, x12, x13, x14, x15, x16, .im (.int j), x18, x19, x20, x21])
        [.im (.list (ns.map .int)), .im (.tuple (zs.map pS)), x2, .im (.int (lcmF zs : Nat)), x4, x5, .im (.int i), x7, x8, x9, x10, x11, x12, x13, x14, x15, x16, .im (.int j), z18, x19, z20, x21] ⟨_, _, rfl⟩ (by
        rintro pre3 post3 ρ d ⟨w18, w20, rfl⟩ hx3
        have hd : 1 ≤ d ∧ d ≤ 6 := by
          have := split_mem hx3
          obtain ⟨i, hi', rfl⟩ := List.mem_map.mp this
          have := List.mem_range.mp hi'
          omega
        have eh := e_denial_holds zs (by omega) hz i j d hi hj hd
        have a1 := at_mk (mk := pS) zs (0, 0) hi
        have a2 := at_mk (mk := pS) zs (0, 0) hj
        refine ⟨[.im (.list (ns.map .int)), .im (.tuple (zs.map pS)), x2, .im (.int (lcmF zs : Nat)), x4, x5, .im (.int i), x7, x8, x9, x10, x11, x12, x13, x14, x15, x16, .im (.int j), .im (.int d), x19, .im (.bool (dueB zs i j d)), x21], .inl ?_, _, _, rfl⟩
        have hdue : (fAnd (f2 ltD (vF 6) (vF 17)) (fAnd (f2 gtD (vF 18) (cD (.int 1))) (fAnd (f2 eqD (f2 modD (f2 ixD (f2 ixD (vF 1) (vF 6)) (cD (.int 0))) (vF 18)) (cD (.int 0))) (fAnd (f2 eqD (f2 modD (f2 ixD (f2 ixD (vF 1) (vF 17)) (cD (.int 0))) (vF 18)) (cD (.int 0))) (f2 neD (f2 modD (f2 subD (f2 ixD (f2 ixD (vF 1) (vF 6)) (cD (.int 1))) (f2 ixD (f2 ixD (vF 1) (vF 17)) (cD (.int 1)))) (vF 18)) (cD (.int 0)))))))
            [.im (.list (ns.map .int)), .im (.tuple (zs.map pS)), x2, .im (.int (lcmF zs : Nat)), x4, x5, .im (.int i), x7, x8, x9, x10, x11, x12, x13, x14, x15, x16, .im (.int j), .im (.int d), x19, w20, x21] = some (.bool (dueB zs i j d)) := by
          have m1 := modN (t := (zs.getD i (0, 0)).1) (show 0 < d from hd.1)
          have m2 := modN (t := (zs.getD j (0, 0)).1) (show 0 < d from hd.1)
          have n1 := eqN ((zs.getD i (0, 0)).1 % d) 0
          have n2 := eqN ((zs.getD j (0, 0)).1 % d) 0
          have m3 : modD (.int (((zs.getD i (0, 0)).2 : Int) - (zs.getD j (0, 0)).2)) (.int (d : Int)) = some (.int ((((zs.getD i (0, 0)).2 : Int) - (zs.getD j (0, 0)).2) % (d : Int))) := mod_pos (by omega)
          have n3 : neD (.int ((((zs.getD i (0, 0)).2 : Int) - (zs.getD j (0, 0)).2) % (d : Int))) (.int 0) = some (.bool (dB (zs.getD i (0, 0)) (zs.getD j (0, 0)) d)) := by
            have := nice_int.ne (by decide) ((((zs.getD i (0, 0)).2 : Int) - (zs.getD j (0, 0)).2) % (d : Int)) 0
            rw [this, dB]
            by_cases c : (((zs.getD i (0, 0)).2 : Int) - (zs.getD j (0, 0)).2) % (d : Int) = 0 <;> simp [c]
          unfold dueB
          generalize dB (zs.getD i (0, 0)) (zs.getD j (0, 0)) d = b at *
          generalize (((zs.getD i (0, 0)).2 : Int) - (zs.getD j (0, 0)).2) % (d : Int) = r at *
          generalize zs.getD i (0, 0) = u at *
          generalize zs.getD j (0, 0) = v at *
          generalize u.1 % d = p at *
          generalize v.1 % d = q at *
          simp only [Int.natCast_zero] at n1 n2
          by_cases c1 : i < j
          · have c1' : (i : Int) < j := by omega
            by_cases c2 : 1 < d
            · have c2' : (1 : Int) < d := by omega
              by_cases c3 : p = 0
              · by_cases c4 : q = 0
                · simp -implicitDefEqProofs [c1, c1', c2, c2', a1, a2, sx0, sx1, m1, m2, n1, n2, c3, c4, m3, n3]
                · simp -implicitDefEqProofs [c1, c1', c2, c2', a1, a2, sx0, sx1, m1, m2, n1, n2, c3, c4]
              · simp -implicitDefEqProofs [c1, c1', c2, c2', a1, a2, sx0, sx1, m1, m2, n1, n2, c3]
            · have c2' : ¬ (1 : Int) < d := by omega
              simp -implicitDefEqProofs [c1, c1', c2, c2']
          · have c1' : ¬ (i : Int) < j := by omega
            simp -implicitDefEqProofs [c1, c1']
        simp -implicitDefEqProofs only [turnD_e, sN_e, List.set_cons_succ, List.set_cons_zero, Option.bind_some, L_law_4, bSeq_e, bAsg_e, hdue, seqO_n]
        simp -implicitDefEqProofs [eh, es2])
      refine ⟨[.im (.list (ns.map .int)), .im (.tuple (zs.map pS)), x2, .im (.int (lcmF zs : Nat)), x4, x5, .im (.int i), x7, x8, x9, x10, x11, x12, x13, x14, x15, x16, .im (.int j), w18, x19, w20, x21], .inl ?_, _, _, _, rfl⟩
      simp -implicitDefEqProofs only [turnD_e, sN_e, List.set_cons_succ, List.set_cons_zero, Option.bind_some, L_law_5, bFor_e, fIs_e, aCons_e, cD_e, aNil_e]
      rw [rg2_n (by omega) (by omega), Option.bind_some, one_six, f3, f4])
    refine ⟨[.im (.list (ns.map .int)), .im (.tuple (zs.map pS)), x2, .im (.int (lcmF zs : Nat)), x4, x5, .im (.int i), x7, x8, x9, x10, x11, x12, x13, x14, x15, x16, z17, z18, x19, z20, x21], .inl ?_, _, _, _, _, rfl⟩
    simp -implicitDefEqProofs [L_law_6, rg1_n (k := zs.length) (by omega)]
    rw [f1, f2])
  rw [h1]
  subst h2
  simp -implicitDefEqProofs [hT]
end
end Hd
end

/-! part: K25j -/
section
set_option Elab.async false
set_option linter.all false
set_option maxRecDepth 100000
set_option maxHeartbeats 400000
namespace Hd
open PySem PySem.Spec Q
theorem notN_lad (L : Option (List (Nat × Nat))) : notND (ladD L) .none = some (.bool L.isSome) := by cases L <;> rfl
def laterL (n i : Nat) : List Nat := (List.range (n - (i + 1))).map (i + 1 + ·)
theorem row_eq (n i : Nat) (hi : i < n) (b : Nat → Bool) : (laterL n i).filter b = (List.range n).filter fun j => decide (i < j) && b j := by
  have e : List.range n = List.range (i + 1) ++ laterL n i := by
    rw [laterL, ← List.range_add]
    congr 1
    omega
  rw [e, List.filter_append]
  have h1 : (List.range (i + 1)).filter (fun j => decide (i < j) && b j) = [] := by
    rw [List.filter_eq_nil_iff]
    intro j hj
    have := List.mem_range.mp hj
    have h : ¬ i < j := by omega
    simp [h]
  rw [h1, List.nil_append]
  apply List.filter_congr
  intro j hj
  obtain ⟨k, _, rfl⟩ := List.mem_map.mp hj
  have h : i < i + 1 + k := by omega
  simp [h]
theorem rg_later (n i : Nat) (hn : n ≤ 1000) (hi : i < n) : rg2D [.int ((i : Int) + 1), .int (n : Int)] = some ((laterL n i).map fun (j : Nat) => .int (j : Int)) := by
  rw [rg2_n (by omega) (by omega), laterL, List.map_map]
  congr 1
  have e : ((n : Int) - ((i : Int) + 1)).toNat = n - (i + 1) := by omega
  rw [e]
  exact List.map_congr_left fun k _ => by simp
section
variable (zs : List (Nat × Nat)) (hl : 1 ≤ zs.length ∧ zs.length ≤ 4) (hz : ∀ z ∈ zs, okS z)
include hl hz
theorem den_iff : denL zs = [] ↔ zs.Pairwise agr := by
  rw [denL, List.flatMap_eq_nil_iff, List.pairwise_iff_getElem]
  have key : ∀ i j, (hi : i < zs.length) → (hj : j < zs.length) → (bij zs i j = false ↔ agr zs[i] zs[j]) := fun i j hi hj => by
    unfold bij dB gij agr
    rw [List.getD_eq_getElem?_getD, List.getD_eq_getElem?_getD, List.getElem?_eq_getElem hi, List.getElem?_eq_getElem hj]
    simp
  constructor
  · intro h i j hi hj hij
    have h1 := h i (List.mem_range.mpr hi)
    rw [rowD, List.map_eq_nil_iff, List.filter_eq_nil_iff] at h1
    have h2 := h1 j (List.mem_range.mpr hj)
    rw [← key i j hi hj]
    simpa [hij] using h2
  · intro h i hi
    rw [rowD, List.map_eq_nil_iff, List.filter_eq_nil_iff]
    intro j hj
    by_cases hij : i < j
    · have := (key i j (List.mem_range.mp hi) (List.mem_range.mp hj)).mpr (h i j (List.mem_range.mp hi) (List.mem_range.mp hj) hij)
      simp [this]
    · simp [hij]
theorem den_lad : decide (denL zs = []) = (ladA zs).isSome := by
  have h1 := den_iff zs hl hz
  have h2 : ladA zs ≠ none ↔ zs.Pairwise agr := by
    cases zs with
    | nil => simp at hl
    | cons z zs =>
      rw [ladA, ne_eq, Option.map_eq_none_iff, ← ne_eq]
      exact lad_pairs z zs hz
  cases hL : ladA zs with
  | none =>
    have : ¬ denL zs = [] := fun c => (h2.mpr (h1.mp c)) hL
    simp [this]
  | some l =>
    have : denL zs = [] := h1.mpr (h2.mp (by rw [hL]; simp))
    simp [this]
variable (ns : List Int)
theorem law_T3 (x4 x5 x6 x7 x8 x9 x10 x11 x12 x13 x14 x15 x16 x17 x18 x19 x20 x21 : Sl) :
    T3_law [.im (.list (ns.map .int)), .im (.tuple (zs.map pS)), .im (ladD (ladA zs)), .im (.int (lcmF zs : Nat)), x4, x5, x6, x7, x8, x9, x10, x11, x12, x13, x14, x15, x16, x17, x18, x19, x20, x21] = some (.rt (.bool true)) := by
  have hline := line_ge
  have hT := law_T4 ns zs hl hz
  have hrowD : ∀ i, (rowD zs i).length ≤ 4 := fun i => by
    have := List.length_filter_le (fun j => decide (i < j) && bij zs i j) (List.range zs.length)
    simp only [rowD, List.length_map, List.length_range] at *
    omega
  have hrowM : ∀ i, (rowM zs i).length ≤ 4 := fun i => by
    have := List.length_filter_le (fun j => decide (i < j) && !bij zs i j) (List.range zs.length)
    simp only [rowM, List.length_map, List.length_range] at *
    omega
  have hflD : ∀ l : List Nat, (l.flatMap (rowD zs)).length ≤ 4 * l.length := fun l => by
    induction l with
    | nil => simp
    | cons x l ih =>
      have := hrowD x
      simp only [List.flatMap_cons, List.length_append, List.length_cons]
      omega
  have hflM : ∀ l : List Nat, (l.flatMap (rowM zs)).length ≤ 4 * l.length := fun l => by
    induction l with
    | nil => simp
    | cons x l ih =>
      have := hrowM x
      simp only [List.flatMap_cons, List.length_append, List.length_cons]
      omega
  have hlenD := hflD (List.range zs.length)
  have hlenM := hflM (List.range zs.length)
  rw [List.length_range] at hlenD hlenM
  have edn := e_denial zs (by omega) hz
  have eps := e_pairs zs (by omega) hz
  simp -implicitDefEqProofs [T3_law, rg1_n (k := zs.length) (by omega)]
  obtain ⟨ρ', h1, y6, y17, y18, h2⟩ := forL_all (step := turnD (sN 6) L_law_3) (xs := List.range zs.length) (mk := fun i => .int (i : Nat)) (fun pre (ρ : Rho) => ∃ x6 x17 x18, ρ = [.im (.list (ns.map .int)), .im (.tuple (zs.map pS)), .im (ladD (ladA zs)), .im (.int (lcmF zs : Nat)), .ow (.list ((pre.flatMap (rowD zs)).map t3)), .ow (.list ((pre.flatMap (rowM zs)).map pS)), x6, x7, x8, x9, x10, x11, x12, x13, x14, x15, x16, x17, x18, x19, x20, x21])
    [.im (.list (ns.map .int)), .im (.tuple (zs.map pS)), .im (ladD (ladA zs)), .im (.int (lcmF zs : Nat)), .ow (.list []), .ow (.list []), x6, x7, x8, x9, x10, x11, x12, x13, x14, x15, x16, x17, x18, x19, x20, x21] ⟨_, _, _, rfl⟩ (by
    rintro pre post ρ i ⟨y6, y17, y18, rfl⟩ hx
    obtain ⟨_, hi, _⟩ := range_split hx
    have hpl := split_len hx
    rw [List.length_range] at hpl
    have hfd := hflD pre
    have hfm := hflM pre
    rw [List.flatMap_append, List.flatMap_append]
    generalize pre.flatMap (rowD zs) = F at *
    generalize pre.flatMap (rowM zs) = G at *
    have hll : (laterL zs.length i).length ≤ 4 := by simp [laterL]; omega
    obtain ⟨ρ2, f1, z17, z18, f2⟩ := forL_all (step := turnD (sN 17) L_law_2) (xs := laterL zs.length i) (mk := fun (j : Nat) => PyData.int (j : Int)) (fun pre (ρ : Rho) => ∃ x17 x18, ρ = [.im (.list (ns.map .int)), .im (.tuple (zs.map pS)), .im (ladD (ladA zs)), .im (.int (lcmF zs : Nat)), .ow (.list ((F ++ (pre.filter (bij zs i)).map fun j => (i, j, gij zs i j)).map t3)), .ow (.list ((G ++ (pre.filter fun j => !bij zs i j).map fun j => (i, j)).map pS)), .im (.int i), x7, x8, x9, x10, x11, x12, x13, x14, x15, x16, x17, x18, x19, x20, x21])
      [.im (.list (ns.map .int)), .im (.tuple (zs.map pS)), .im (ladD (ladA zs)), .im (.int (lcmF zs : Nat)), .ow (.list (F.map t3)), .ow (.list (G.map pS)), .im (.int i), x7, x8, x9, x10, x11, x12, x13, x14, x15, x16, y17, y18, x19, x20, x21] ⟨y17, y18, by simp⟩ (by
      rintro pre2 post2 ρ j ⟨z17, z18, rfl⟩ hx2
      have hj : j < zs.length := by
        obtain ⟨k, hk, rfl⟩ := List.mem_map.mp (split_mem hx2)
        have := List.mem_range.mp hk
        omega
      have hp2 := split_len hx2
      have q1 := List.length_filter_le (bij zs i) pre2
      have q2 := List.length_filter_le (fun j => !bij zs i j) pre2
      have b1 : F.length + (pre2.filter (bij zs i)).length < sizeLine := by omega
      have b2 : G.length + (pre2.filter fun j => !bij zs i j).length < sizeLine := by omega
      have a1 := at_mk (mk := pS) zs (0, 0) hi
      have a2 := at_mk (mk := pS) zs (0, 0) hj
      have o1 := at_ok zs (by omega) hz hi
      have o2 := at_ok zs (by omega) hz hj
      have hg : Ph__law_gcd [.int ((zs.getD i (0, 0)).1 : Int), .int ((zs.getD j (0, 0)).1 : Int)] = some (.int (gij zs i j : Nat)) := e_gcd _ _ (by
        have h1 : (zs.getD i (0, 0)).1 * (zs.getD j (0, 0)).1 ≤ 60 * 60 := Nat.mul_le_mul o1.2.1 o2.2.1
        have h2 : 60 * 60 < 2 ^ 300 := by decide +kernel
        omega)
      have hp := gij_pos zs (by omega) hz (j := j) hi
      have m3 : modD (.int (((zs.getD i (0, 0)).2 : Int) - (zs.getD j (0, 0)).2)) (.int (gij zs i j : Nat)) = some (.int ((((zs.getD i (0, 0)).2 : Int) - (zs.getD j (0, 0)).2) % (gij zs i j : Nat))) := mod_pos (by omega)
      have n3 : neD (.int ((((zs.getD i (0, 0)).2 : Int) - (zs.getD j (0, 0)).2) % (gij zs i j : Nat))) (.int 0) = some (.bool (bij zs i j)) := by
        have := nice_int.ne (by decide) ((((zs.getD i (0, 0)).2 : Int) - (zs.getD j (0, 0)).2) % (gij zs i j : Nat)) 0
        rw [this, bij, dB]
        by_cases c : (((zs.getD i (0, 0)).2 : Int) - (zs.getD j (0, 0)).2) % (gij zs i j : Nat) = 0 <;> simp [c]
      refine ⟨[.im (.list (ns.map .int)), .im (.tuple (zs.map pS)), .im (ladD (ladA zs)), .im (.int (lcmF zs : Nat)), .ow (.list ((F ++ ((pre2 ++ [j]).filter (bij zs i)).map fun j => (i, j, gij zs i j)).map t3)), .ow (.list ((G ++ ((pre2 ++ [j]).filter fun j => !bij zs i j).map fun j => (i, j)).map pS)), .im (.int i), x7, x8, x9, x10, x11, x12, x13, x14, x15, x16, .im (.int j), .im (.int (gij zs i j : Nat)), x19, x20, x21], .inl ?_, _, _, rfl⟩
      rw [List.filter_append, List.filter_append]
      generalize pre2.filter (bij zs i) = P1 at *
      generalize pre2.filter (fun j => !bij zs i j) = P2 at *
      generalize (((zs.getD i (0, 0)).2 : Int) - (zs.getD j (0, 0)).2) % (gij zs i j : Nat) = R at *
      generalize zs.getD i (0, 0) = u at *
      generalize zs.getD j (0, 0) = v at *
      cases c : bij zs i j with
      | true =>
        rw [c] at n3
        simp -implicitDefEqProofs [L_law_2, a1, a2, sx0, sx1, hg, m3, n3, c, b1]
        rfl
      | false =>
        rw [c] at n3
        simp -implicitDefEqProofs [L_law_2, a1, a2, sx0, sx1, hg, m3, n3, c, b2]
        rfl)
    refine ⟨[.im (.list (ns.map .int)), .im (.tuple (zs.map pS)), .im (ladD (ladA zs)), .im (.int (lcmF zs : Nat)), .ow (.list ((F ++ [i].flatMap (rowD zs)).map t3)), .ow (.list ((G ++ [i].flatMap (rowM zs)).map pS)), .im (.int i), x7, x8, x9, x10, x11, x12, x13, x14, x15, x16, z17, z18, x19, x20, x21], .inl ?_, _, _, _, rfl⟩
    simp -implicitDefEqProofs [L_law_3, rg_later zs.length i (by omega) hi]
    rw [f1, f2, row_eq zs.length i hi, row_eq zs.length i hi]
    simp [rowD, rowM])
  rw [h1]
  subst h2
  have hD : (List.range zs.length).flatMap (rowD zs) = denL zs := rfl
  have hM : (List.range zs.length).flatMap (rowM zs) = meetL zs := rfl
  rw [hD] at hlenD ⊢
  rw [hM] at hlenM ⊢
  have ed := (nice_lst nice_t3).eq (by decide) (denL zs) []
  have en := (nice_lst nice_t3).ne (by decide) (denL zs) []
  have hdl := den_lad zs hl hz
  simp only [List.map_nil] at ed en
  have eb := nice_bool.ne (by decide) (ladA zs).isSome (ladA zs).isSome
  have esm : Ph__law_same 4 [.tuple ((meetL zs).map pS), .tuple ((meetL zs).map pS)] = some (.bool true) := e_same_r 4 _ (tame_mk (n := 3) (fun z => rfl) _ (by omega))
  have esd : Ph__law_same 4 [hd3 (denL zs), hd3 (denL zs)] = some (.bool true) := e_same_r 4 _ (by cases denL zs <;> rfl)
  have hdd : ∀ ρ : Rho, ρ[4]? = some (.ow (.list ((denL zs).map t3))) → (fIf (fT (f2 neD (vP 4) (fLst (aNil)))) (f2 ixD (vP 4) (cD (.int 0))) (cD .none)) ρ = some (hd3 (denL zs)) := fun ρ hρ => by
    cases hden : denL zs with
    | nil =>
      rw [hden] at hρ en
      simp -implicitDefEqProofs [hρ, hd3] at en ⊢
      simp [en]
    | cons p r =>
      rw [hden] at hρ en
      have i0 : L2.atI (t3 p :: r.map t3) 0 = some (t3 p) := atI_nat (n := 0) (by simp)
      simp -implicitDefEqProofs [hρ, hd3] at en ⊢
      simp [en, i0]
  rw [hdl] at ed
  simp -implicitDefEqProofs only [Option.bind_some, seqO_n, bSeq_e, bIf_e, fOrT_e, fNotT_e, fTr_e, fB_e, aCons_e, aNil_e, vF_e, List.getElem?_cons_zero, List.getElem?_cons_succ, imD_im, fT_e, f2_e, cD_e, hdd, fLst_e]
  simp -implicitDefEqProofs [ed, notN_lad, eb, edn, esd, eps, esm, hT]
end
end Hd
end

/-! part: K25k -/
section
set_option Elab.async false
set_option linter.all false
set_option maxRecDepth 100000
set_option maxHeartbeats 400000
namespace Hd
open PySem PySem.Spec Q
theorem lad_facts : ∀ (zs : List (Nat × Nat)) (t s : Nat) (r : List (Nat × Nat)), 0 < s → (∀ z ∈ zs, okS z) → lad t s zs = some r → r.length = zs.length ∧ ∀ e ∈ r, 0 < e.2
  | [], t, s, r, _, _, h => by
    rw [lad] at h
    cases h
    exact ⟨rfl, fun e he => by cases he⟩
  | z :: zs, t, s, r, hs, hz, h => by
    rw [lad] at h
    split at h
    · cases h
    · rename_i k hk
      obtain ⟨r', h1, rfl⟩ := Option.map_eq_some_iff.mp h
      have hl := Nat.lcm_pos hs (show 0 < z.1 from (hz z List.mem_cons_self).1)
      obtain ⟨a, b⟩ := lad_facts zs _ _ r' hl (fun y hy => hz y (List.mem_cons_of_mem _ hy)) h1
      refine ⟨by simp [a], fun e he => ?_⟩
      rcases List.mem_cons.mp he with rfl | he
      · exact hl
      · exact b e he
def chg (l : List (Nat × Nat)) (k : Nat) (e : Nat × Nat) : List (Nat × Nat) := l.take k ++ [e] ++ l.drop (k + 1)
theorem chg_ne (l : List (Nat × Nat)) (k : Nat) (hk : k < l.length) (e : Nat × Nat) (he : e ≠ l.getD k (0, 0)) : chg l k e ≠ l := fun h => by
  apply he
  have h1 : (chg l k e)[k]? = some e := by
    rw [chg, List.append_assoc, List.getElem?_append_right (by simp; omega)]
    simp [Nat.min_eq_left (Nat.le_of_lt hk)]
  rw [h] at h1
  simp [List.getD_eq_getElem?_getD, h1]
theorem cut_takeS (ds : List D) (k : Nat) (hk : k ≤ ds.length) : cutL ds none (some (k : Int)) = ds.take k := by
  have h0 : ¬ (k : Int) < 0 := by omega
  unfold cutL HT.sIx
  simp only [if_neg h0, List.drop_zero, Nat.sub_zero, Int.toNat_natCast, Nat.min_eq_left hk]
theorem cut_dropS (ds : List D) (k : Nat) (hk : k + 1 ≤ ds.length) : cutL ds (some ((k : Int) + 1)) none = ds.drop (k + 1) := by
  have h0 : ¬ ((k : Int) + 1) < 0 := by omega
  unfold cutL HT.sIx
  have e : ((k : Int) + 1).toNat = k + 1 := by omega
  simp only [if_neg h0, e, Nat.min_eq_left hk]
  rw [List.take_of_length_le (by simp)]
section
variable (z0 : Nat × Nat) (zs : List (Nat × Nat)) (hl : zs.length ≤ 3) (hz : ∀ z ∈ z0 :: zs, okS z) (ns : List Int)
include hl hz
theorem law_T2 (x4 x5 x6 x7 x8 x9 x10 x11 x12 x13 x14 x15 x16 x17 x18 x19 x20 x21 : Sl) :
    T2_law [.im (.list (ns.map .int)), .im (.tuple ((z0 :: zs).map pS)), .im (ladD (ladA (z0 :: zs))), .im (.int (lcmF (z0 :: zs) : Nat)), x4, x5, x6, x7, x8, x9, x10, x11, x12, x13, x14, x15, x16, x17, x18, x19, x20, x21] = some (.rt (.bool true)) := by
  have hline := line_ge
  have hT := law_T3 (z0 :: zs) (by simp; omega) hz ns
  have hc3 : Ph__law_cell [.list (ns.map .int), .int 3] = some (.int (ns.getD 3 0)) := e_cell ns 3
  have elh := fun d r => e_ladder_holds z0 zs (by omega) hz d r
  have hlenS : ((z0 :: zs).map pS).length = zs.length + 1 := by simp
  generalize hsw : (z0 :: zs).map pS = sw at *
  cases hL : ladA (z0 :: zs) with
  | none =>
    have hn : 1 ≤ zs.length := by
      cases zs with
      | nil => rw [ladA, lad] at hL; cases hL
      | cons a b => simp
    rw [hL] at hT elh
    have e1 := elh (.tuple (List.replicate (zs.length + 1) [PyData.tuple [.int 0, .int 1]]).flatten) (fun _ => true) (fun l h => by cases h)
    have e2 : repTD (.tuple [.tuple [.int 0, .int 1]]) (.int ((zs.length : Int) + 1)) = some (.tuple (List.replicate (zs.length + 1) [PyData.tuple [.int 0, .int 1]]).flatten) := by
      have et : ((zs.length : Int) + 1).toNat = zs.length + 1 := by omega
      rw [repTD, if_pos ⟨by simp, by omega, by omega, by simp⟩, et]
    simp only at e1
    simp only [List.flatten_replicate_singleton] at e1 e2
    simp only [ladD] at hT
    simp -implicitDefEqProofs [T2_law, ladD, hlenS, e2, e1, hT]
  | some l =>
    have hne := lad_ne _ _ hL
    have hz0 := hz z0 List.mem_cons_self
    have hfacts : l.length = zs.length + 1 ∧ ∀ e ∈ l, 0 < e.2 := by
      have h := hL
      rw [ladA] at h
      obtain ⟨r, h1, rfl⟩ := Option.map_eq_some_iff.mp h
      obtain ⟨a, b⟩ := lad_facts zs _ _ r (show 0 < z0.1 from hz0.1) (fun y hy => hz y (List.mem_cons_of_mem _ hy)) h1
      refine ⟨by simp [a], fun e he => ?_⟩
      rcases List.mem_cons.mp he with rfl | he
      · exact hz0.1
      · exact b e he
    obtain ⟨hll, hpos⟩ := hfacts
    obtain ⟨k, hk1, hk2⟩ := mod_nat (ns[3]?.getD 0) (show (0 : Int) < (l.length : Int) by omega)
    have hk : k < l.length := by omega
    rw [hL] at hT elh
    have tl : ∀ (ws : List (Nat × Nat)), ws.length ≤ 1000 → Ph_ladder_holds [.tuple sw, .tuple (ws.map pS)] = some (.bool (decide (ws = l))) := fun ws hw => elh _ (fun l => decide (ws = l)) (fun l' _ => e_told ws l' _ hw (.inl rfl))
    have tl2 : Ph_ladder_holds [.tuple sw, .list (l.map lS)] = some (.bool true) := by
      have := elh (.list (l.map lS)) (fun l' => decide (l = l')) (fun l' _ => e_told l l' _ (by omega) (.inr rfl))
      simpa using this
    have t7 : Ph_ladder_holds [.tuple sw, .int 7] = some (.bool false) := elh (.int 7) (fun _ => false) (fun l' _ => e_told_7 3 7 _)
    have el : Ph__law_listed 4 [.tuple (l.map pS)] = some (.list (l.map lS)) := by
      rw [e_listed_g 4 _ (tame_mk (n := 3) (fun z => rfl) l (by omega)), lstd_mk (mk' := lS) (n := 3) (fun z => rfl)]
    have c1 := cut_takeS (l.map pS) k (by simp; omega)
    have c2 := cut_dropS (l.map pS) k (by simp; omega)
    have c3 : cutL (l.map pS) (some 1) none = (l.drop 1).map pS := by
      have := cut_dropS (l.map pS) 0 (by simp; omega)
      rw [← List.map_drop] at this
      simpa using this
    rw [← List.map_take] at c1
    rw [← List.map_drop] at c2
    have ha := at_mk (mk := pS) l (0, 0) hk
    have hge : ∀ e, (chg l k e).length ≤ 1000 := fun e => by simp [chg]; omega
    have w1 := tl (l.drop 1) (by simp; omega)
    have w2 := tl (chg l k ((l.getD k (0, 0)).1 + 1, (l.getD k (0, 0)).2)) (hge _)
    have w3 := tl (chg l k ((l.getD k (0, 0)).1, (l.getD k (0, 0)).2 + 1)) (hge _)
    have w4 := tl (chg l k ((l.getD k (0, 0)).1 + (l.getD k (0, 0)).2, (l.getD k (0, 0)).2)) (hge _)
    have hp2 : 0 < (l.getD k (0, 0)).2 := hpos _ (by rw [List.getD_eq_getElem?_getD, List.getElem?_eq_getElem hk]; exact List.getElem_mem hk)
    have d1 : l.drop 1 ≠ l := fun h => by
      have := congrArg List.length h
      simp at this
      omega
    have d2 := chg_ne l k hk ((l.getD k (0, 0)).1 + 1, (l.getD k (0, 0)).2) (fun h => by have := congrArg Prod.fst h; simp only at this; omega)
    have d3 := chg_ne l k hk ((l.getD k (0, 0)).1, (l.getD k (0, 0)).2 + 1) (fun h => by have := congrArg Prod.snd h; simp only at this; omega)
    have d4 := chg_ne l k hk ((l.getD k (0, 0)).1 + (l.getD k (0, 0)).2, (l.getD k (0, 0)).2) (fun h => by have := congrArg Prod.fst h; simp only at this; omega)
    simp only [d1, d2, d3, d4, decide_false] at w1 w2 w3 w4
    have hmod : modD (.int (ns[3]?.getD 0)) (.int (l.length : Int)) = some (.int (k : Int)) := by rw [mod_pos (by omega), hk1]
    have hA : (l.take k).length ≤ 4 := by simp; omega
    have hB : (l.drop (k + 1)).length ≤ 4 := by simp; omega
    have hch : ∀ e, chg l k e = l.take k ++ [e] ++ l.drop (k + 1) := fun e => rfl
    simp only [ladD] at hT
    simp only [hch] at w2 w3 w4
    clear d1 d2 d3 d4 hge hch
    generalize l.take k = A at *
    generalize l.drop (k + 1) = B at *
    generalize l.drop 1 = C at *
    generalize l.getD k (0, 0) = v at *
    have hs1 : A.length + 1 ≤ sizeLine := by omega
    have hs2 : A.length + 1 + B.length ≤ sizeLine := by omega
    have p1 : PyData.tuple [.int ((v.1 : Int) + 1), .int (v.2 : Int)] = pS (v.1 + 1, v.2) := by simp [pS]
    have p2 : PyData.tuple [.int (v.1 : Int), .int ((v.2 : Int) + 1)] = pS (v.1, v.2 + 1) := by simp [pS]
    have p3 : PyData.tuple [.int ((v.1 : Int) + v.2), .int (v.2 : Int)] = pS (v.1 + v.2, v.2) := by simp [pS]
    simp -implicitDefEqProofs only [List.map_append, List.map_cons, List.map_nil] at w2 w3 w4
    have e0 : neD (.list []) (.list []) = some (.bool false) := rfl
    simp -implicitDefEqProofs [T2_law, ladD, hc3, hmod, c1, c2, c3, ha, sx0, sx1, hs1, hs2, p1, p2, p3]
    simp -implicitDefEqProofs only [List.append_assoc, List.singleton_append] at w2 w3 w4
    rw [lcL_no (fun d hd => by
      simp only [List.mem_cons, List.not_mem_nil, or_false] at hd
      rcases hd with rfl | rfl | rfl | rfl | rfl
      · simp [t7]
      · simp [w1]
      · simp [w2]
      · simp [w3]
      · simp [w4])]
    simp -implicitDefEqProofs [el, tl2, lcB, e0, hT]
end
end Hd
end

/-! part: K25l -/
section
set_option Elab.async false
set_option linter.all false
set_option maxRecDepth 100000
set_option maxHeartbeats 400000
namespace Hd
open PySem PySem.Spec Q
def sw1 (g : Bool) (n : Int) : Nat × Nat := ((1 + n % (if g = true then 60 else 12)).toNat, (n / 60 % (1 + n % (if g = true then 60 else 12))).toNat)
theorem sw1_ok (g : Bool) (n : Int) : okS (sw1 g n) := by
  have h60 := Int.emod_nonneg n (show (60 : Int) ≠ 0 by decide)
  have h61 := Int.emod_lt_of_pos n (show (0 : Int) < 60 by decide)
  have h12 := Int.emod_nonneg n (show (12 : Int) ≠ 0 by decide)
  have h13 := Int.emod_lt_of_pos n (show (0 : Int) < 12 by decide)
  unfold okS sw1
  cases g with
  | true =>
    have k0 := Int.emod_nonneg (n / 60) (show (1 + n % 60 : Int) ≠ 0 by omega)
    have k1 := Int.emod_lt_of_pos (n / 60) (show (0 : Int) < 1 + n % 60 by omega)
    simp only [if_true]
    omega
  | false =>
    have k0 := Int.emod_nonneg (n / 60) (show (1 + n % 12 : Int) ≠ 0 by omega)
    have k1 := Int.emod_lt_of_pos (n / 60) (show (0 : Int) < 1 + n % 12 by omega)
    simp only [Bool.false_eq_true, if_false]
    omega
theorem sw1_p (g : Bool) (n : Int) : ((sw1 g n).1 : Int) = 1 + n % (if g = true then 60 else 12) ∧ ((sw1 g n).2 : Int) = n / 60 % ((sw1 g n).1 : Int) := by
  have h60 := Int.emod_nonneg n (show (60 : Int) ≠ 0 by decide)
  have h12 := Int.emod_nonneg n (show (12 : Int) ≠ 0 by decide)
  have h1 : ((sw1 g n).1 : Int) = 1 + n % (if g = true then 60 else 12) := by
    unfold sw1
    cases g with
    | true => simp only [if_true]; omega
    | false => simp only [Bool.false_eq_true, if_false]; omega
  refine ⟨h1, ?_⟩
  rw [h1]
  have hp : 0 < 1 + n % (if g = true then 60 else 12) := by cases g <;> simp <;> omega
  have k0 := Int.emod_nonneg (n / 60) (show (1 + n % (if g = true then 60 else 12) : Int) ≠ 0 by omega)
  show (((n / 60 % (1 + n % (if g = true then 60 else 12))).toNat : Nat) : Int) = _
  omega
theorem e_law_swings (l : List Int) (g : Bool) (hl : l.length ≤ 1000) : Ph__law_swings [.list (l.map .int), .bool g] = some (.tuple ((l.map (sw1 g)).map pS)) := by
  have hline := line_ge
  simp -implicitDefEqProofs [Ph__law_swings, b__law_swings]
  obtain ⟨ρ', h1, x3, x4, h2⟩ := forL_all (step := turnD (sN 3) L__law_swings_1) (xs := l) (mk := PyData.int) (fun pre (ρ : Rho) => ∃ x3 x4, ρ = [.im (.list (l.map .int)), .im (.bool g), .ow (.list ((pre.map (sw1 g)).map pS)), x3, x4])
    [.im (.list (l.map .int)), .im (.bool g), .ow (.list []), .un, .un] ⟨_, _, rfl⟩ (by
    rintro pre post ρ n ⟨x3, x4, rfl⟩ hx
    have hlt := split_len hx
    have hb : pre.length < sizeLine := by omega
    obtain ⟨p1, p2⟩ := sw1_p g n
    have hok := sw1_ok g n
    have hm : modD (.int (n / 60)) (.int ((sw1 g n).1 : Int)) = some (.int ((sw1 g n).2 : Int)) := by rw [mod_pos (by have := hok.1; omega), p2]
    refine ⟨[.im (.list (l.map .int)), .im (.bool g), .ow (.list (((pre ++ [n]).map (sw1 g)).map pS)), .im (.int n), .im (.int ((sw1 g n).1 : Int))], .inl ?_, _, _, rfl⟩
    rw [List.map_append, List.map_cons, List.map_nil]
    generalize sw1 g n = z at *
    cases g with
    | true =>
      simp only [if_true] at p1
      simp -implicitDefEqProofs [L__law_swings_1, ← p1, hm, hb]
      rfl
    | false =>
      simp only [Bool.false_eq_true, if_false] at p1
      simp -implicitDefEqProofs [L__law_swings_1, ← p1, hm, hb]
      rfl)
  rw [h1]
  subst h2
  simp
theorem law_T1 (z0 : Nat × Nat) (zs : List (Nat × Nat)) (hl : zs.length ≤ 3) (hz : ∀ z ∈ z0 :: zs, okS z) (ns : List Int) (x3 x4 x5 x6 x7 x8 x9 x10 x11 x12 x13 x14 x15 x16 x17 x18 x19 x20 x21 : Sl) :
    T1_law [.im (.list (ns.map .int)), .im (.tuple ((z0 :: zs).map pS)), .im (ladD (ladA (z0 :: zs))), x3, x4, x5, x6, x7, x8, x9, x10, x11, x12, x13, x14, x15, x16, x17, x18, x19, x20, x21] = some (.rt (.bool true)) := by
  have hT := law_T2 z0 zs hl hz ns
  have e1 := e_again (z0 :: zs) (by simp; omega) hz
  have hlen : (z0 :: zs).length ≤ 4 := by simp; omega
  generalize z0 :: zs = ws at *
  obtain ⟨ρ', h1, y13, y14, h2⟩ := forL_all (step := turnD (sT 2 (sCons (sN 13) (sCons (sN 14) (sNil)))) L_law_1) (xs := ws) (mk := pS) (fun pre (ρ : Rho) => ∃ x13 x14, ρ = [.im (.list (ns.map .int)), .im (.tuple (ws.map pS)), .im (ladD (ladA ws)), .im (.int (pre.foldl (fun w z => Nat.lcm w z.1) 1 : Nat)), x4, x5, x6, x7, x8, x9, x10, x11, x12, x13, x14, x15, x16, x17, x18, x19, x20, x21])
    [.im (.list (ns.map .int)), .im (.tuple (ws.map pS)), .im (ladD (ladA ws)), .im (.int 1), x4, x5, x6, x7, x8, x9, x10, x11, x12, x13, x14, x15, x16, x17, x18, x19, x20, x21] ⟨_, _, rfl⟩ (by
    rintro pre post ρ z ⟨y13, y14, rfl⟩ hx
    have hp : ∀ y ∈ pre, okS y := fun y hy => hz y (by rw [hx]; exact List.mem_append_left _ hy)
    obtain ⟨f1, f2⟩ := fold_b pre hp
    have h60 := pow60 (n := pre.length) (by have := split_len hx; omega)
    have hzz := hz z (split_mem hx)
    have hlcm := e_law_lcm (pre.foldl (fun w z => Nat.lcm w z.1) 1) z.1 ⟨f1, by omega⟩ ⟨hzz.1, hzz.2.1⟩
    refine ⟨[.im (.list (ns.map .int)), .im (.tuple (ws.map pS)), .im (ladD (ladA ws)), .im (.int ((pre ++ [z]).foldl (fun w z => Nat.lcm w z.1) 1 : Nat)), x4, x5, x6, x7, x8, x9, x10, x11, x12, .im (.int z.1), .im (.int z.2), x15, x16, x17, x18, x19, x20, x21], .inl ?_, _, _, rfl⟩
    rw [List.foldl_append, List.foldl_cons, List.foldl_nil]
    generalize pre.foldl (fun w z => Nat.lcm w z.1) 1 = W at *
    simp -implicitDefEqProofs [L_law_1, sT_pS, hlcm])
  have hF : ws.foldl (fun w z => Nat.lcm w z.1) 1 = lcmF ws := rfl
  rw [hF] at h2
  have hn := nice_nat.ne (by decide) (lcmF ws) (lcmF ws)
  simp -implicitDefEqProofs [T1_law]
  rw [h1]
  subst h2
  generalize lcmF ws = W at *
  simp -implicitDefEqProofs [e1, hn, hT]
theorem e_law (ns : List Int) : Ph_law [.list (ns.map .int)] = some (.bool true) := by
  have hc1 : Ph__law_cell [.list (ns.map .int), .int 1] = some (.int (ns.getD 1 0)) := e_cell ns 1
  have hc2 : Ph__law_cell [.list (ns.map .int), .int 2] = some (.int (ns.getD 2 0)) := e_cell ns 2
  obtain ⟨k, hk, hk2⟩ := mod_nat (ns[1]?.getD 0) (show (0 : Int) < 4 by decide)
  have hn : ∃ l : List Int, l.length = k + 1 ∧ Ph__law_numbers [.list (ns.map .int), .int 0, .int (1 + (k : Int))] = some (.list (l.map .int)) := by
    obtain ⟨l, h1, h2⟩ := e_numbers ns 0 (k + 1) (by omega)
    exact ⟨l, h1, by rw [show (1 + (k : Int)) = ((k + 1 : Nat) : Int) by omega]; exact h2⟩
  obtain ⟨l, hll, hn⟩ := hn
  obtain ⟨g, hg⟩ : ∃ g : Bool, (ns[2]?.getD 0 % 5 == 0) = g := ⟨_, rfl⟩
  have es := e_law_swings l g (by omega)
  have hlen : (l.map (sw1 g)).length = k + 1 := by simp [hll]
  have hok : ∀ z ∈ l.map (sw1 g), okS z := fun z hz => by
    obtain ⟨n, _, rfl⟩ := List.mem_map.mp hz
    exact sw1_ok g n
  generalize l.map (sw1 g) = ws at *
  cases ws with
  | nil => simp at hlen
  | cons z0 zs =>
    have hl3 : zs.length ≤ 3 := by simp at hlen; omega
    have a1 := e_law_ladder z0 zs (by omega) hok
    have a2 := e_ladder z0 zs (by omega) hok (.list ((z0 :: zs).map lS)) (.inr rfl)
    have a3 := e_together z0 zs (by omega) hok
    have hT := law_T1 z0 zs hl3 hok ns
    have el : Ph__law_listed 4 [.tuple ((z0 :: zs).map pS)] = some (.list ((z0 :: zs).map lS)) := by
      rw [e_listed_g 4 _ (tame_mk (n := 3) (fun z => rfl) _ (by simp; omega)), lstd_mk (mk' := lS) (n := 3) (fun z => rfl)]
    have hfl : ∀ l, ladA (z0 :: zs) = some l → l.length ≤ 1000 := fun l h => by
      rw [ladA] at h
      obtain ⟨r, h1, rfl⟩ := Option.map_eq_some_iff.mp h
      have := (lad_facts zs _ _ r (show 0 < z0.1 from (hok z0 List.mem_cons_self).1) (fun y hy => hok y (List.mem_cons_of_mem _ hy)) h1).1
      simp [this]
      omega
    have s1 : Ph__law_same 4 [ladD (ladA (z0 :: zs)), ladD (ladA (z0 :: zs))] = some (.bool true) := e_same_r 4 _ (by
      cases h : ladA (z0 :: zs) with
      | none => rfl
      | some l => exact tame_mk (n := 3) (fun z => rfl) l (hfl l h))
    have s2 : Ph__law_same 4 [togD (ladA (z0 :: zs)), togD (ladA (z0 :: zs))] = some (.bool true) := e_same_r 4 _ (by cases ladA (z0 :: zs) <;> rfl)
    have hne : ∀ l, ladA (z0 :: zs) = some l → l ≠ [] := fun l h => lad_ne _ _ h
    rw [Ph_law, b_law_eq]
    generalize (z0 :: zs).map pS = sw at *
    generalize (z0 :: zs).map lS = sl at *
    generalize ladA (z0 :: zs) = L at *
    cases L with
    | none =>
      simp only [ladD, togD] at *
      simp -implicitDefEqProofs [b_law2, hc1]
      rw [hk]
      simp -implicitDefEqProofs [hn, hc2, hg, es, a1, el, a2, s1, a3, s2, hT]
    | some r =>
      have hat := at_lastS r (hne r rfl)
      simp only [ladD, togD] at *
      generalize r.getLastD (0, 0) = v at *
      simp -implicitDefEqProofs [b_law2, hc1]
      rw [hk]
      simp -implicitDefEqProofs [hn, hc2, hg, es, a1, el, a2, s1, a3, hat, sx0, s2, hT]
end Hd
end

theorem PySem.Challenge.cw_playground_k25_swings_together_or_never_holds : PySem.Challenge.rw_playground_k25_swings_together_or_never.Holds := by
  exact law_from fun ns _ => Hd.e_law ns
